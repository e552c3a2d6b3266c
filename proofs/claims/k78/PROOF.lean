import PyProof.Rows.All
import Wide.All
import OpenK.AllK
import Wide.FinOn
import HandS.ForMost
import KE.KeyNested
import KE.KDictKeyed
import PyProof.Rows.TupDisplay
import KE.KExcInit
import HandS.Exc
import HandS.ExcOwn
import HandS.ExcInit
import HandS.Defaults
import HandS.MakeKwOnly
import HandS.Codes
import HandS.IsInst
import HandS.HeadHook4
import HandS.Walk
import HandS.ExcField
import HandS.CallSlots
import KE.KExcIs
import KE.KDictLaws
import PyProof.ReprRoads
import HandS.Ends
import HandS.HeadEnd
import KE.SortData
import KE.DataCmp
import HandS.Head2
import HandS.Wide
import HandS.DictTup
import HandS.DictEq
import PyProof.StrBlock2
import HandS.RaiseMore
import PyProof.Rows.RegReprOcc
import HandS.FStr
import HandS.TryOnly
import HandS.WordsExc
import PySem.Challenge.RW_wanehold_k78_whole_alike_for_ever
set_option Elab.async false
set_option linter.all false
set_option maxRecDepth 100000
set_option maxHeartbeats 4000000
/-! dicts whose keys are nested tuples, over the layer -/
namespace ND
open PySem PySem.Spec PyProof.Rows L2
mutual
/-- v is such a key -/
def NK (H : Hp) : NestedKey → V → Prop
  | .none, v => v = .non
  | .num i, v => v = .int i
  | .text x, v => v = .str x
  | .tup ks, v => ∃ a vs, v = .ref a ∧ H a = some (.tup vs) ∧ NKs H ks vs
def NKs (H : Hp) : List NestedKey → List V → Prop
  | [], vs => vs = []
  | k :: ks, vs => ∃ v r, vs = v :: r ∧ NK H k v ∧ NKs H ks r
end
mutual
theorem NK.mono {H H' : Hp} (s : ∀ a vs, H a = some (.tup vs) → H' a = some (.tup vs)) : ∀ (k : NestedKey) (v : V), NK H k v → NK H' k v
  | .none, v, h => by rw [NK] at h ⊢; exact h
  | .num i, v, h => by rw [NK] at h ⊢; exact h
  | .text x, v, h => by rw [NK] at h ⊢; exact h
  | .tup ks, v, h => by
    rw [NK] at h ⊢
    obtain ⟨a, vs, e, h1, h2⟩ := h
    exact ⟨a, vs, e, s _ _ h1, NKs.mono s ks vs h2⟩
theorem NKs.mono {H H' : Hp} (s : ∀ a vs, H a = some (.tup vs) → H' a = some (.tup vs)) : ∀ (ks : List NestedKey) (vs : List V), NKs H ks vs → NKs H' ks vs
  | [], vs, h => by rw [NKs] at h ⊢; exact h
  | k :: ks, vs, h => by
    rw [NKs] at h ⊢
    obtain ⟨v, r, e, h1, h2⟩ := h
    exact ⟨v, r, e, NK.mono s k v h1, NKs.mono s ks r h2⟩
end
section
variable {P : Program} {w : World} {H : Hp} {h : Heap}
mutual
theorem NK.is (ok : HOk P w H h) : ∀ (k : NestedKey) (v : V) (u : Value), NK H k v → RelV v u → NestedIs h k u
  | .none, v, u, hk, r => by
    rw [NK] at hk; subst hk
    cases r; exact .none
  | .num i, v, u, hk, r => by
    rw [NK] at hk; subst hk
    obtain ⟨t, rfl⟩ := r; exact .int _ _
  | .text x, v, u, hk, r => by
    rw [NK] at hk; subst hk
    obtain ⟨t, rfl⟩ := r; exact .text _ _
  | .tup ks, v, u, hk, r => by
    rw [NK] at hk
    obtain ⟨a, vs, rfl, ha, hs⟩ := hk
    cases r
    obtain ⟨_, its, rv, o, h1, h2, n, h3⟩ := (show ObjOk P w H h a (.tup vs) from ok a _ ha)
    exact .tup h1 h2 h3 (by simpa using NKs.is ok ks vs its hs rv)
theorem NKs.is (ok : HOk P w H h) : ∀ (ks : List NestedKey) (vs : List V) (us : List Value), NKs H ks vs → Vals vs us → NestedAll h ks us
  | [], vs, us, hk, r => by
    rw [NKs] at hk; subst hk
    cases r; exact .nil
  | k :: ks, vs, us, hk, r => by
    rw [NKs] at hk
    obtain ⟨v, q, rfl, h1, h2⟩ := hk
    cases r with
    | cons r1 r2 => exact .cons (NK.is ok k v _ h1 r1) (NKs.is ok ks q _ h2 r2)
end
end
abbrev Ent := NestedKey × Addr × V
def EntR (x : Ent) (y : NestedKey × Addr × Value) : Prop := x.1 = y.1 ∧ x.2.1 = y.2.1 ∧ RelV x.2.2 y.2.2
def ndOk (P : Program) (w : World) (d : Addr) (xs : List Ent) (h : Heap) : Prop := (d == sysModules) = false ∧ xs.length ≤ sizeLine ∧ ∃ ys, Paired EntR xs ys ∧
  ∃ o es ep, h.get? d = some o ∧ o.ExactDict ∧ o.data = .dict es ep ∧ es.toList = ys.map (entryOfKey (nestedKind P w)) ∧ (ys.map (·.1)).Nodup
/-- a dict with nested keys at d -/
def ndO (P : Program) (w : World) (d : Addr) (xs : List Ent) : HO := .ext (ndOk P w d xs)
theorem ndO_ok {P : Program} {w : World} {H : Hp} {h : Heap} {d : Addr} {xs : List Ent} (x : ndOk P w d xs h) : ObjOk P w H h d (ndO P w d xs) := by
  obtain ⟨h1, hz, ys, h2, o, es, ep, h3, h4⟩ := id x
  exact ⟨x, ⟨o, h3⟩, fun a b ⟨q1, qz, ys', q2, o', es', ep', q3, q4⟩ k => ⟨q1, qz, ys', q2, o', es', ep', k _ q3, q4⟩⟩
theorem ndO_at {P : Program} {w : World} {H : Hp} {h : Heap} {d : Addr} {xs : List Ent} (ok : HOk P w H h) (e : H d = some (ndO P w d xs)) : ndOk P w d xs h := by
  have x : ObjOk P w H h d (.ext (ndOk P w d xs)) := ok d _ e
  exact x.1
/-- all its keys stand -/
def Keys (H : Hp) (xs : List Ent) : Prop := ∀ x ∈ xs, NK H x.1 (.ref x.2.1) ∧ x.1.depth ≤ 8
theorem Keys.mono {H H' : Hp} (s : ∀ a vs, H a = some (.tup vs) → H' a = some (.tup vs)) {xs : List Ent} (k : Keys H xs) : Keys H' xs := fun x hx => ⟨NK.mono s _ _ (k x hx).1, (k x hx).2⟩
theorem entR_mem {xs : List Ent} {ys : List (NestedKey × Addr × Value)} (p : Paired EntR xs ys) : ∀ y ∈ ys, ∃ x ∈ xs, EntR x y := by
  induction p with
  | nil => intro y hy; cases hy
  | cons r _ ih =>
    intro y hy
    rcases List.mem_cons.mp hy with e | hy
    · rw [e]; exact ⟨_, List.mem_cons_self .., r⟩
    · obtain ⟨x, hx, q⟩ := ih y hy
      exact ⟨x, List.mem_cons_of_mem _ hx, q⟩
theorem nd_of {P : Program} {w : World} {H : Hp} {h : Heap} {d : Addr} {xs : List Ent} (ok : HOk P w H h) (e : H d = some (ndO P w d xs)) (k : Keys H xs) :
    (d == sysModules) = false ∧ xs.length ≤ sizeLine ∧ ∃ ys, Paired EntR xs ys ∧ h.DictOfH (nestedKind P w) d ys := by
  obtain ⟨h1, hz, ys, h2, o, es, ep, h3, h4, h5, h6, h7⟩ := ndO_at ok e
  refine ⟨h1, hz, ys, h2, o, es, ep, h3, h4, h5, h6, fun y hy => ?_, h7⟩
  obtain ⟨x, hx, e1, e2, _⟩ := entR_mem h2 y hy
  obtain ⟨q1, q2⟩ := k x hx
  rw [← e1, ← e2]
  exact ⟨NK.is ok _ _ _ q1 rfl, q2⟩
def getN (xs : List Ent) (k : NestedKey) : Option (Addr × V) := (xs.find? fun x => decide (x.1 = k)).map (·.2)
theorem getN_rel {xs : List Ent} {ys : List (NestedKey × Addr × Value)} (p : Paired EntR xs ys) (k : NestedKey) : (getN xs k = none ∧ atKey ys k = none) ∨ ∃ a v u, getN xs k = some (a, v) ∧ atKey ys k = some (a, u) ∧ RelV v u := by
  induction p with
  | nil => exact .inl ⟨rfl, rfl⟩
  | @cons x y l m r _ ih =>
    obtain ⟨e1, e2, r3⟩ := r
    by_cases h : x.1 = k
    · refine .inr ⟨x.2.1, x.2.2, y.2.2, ?_, ?_, r3⟩
      · unfold getN; rw [List.find?_cons_of_pos (by simpa using h)]; rfl
      · unfold atKey; rw [List.find?_cons_of_pos (by simpa [← e1] using h), e2]; rfl
    · have a1 : getN (x :: l) k = getN l k := by unfold getN; rw [List.find?_cons_of_neg (by simpa using h)]
      have a2 : atKey (y :: m) k = atKey m k := by unfold atKey; rw [List.find?_cons_of_neg (by simpa [← e1] using h)]
      rw [a1, a2]
      exact ih
theorem getN_isSome {xs : List Ent} {ys : List (NestedKey × Addr × Value)} (p : Paired EntR xs ys) (k : NestedKey) : (atKey ys k).isSome = (getN xs k).isSome := by
  rcases getN_rel p k with ⟨h1, h2⟩ | ⟨a, v, u, h1, h2, _⟩ <;> rw [h1, h2] <;> rfl
theorem getN_none {xs : List Ent} {k : NestedKey} : getN xs k = none ↔ ∀ x ∈ xs, x.1 ≠ k := by
  unfold getN
  rw [Option.map_eq_none_iff, List.find?_eq_none]
  constructor
  · intro h x hx e; exact h x hx (by simpa using e)
  · intro h x hx e; exact h x hx (by simpa using e)
section
variable {X : Cx} {pins : List (Addr × Obj)} {σ : L2.St} {H : Hp} {s : Shared} {d p : Addr} {k : NestedKey} {xs : List Ent} {A : Around} {E : Value → Shared → Prop}
theorem room8 {j : Nat} (hr : Room j A) : (nestedKind X.prog X.w).room A.in1 := by
  have := hr.units
  show A.in1.units + 8 < cLine
  have e : A.in1.units = A.units + 1 := rfl
  omega
/-- y in d, y not in d -/
def tNIn (P : Program) (w : World) (neg : Bool) (ty td : TE) : TE := fun σ H Q => ty σ H fun y H1 => td σ H1 fun x H2 => ∃ d p k xs, x = .ref d ∧ y = .ref p ∧ H2 d = some (ndO P w d xs) ∧ Keys H2 xs ∧ NK H2 k (.ref p) ∧ k.depth ≤ 8 ∧
  Q (.bl (if neg then !(getN xs k).isSome else (getN xs k).isSome)) H2
variable {i o value : Expr} {ty td tv : TE} {pos pos' : Pos} {j : Nat}
theorem pc_nin (hr : Room j X.A) (hi : PE X i ty) (ho : PE X o td) : PC X .In i o (tNIn X.prog X.w false ty td) := by
  refine ⟨fun pins s σ H Q I h => ?_⟩
  refine thn (hi.run pins s σ H _ I h) fun iv s1 ⟨y, H1, I1, ry, q1⟩ => thn (ho.run pins s1 σ H1 _ I1 q1) fun u s2 ⟨x, H2, I2, rx, d, p, k, xs, ex, ey, e, ks, hk, hd, q2⟩ => ?_
  subst ex ey
  obtain rfl : u = Value.ref d := rx
  obtain rfl : iv = Value.ref p := ry
  obtain ⟨h1, hz, ys, pr, dd⟩ := nd_of I2.hok e ks
  refine wpAny_in_heap (knd := nestedKind X.prog X.w) (k := k) (room8 hr) ⟨NK.is I2.hok _ _ _ hk rfl, hd⟩ h1 dd ?_
  rw [getN_isSome pr]
  exact ⟨.bl _, H2, I2.tok _, rfl, q2⟩
theorem pc_nnotin (hr : Room j X.A) (hi : PE X i ty) (ho : PE X o td) : PC X .NotIn i o (tNIn X.prog X.w true ty td) := by
  refine ⟨fun pins s σ H Q I h => ?_⟩
  refine thn (hi.run pins s σ H _ I h) fun iv s1 ⟨y, H1, I1, ry, q1⟩ => thn (ho.run pins s1 σ H1 _ I1 q1) fun u s2 ⟨x, H2, I2, rx, d, p, k, xs, ex, ey, e, ks, hk, hd, q2⟩ => ?_
  subst ex ey
  obtain rfl : u = Value.ref d := rx
  obtain rfl : iv = Value.ref p := ry
  obtain ⟨h1, hz, ys, pr, dd⟩ := nd_of I2.hok e ks
  refine wpAny_notIn_heap (knd := nestedKind X.prog X.w) (k := k) (room8 hr) ⟨NK.is I2.hok _ _ _ hk rfl, hd⟩ h1 dd ?_
  rw [getN_isSome pr]
  exact ⟨.bl _, H2, I2.tok _, rfl, q2⟩
/-- d[y] -/
def tNGet (P : Program) (w : World) (td ty : TE) : TE := fun σ H Q => td σ H fun x H1 => ty σ H1 fun y H2 => ∃ d p k xs a v, x = .ref d ∧ y = .ref p ∧ H2 d = some (ndO P w d xs) ∧ Keys H2 xs ∧ NK H2 k (.ref p) ∧ k.depth ≤ 8 ∧ getN xs k = some (a, v) ∧ Q v H2
theorem pe_nget (hr : Room j X.A) (ho : PE X o td) (hi : PE X i ty) (hs : NoSl i) : PE X (.Subscript o i pos) (tNGet X.prog X.w td ty) := by
  refine ⟨fun pins s σ H Q I h => ?_⟩
  refine subD_of PySem.F.slot_dict_getitem.lookup hs (thn (ho.run pins s σ H _ I h) fun u s1 ⟨x, H1, I1, rx, q1⟩ => thn (hi.run pins s1 σ H1 _ I1 q1) fun iv s2 ⟨y, H2, I2, ry, d, p, k, xs, a, v, ex, ey, e, ks, hk, hd, hg, q2⟩ => ?_)
  subst ex ey
  obtain rfl : u = Value.ref d := rx
  obtain rfl : iv = Value.ref p := ry
  obtain ⟨h1, hz, ys, pr, dd⟩ := nd_of I2.hok e ks
  refine ⟨dd.typeIs, ?_⟩
  rcases getN_rel pr k with ⟨g1, _⟩ | ⟨a', v', u', g1, g2, g3⟩
  · rw [g1] at hg; cases hg
  · rw [g1] at hg; cases hg
    exact wpAny_getItem_heap (knd := nestedKind X.prog X.w) (k := k) (room8 hr) ⟨NK.is I2.hok _ _ _ hk rfl, hd⟩ dd g2 ⟨v, H2, I2.tok _, g3, q2⟩
/-- d[y] = v, y a new key -/
def sNPut (P : Program) (w : World) (td ty tv : TE) : TS := fun D σ H => tv σ H fun v H1 => td σ H1 fun x H2 => ty σ H2 fun y H3 => ∃ d p k xs, x = .ref d ∧ y = .ref p ∧ H3 d = some (ndO P w d xs) ∧ Keys H3 xs ∧ NK H3 k (.ref p) ∧ k.depth ≤ 8 ∧
  xs.length < sizeLine ∧ getN xs k = none ∧ D.nx σ (upd H3 d (ndO P w d (xs ++ [(k, p, v)])))
theorem paired_app {α β : Type} {F : α → β → Prop} : ∀ {a : List α} {b : List β} {c : List α} {d : List β}, Paired F a b → Paired F c d → Paired F (a ++ c) (b ++ d)
  | _, _, _, _, .nil, q => q
  | _, _, _, _, .cons r t, q => .cons r (paired_app t q)
theorem ps_nput (hr : Room j X.A) (ho : PE X o td) (hi : PE X i ty) (hv : PE X value tv) (hs : swapsWith value (some (.Subscript o i pos')) pos.line X.env = pure false := by rfl) :
    PS X (.Assign [.Subscript o i pos'] value pos) (sNPut X.prog X.w td ty tv) := by
  refine ⟨fun pins s σ H D I h => ?_⟩
  refine wpAny_Assign_Subscript (thn (hv.run pins s σ H _ I h) fun r s1 ⟨v, H1, I1, rv, q1⟩ => thn (ho.run pins s1 σ H1 _ I1 q1) fun u s2 ⟨x, H2, I2, rx, q2⟩ => thn (hi.run pins s2 σ H2 _ I2 q2) fun iv s3 ⟨y, H3, I3, ry, d, p, k, xs, ex, ey, e, ks, hk, hd, hl, hg, q3⟩ => ?_) hs
  subst ex ey
  obtain rfl : u = Value.ref d := rx
  obtain rfl : iv = Value.ref p := ry
  obtain ⟨h1, hz, ys, pr, dd⟩ := nd_of I3.hok e ks
  have hn : atKey ys k = none := by
    rcases getN_rel pr k with ⟨_, g2⟩ | ⟨_, _, _, g1, _⟩
    · exact g2
    · rw [g1] at hg; cases hg
  refine wpAny_setItem_heap (hsz := by rw [← Paired.length pr]; exact hz) (knd := nestedKind X.prog X.w) (k := k) (room8 hr) ⟨NK.is I3.hok _ _ _ hk rfl, hd⟩ dd fun h' dd' hs => ?_
  obtain ⟨q, es, ep, a1, a2, a3, a4, _, a5⟩ := dd'
  rw [storedH_new hn] at a4 a5
  have nd : ndOk X.prog X.w d (xs ++ [(k, p, v)]) h' := ⟨h1, by rw [List.length_append, List.length_singleton]; omega, _, paired_app pr (.cons ⟨rfl, rfl, rv⟩ .nil), q, es, ep, a1, a2, a3, a4, a5⟩
  exact ⟨σ, _, d_write I3 (by rw [e]; exact True.intro) hs ⟨q, a1⟩ (ndO_ok nd), q3⟩
/-- {k: v}, one pair -/
def tNOne (P : Program) (w : World) (tk tv : TE) : TE := fun σ H Q => ∀ d, H d = none → tk σ (upd H d (ndO P w d [])) fun y H1 => tv σ H1 fun v H2 => H2 d = some (ndO P w d []) ∧ ∃ p k, y = .ref p ∧ NK H2 k (.ref p) ∧ k.depth ≤ 8 ∧ Q (.ref d) (upd H2 d (ndO P w d [(k, p, v)]))
theorem nd_empty {P : Program} {w : World} (h : Heap) (hb : sysModules < h.objs.size) : ndOk P w h.objs.size [] (h.push { cls := .type "dict", data := .dict #[] }) :=
  ⟨beq_eq_false_iff_ne.mpr (Ne.symm (Nat.ne_of_lt hb)), Nat.zero_le _, [], .nil, _, #[], 0, Heap.get?_push_size _ rfl, ⟨rfl, rfl, rfl⟩, rfl, rfl, List.nodup_nil⟩
theorem pe_none {k v : Expr} {tk tv' : TE} (hr : Room j X.A) (hk : PE X k tk) (hv : PE X v tv') : PE X (.Dict [some k] [v] pos) (tNOne X.prog X.w tk tv') := by
  refine ⟨fun pins s σ H Q I q => ?_⟩
  have hn := I.hok.fresh (Nat.le_refl s.heap.objs.size)
  have I1 := I.laid (a := s.heap.objs.size) (o := ndO X.prog X.w s.heap.objs.size []) (h' := s.heap.push { cls := .type "dict", data := .dict #[] }) (t' := s.toks) (fun _ _ q => Heap.get?_push_of_some _ q) (Nat.le_refl _) (ndO_ok (nd_empty s.heap I.big))
  refine wpAny_Dict_any (by rfl) rfl (by simp) (by simp) ?_
  refine pairTrees_cons_walk (thn (hk.run pins _ σ _ _ I1 (q _ hn)) fun u s1 ⟨y, H1, I2, ry, q1⟩ => thn (hv.run pins s1 σ H1 _ I2 q1) fun w2 s2 ⟨v', H2, I3, rv, e, p, kk, ey, nk, nd, q2⟩ => pairTrees_nil_walk ?_)
  subst ey
  obtain rfl : u = Value.ref p := ry
  obtain ⟨h1, hz, ys, pr, dd⟩ := nd_of I3.hok e (fun x hx => by cases hx)
  cases pr
  show wpAny _ _ (storeAll _ [(Value.ref p, w2)]) _ _ _
  unfold storeAll
  rw [List.forIn_cons]
  have hu : X.A.units + 8 < cLine := by have := hr.units; omega
  refine wpAny_bind (wpAny_bind (wpAny_dictSet_heap (hsz := Nat.zero_le _) (knd := nestedKind X.prog X.w) (k := kk) hu ⟨NK.is I3.hok _ _ _ nk rfl, nd⟩ dd fun h' dd' hs => wpAny_pure ?_))
  show wpAny _ _ (pure PUnit.unit : Sem PUnit) _ _ _
  refine wpAny_pure ?_
  obtain ⟨q0, es, ep, a1, a2, a3, a4, _, a5⟩ := dd'
  rw [storedH_new rfl] at a4 a5
  have nd' : ndOk X.prog X.w s.heap.objs.size [(kk, p, v')] h' := ⟨h1, by rw [sizeLine_eq, List.length_singleton]; decide, _, .cons ⟨rfl, rfl, rv⟩ .nil, q0, es, ep, a1, a2, a3, a4, a5⟩
  exact ⟨.ref s.heap.objs.size, _, d_write I3 (by rw [e]; exact True.intro) hs ⟨q0, a1⟩ (ndO_ok nd'), rfl, q2⟩
end
/-- xs[i], by values, i from 0 on: for xs[i] += e -/
theorem get_list {X : Cx} : PGet X (fun x y H Q => ∃ p xs i v, x = .ref p ∧ y = .int i ∧ 0 ≤ i ∧ SqL X.K H p xs ∧ xs[i.toNat]? = some v ∧ Q v H) := by
  intro pins s σ H o i ov iv Q I ro ri h
  obtain ⟨p, xs, k, v, rfl, rfl, h0, hq, he, q⟩ := h
  cases ro
  obtain ⟨t, rfl⟩ := ri
  obtain ⟨its, r, pl, hz⟩ := I.list hq
  obtain ⟨u, eu, ru⟩ := r.get he
  have hl := r.length
  have hn := line63
  have hlt := (List.getElem?_eq_some_iff.mp he).1
  exact wpAny_getItem_list pl.isList h0 (by omega) (by simpa using eu) ⟨v, H, I, ru, q⟩
end ND

set_option maxHeartbeats 4000000
/-! exceptions whose __init__ says the base's and stores one field -/
namespace EX
open PySem PySem.Spec PyProof.Rows L2
/-! ### a look at the class -/
def oexB (K : PySem.W.Frag) (C : Addr) : Bool := (match K.lookup C with
  | some ⟨.type t, _, .cls cd, sl⟩ => (match cd.mro, sl.toList with
    | .ref C' :: bm, [_, _, _, _, some (.builtin n), _] => t == "type" && (C' == C && (n == "ValueError.__new__" && (!cd.hasDel && (cd.hasDict && PySem.HandSPX.refsVE bm))))
    | _, _ => false)
  | _ => false) && (decide (PySem.W.findIn K (.ref C) "__setattr__" = some (some (.builtin "object.__setattr__"))) && (decide (PySem.W.subIn K (.ref C) (.type "BaseException") = some true) &&
    (decide (PySem.W.typeIn K (.ref C) = some (.type "type")) && PySem.W.keepIn K (.ref C))))
theorem oex_of {K : PySem.W.Frag} {C : Addr} (q : oexB K C = true) : OexC K C := by
  unfold oexB at q
  simp only [Bool.and_eq_true, decide_eq_true_eq] at q
  obtain ⟨q, q2, q3, q4, q5⟩ := q
  refine ⟨?_, q2, q3, q4, q5⟩
  split at q
  · rename_i t dd cd sl ho
    split at q
    · rename_i C' bm k0 k1 k2 k3 n k5 hm hs
      simp only [Bool.and_eq_true, beq_iff_eq, Bool.not_eq_true'] at q
      obtain ⟨rfl, rfl, rfl, hdel, hdc, ht⟩ := q
      obtain ⟨nm, bs, mro, ns, qn, hd, sn, sub, ab, col, del⟩ := cd
      dsimp only at hm hdel hdc
      subst hm hdel hdc
      have hsl : sl = #[k0, k1, k2, k3, some (.builtin "ValueError.__new__"), k5] := by
        obtain ⟨l⟩ := sl
        simp only at hs
        rw [hs]
      subst hsl
      exact ⟨nm, qn, ns, bs, bm, sn, sub, ab, col, dd, k0, k1, k2, k3, k5, ho, ht⟩
    · cases q
  · cases q
/-- the base class's __init__, found by the class's own name -/
def binB (K : PySem.W.Frag) (C : Addr) : Bool := decide (PySem.W.specialIn K (.ref C) "__getattribute__" = some (some (.builtin "type.__getattribute__"))) && (PySem.W.readsIn K C (.type "type") &&
  (match PySem.W.findCls K (.ref C) (.type "type") "__init__" with
  | some (.val (.builtin n)) => n == "ValueError.__init__"
  | _ => false))
theorem bin_of {K : PySem.W.Frag} {C : Addr} (q : binB K C = true) : PySem.W.specialIn K (.ref C) "__getattribute__" = some (some (.builtin "type.__getattribute__")) ∧ PySem.W.readsIn K C (.type "type") = true ∧
    PySem.W.findCls K (.ref C) (.type "type") "__init__" = some (.val (.builtin "ValueError.__init__")) := by
  unfold binB at q
  simp only [Bool.and_eq_true, decide_eq_true_eq] at q
  obtain ⟨q1, q2, q3⟩ := q
  refine ⟨q1, q2, ?_⟩
  split at q3
  · rename_i n e
    rw [beq_iff_eq.mp q3] at e
    exact e
  · cases q3
section
variable {X : Cx} {o e : Expr} {es : List Expr} {to te : TE} {ta : TA} {p p' p1 p2 pos : Pos}
/-- Base.__init__(self, ..), Base an own class over ValueError without an own __init__ -/
theorem pe_binit {pl : Sem Bool} {x : Str} {B : Addr} (hg : Gl X x) (hm : X.mg x = some (.ref B)) (q : binB X.K B = true) (ha : PA X (e :: es) ta)
    (hc : eval (.Call (.Attribute (.Name x p1) "__init__" p2) (e :: es) [] pos) X.env = (do
      let ov ← eval (.Name x p1) X.env
      standAt p2.atName
      let (f, first) ← holding [ov] (getMethod ov "__init__" pl)
      callWith pos f first (backTo pos (starEach (e :: es) X.env)) (backToKw pos (keywordEach [] X.env))) := by rfl)
    (hd : (x == ("__debug__" : Str)) = false := by decide)
    (he : starEach (e :: es) X.env = (false, eval e X.env) :: starEach es X.env := by rfl) (hpl : (backTo pos (starEach es X.env)).any (·.1) = false := by rfl) :
    PE X (.Call (.Attribute (.Name x p1) "__init__" p2) (e :: es) [] pos) (tVeI X.K ta) := by
  refine ⟨fun pins s σ H Q I h => ?_⟩
  obtain ⟨b1, b2, b3⟩ := bin_of q
  refine PySem.W.methodCall_KW (ld_glob I hg hm ?_ hd) hc
  refine PySem.W.method_cls I.kIn b1 (PySem.W.cls_value I.kIn b2 b3 (by decide +kernel) ?_)
  show wpAny _ _ (callWith pos (Value.builtin "ValueError.__init__") [] (backTo pos (starEach (e :: es) X.env)) []) _ _ _
  refine PyProof.Rows.callWith_method1 (thn (ha.run pos pins _ σ H _ (I.tok _) h) fun us s1 ⟨vs, H1, I1, r1, a, C, ws, ev, hl, T, ea, q⟩ => ?_) he hpl
  subst ev
  cases r1 with
  | @cons _ u0 _ ur ra rw' =>
    obtain rfl : u0 = Value.ref a := ra
    have hlen : ur.length ≤ sizeLine := by
      rw [← Paired.length rw', sizeLine_eq]
      omega
    exact oinit_ok T I1 ea hlen fun s' J => ⟨.non, H1, J, rfl, q⟩
end
/-- __init__(self, v) of such a class: self.f = v -/
def spX (C : Addr) (f : Str) : Sp := fun vs H Q _ => ∃ a v, vs = [.ref a, v] ∧ H a = some (exo a C none) ∧ ∀ dx, H dx = none → dx ≠ a → Q .non (upd (upd H dx (exd dx [(f, v)])) a (exo a C (some dx)))
theorem mkO_use {C : Addr} {f : Str} {Q : XK} {H1 : Hp} {v : V} (q : ∀ d H', Same H1 H' → H' d = some (.xd [(f, v)]) → H1 d = none → Q (.ref C) (some d) H') :
    [v].length ≤ 1000 ∧ ∀ a, H1 a = none → spX C f (.ref a :: ([v] ++ [])) (upd H1 a (exo a C none))
      (fun v H2 => v = .non ∧ ∃ (d : Addr) (fs : List (Str × V)), H2 a = some (exo a C (some d)) ∧ H2 d = some (exd d fs) ∧ H1 d = none ∧ Q (.ref C) (some d) (upd (del H2 a) d (.xd fs))) (fun _ _ _ => False) := by
  refine ⟨by show 1 ≤ 1000; decide, fun a na => ⟨a, v, rfl, upd_same, fun dx nd ne => ⟨rfl, dx, [(f, v)], upd_same, by rw [upd_ne ne, upd_same], by rw [upd_ne ne] at nd; exact nd, q dx _ (fun b o hb => ?_) upd_same (by rw [upd_ne ne] at nd; exact nd)⟩⟩⟩
  have nd' : H1 dx = none := by rw [upd_ne ne] at nd; exact nd
  have b1 : b ≠ a := ne_of_none hb na
  have b2 : b ≠ dx := ne_of_none hb nd'
  rw [upd_ne b2, del_ne b1, upd_ne b1, upd_ne b2, upd_ne b1]
  exact hb
/-! ### a call with keywords, what is raised wished for at the caller's slots -/
def tCallNS (n m : Nat) (sp : Sp) (gV : List V → List V → List V) (E : L2.St → XK) (t tk : TA) : TE := fun σ H Q => t σ H fun vs H1 => tk σ H1 fun zs H2 => vs.length = n ∧ zs.length = m ∧ sp (gV vs zs) H2 Q (E σ)
section
variable {X : Cx} {CX : CXT} {k n : Nat} {f : Addr} {fd : FuncData} {ps ks : List Str} {sp : Sp} {E : L2.St → XK} {x : Str} {p pos : Pos} {e : Expr} {es : List Expr} {kws : List Keyword} {t tk : TA} {g : List Value → List Value → List Value} {gV : List V → List V → List V}
theorem pe_callNS (F : FnOk X.prog X.w X.K X.mg X.base CX k f fd ps sp) (hr : Room k X.A) (hg : Gl X x) (hm : X.mg x = some (.ref f)) (hk : PySem.W.keepIn X.K (.ref f) = true) (hb : KBn X.K fd ps n ks g gV) (hx : ∀ σ, PassesAt CX X σ (E σ))
    (ha : PA X (e :: es) t) (hkw : PK X kws tk) (hall : (backToKw pos (keywordEach kws X.env)).all (·.1.isSome) = true := by rfl) (hks : (backToKw pos (keywordEach kws X.env)).filterMap (·.1) = ks := by rfl)
    (hdb : (x == ("__debug__" : Str)) = false := by decide) (he : starEach (e :: es) X.env = (false, eval e X.env) :: starEach es X.env := by rfl)
    (hpl : ((backTo pos (starEach (e :: es) X.env)).any (·.1) || (backToKw pos (keywordEach kws X.env)).any (·.1.isNone)) = false := by rfl) :
    PE X (.Call (.Name x p) (e :: es) kws pos) (tCallNS n ks.length sp gV E t tk) := by
  refine ⟨fun pins s σ H Q I h => ?_⟩
  refine wpAny_Call_Name_kw (ld_glob I hg hm ?_ hdb)
  refine PySem.W.callWith_KW (h₀ := X.base) I.ok.mod.kin hk hall (thn (ha.run pos pins s σ H _ I h) fun us s1 ⟨vs, H1, I1, r, q⟩ => ?_) hpl he
  refine thn (hkw.run pos pins s1 σ H1 _ I1 q) fun ws s2 ⟨zs, H2, I2, rz, l1, l2, q2⟩ => ⟨I2.kIn, ?_⟩
  rw [hks]
  have r2 := hb.rel r rz
  refine wpAny_call (codeAny_mono (F.run X.A X.stack s2 H2 ⟨us, ks.zip ws⟩ (g us ws) (gV vs zs) Q (E σ) hr I2.env0 (hb.to s2 us ws I2.kIn (r.length.symm.trans l1) (rz.length.symm.trans l2)) r2 q2) fun r s' hq => ?_)
  cases r with
  | error e => exact hx σ pins H2 s2 e s' I2 hq
  | ok fl =>
    cases fl with
    | ret u => exact I2.after hq
    | next => exact False.elim hq
    | brk => exact False.elim hq
    | cont => exact False.elim hq
end
end EX
namespace EX
open PySem PySem.Spec PyProof.Rows L2
section
variable {X : Cx} {o e : Expr} {es : List Expr} {ta : TA} {p pos : Pos} {x f : Str} {C fI : Addr} {k j : Nat} {ps : List Str}
/-- X(e), the class's __init__ by its promise -/
theorem pmk_f (T : OexC X.K C) (i : PySem.W.findIn X.K (.ref C) "__init__" = some (some (.ref fI)) ∧ PySem.W.typeIn X.K (.ref fI) = some (.type "function") ∧ PySem.W.exmOne X.K (.ref C) (.ref C) = some true)
    (c : ∃ fd, FnOk X.prog X.w X.K X.mg X.base C8.CX0 k fI fd ps (spX C f) ∧ Binds X.K fd ps []) (hr : Room j X.A) (hk : k + 1 ≤ j) (hg : Gl X x) (hm : X.mg x = some (.ref C)) (ha : PA X (e :: es) ta)
    (hdb : (x == ("__debug__" : Str)) = false := by decide) (he : starEach (e :: es) X.env = (false, eval e X.env) :: starEach es X.env := by rfl) (hpl : (backTo pos (starEach es X.env)).any (·.1) = false := by rfl) :
    PMk X (.Call (.Name x p) (e :: es) [] pos) (tMkO C (spX C f) [] ta) := by
  obtain ⟨fd, F, b⟩ := c
  exact pmk_oex T i.1 i.2.1 F (hr.mono hk) b .nil C8.pass0 hg hm ha hdb he hpl
end
end EX

set_option maxHeartbeats 4000000
namespace WH
open PySem PySem.Spec PyProof.Rows L2
def top (i : Nat) : Stmt := PySem.Challenge.pw_wanehold_k78_whole_alike_for_ever.main.body.getD i (.Pass ⟨0, 0, 0, 0⟩)
abbrev s_figures_of : Stmt := top 17
abbrev n_figures_of : List Str := ["word", "sign"]
theorem sc_figures_of : FnScope n_figures_of ["word"] (defScope s_figures_of) := ⟨rfl, rfl, rfl, by decide +kernel, rfl, by decide +kernel, by decide +kernel⟩
abbrev s_Wane_head : Stmt := inClass (top 23) 1
abbrev n_Wane_head : List Str := ["self"]
theorem sc_Wane_head : FnScope n_Wane_head ["self"] (defScope s_Wane_head) := ⟨rfl, rfl, rfl, by decide +kernel, rfl, by decide +kernel, by decide +kernel⟩
abbrev s_Wane_tail : Stmt := inClass (top 23) 2
abbrev n_Wane_tail : List Str := ["self"]
theorem sc_Wane_tail : FnScope n_Wane_tail ["self"] (defScope s_Wane_tail) := ⟨rfl, rfl, rfl, by decide +kernel, rfl, by decide +kernel, by decide +kernel⟩
abbrev s_Wane_text : Stmt := inClass (top 23) 10
abbrev n_Wane_text : List Str := ["self", "words", "by", "take"]
theorem sc_Wane_text : FnScope n_Wane_text ["self"] (defScope s_Wane_text) := ⟨rfl, rfl, rfl, by decide +kernel, rfl, by decide +kernel, by decide +kernel⟩
abbrev s_step_of : Stmt := top 24
abbrev n_step_of : List Str := ["word", "parts", "step"]
theorem sc_step_of : FnScope n_step_of ["word"] (defScope s_step_of) := ⟨rfl, rfl, rfl, by decide +kernel, rfl, by decide +kernel, by decide +kernel⟩
abbrev s_parts_of : Stmt := top 25
abbrev n_parts_of : List Str := ["words", "at", "head", "word", "tail"]
theorem sc_parts_of : FnScope n_parts_of ["words"] (defScope s_parts_of) := ⟨rfl, rfl, rfl, by decide +kernel, rfl, by decide +kernel, by decide +kernel⟩
abbrev s_wane_of_words : Stmt := top 26
abbrev n_wane_of_words : List Str := ["words", "parts", "head", "tail", "more", "cap", "lift"]
theorem sc_wane_of_words : FnScope n_wane_of_words ["words"] (defScope s_wane_of_words) := ⟨rfl, rfl, rfl, by decide +kernel, rfl, by decide +kernel, by decide +kernel⟩
abbrev s_read_wane : Stmt := top 27
abbrev n_read_wane : List Str := ["text", "found"]
theorem sc_read_wane : FnScope n_read_wane ["text"] (defScope s_read_wane) := ⟨rfl, rfl, rfl, by decide +kernel, rfl, by decide +kernel, by decide +kernel⟩
abbrev s_turn_effect : Stmt := top 43
abbrev n_turn_effect : List Str := ["step", "cap", "by", "take", "top"]
theorem sc_turn_effect : FnScope n_turn_effect ["step", "cap"] (defScope s_turn_effect) := ⟨rfl, rfl, rfl, by decide +kernel, rfl, by decide +kernel, by decide +kernel⟩
abbrev s_join_two : Stmt := top 44
abbrev n_join_two : List Str := ["one", "other", "least", "add", "by", "top", "least_then", "add_then", "by_then", "top_then"]
theorem sc_join_two : FnScope n_join_two ["one", "other"] (defScope s_join_two) := ⟨rfl, rfl, rfl, by decide +kernel, rfl, by decide +kernel, by decide +kernel⟩
abbrev s_row_effect : Stmt := top 45
abbrev n_row_effect : List Str := ["wane", "row", "since", "cap", "asking", "found", "sign", "part"]
theorem sc_row_effect : FnScope n_row_effect ["wane", "row", "since"] (defScope s_row_effect) := ⟨rfl, rfl, rfl, by decide +kernel, rfl, by decide +kernel, by decide +kernel⟩
abbrev s_through : Stmt := top 46
abbrev n_through : List Str := ["effect", "strength", "least", "add", "by", "top"]
theorem sc_through : FnScope n_through ["effect", "strength"] (defScope s_through) := ⟨rfl, rfl, rfl, by decide +kernel, rfl, by decide +kernel, by decide +kernel⟩
abbrev s_common : Stmt := top 49
abbrev n_common : List Str := ["one", "other"]
theorem sc_common : FnScope n_common ["one", "other"] (defScope s_common) := ⟨rfl, rfl, rfl, by decide +kernel, rfl, by decide +kernel, by decide +kernel⟩
abbrev s_row_walked : Stmt := top 50
abbrev n_row_walked : List Str := ["wane", "strength", "row", "since", "strengths", "sign", "by", "take"]
theorem sc_row_walked : FnScope n_row_walked ["wane", "strength", "row", "since"] (defScope s_row_walked) := ⟨rfl, rfl, rfl, by decide +kernel, rfl, by decide +kernel, by decide +kernel⟩
abbrev s_straight : Stmt := top 51
abbrev n_straight : List Str := ["effect", "strength", "times", "least", "add", "by", "top"]
theorem sc_straight : FnScope n_straight ["effect", "strength", "times"] (defScope s_straight) := ⟨rfl, rfl, rfl, by decide +kernel, rfl, by decide +kernel, by decide +kernel⟩
abbrev s_repeated : Stmt := top 52
abbrev n_repeated : List Str := ["effect", "strength", "times", "further"]
theorem sc_repeated : FnScope n_repeated ["effect", "strength", "times"] (defScope s_repeated) := ⟨rfl, rfl, rfl, by decide +kernel, rfl, by decide +kernel, by decide +kernel⟩
abbrev s_Going___init__ : Stmt := inClass (top 53) 0
abbrev n_Going___init__ : List Str := ["self", "wane", "strength", "row", "since", "steps", "k", "strengths"]
theorem sc_Going___init__ : FnScope n_Going___init__ ["self", "wane", "strength", "row", "since"] (defScope s_Going___init__) := ⟨rfl, rfl, rfl, by decide +kernel, rfl, by decide +kernel, by decide +kernel⟩
abbrev s_Going_behind : Stmt := inClass (top 53) 1
abbrev n_Going_behind : List Str := ["self", "times", "strength", "since", "left", "k", "strengths"]
theorem sc_Going_behind : FnScope n_Going_behind ["self", "times"] (defScope s_Going_behind) := ⟨rfl, rfl, rfl, by decide +kernel, rfl, by decide +kernel, by decide +kernel⟩
abbrev s_Going_state : Stmt := inClass (top 53) 2
abbrev n_Going_state : List Str := ["self", "times", "strength", "since"]
theorem sc_Going_state : FnScope n_Going_state ["self", "times"] (defScope s_Going_state) := ⟨rfl, rfl, rfl, by decide +kernel, rfl, by decide +kernel, by decide +kernel⟩
abbrev s_Going_comes_again : Stmt := inClass (top 53) 3
abbrev n_Going_comes_again : List Str := ["self", "times"]
theorem sc_Going_comes_again : FnScope n_Going_comes_again ["self", "times"] (defScope s_Going_comes_again) := ⟨rfl, rfl, rfl, by decide +kernel, rfl, by decide +kernel, by decide +kernel⟩
abbrev s_behind : Stmt := top 54
abbrev n_behind : List Str := ["wane", "strength", "row", "times", "since"]
theorem sc_behind : FnScope n_behind ["wane", "strength", "row", "times", "since"] (defScope s_behind) := ⟨rfl, rfl, rfl, by decide +kernel, rfl, by decide +kernel, by decide +kernel⟩
abbrev s_least_of : Stmt := top 55
abbrev n_least_of : List Str := ["going", "ends", "low", "high", "middle"]
theorem sc_least_of : FnScope n_least_of ["going", "ends"] (defScope s_least_of) := ⟨rfl, rfl, rfl, by decide +kernel, rfl, by decide +kernel, by decide +kernel⟩
abbrev s_fate : Stmt := top 56
abbrev n_fate : List Str := ["wane", "strength", "row", "since", "going", "times", "strengths", "lead", "k"]
theorem sc_fate : FnScope n_fate ["wane", "strength", "row", "since"] (defScope s_fate) := ⟨rfl, rfl, rfl, by decide +kernel, rfl, by decide +kernel, by decide +kernel⟩
abbrev s__law_row : Stmt := top 66
abbrev n__law_row : List Str := ["_law_bag_here", "_law_bound", "_law_many", "_law_often", "_law_k"]
theorem sc__law_row : FnScope n__law_row ["_law_bag_here", "_law_bound"] (defScope s__law_row) := ⟨rfl, rfl, rfl, by decide +kernel, rfl, by decide +kernel, by decide +kernel⟩
abbrev s__law_stand : Stmt := top 67
abbrev n__law_stand : List Str := ["_law_one", "_law_strength", "_law_other", "_law_far", "_law_row_here", "_law_mine", "_law_end", "_law_since", "_law_yours"]
theorem sc__law_stand : FnScope n__law_stand ["_law_one", "_law_strength", "_law_other", "_law_far", "_law_row_here"] (defScope s__law_stand) := ⟨rfl, rfl, rfl, by decide +kernel, rfl, by decide +kernel, by decide +kernel⟩
abbrev s__law_rounds : Stmt := top 68
abbrev n__law_rounds : List Str := ["_law_bag_here", "_law_one", "_law_strength", "_law_other", "_law_far", "_law_row_here", "_law_fates", "_law_turn", "_law_times", "_law_ends"]
theorem sc__law_rounds : FnScope n__law_rounds ["_law_bag_here", "_law_one", "_law_strength", "_law_other", "_law_far"] (defScope s__law_rounds) := ⟨rfl, rfl, rfl, by decide +kernel, rfl, by decide +kernel, by decide +kernel⟩
abbrev s__law_gone_stays : Stmt := top 69
abbrev n__law_gone_stays : List Str := ["_law_one", "_law_strength", "_law_other", "_law_far", "_law_row_here", "_law_ends", "_law_later", "_law_k"]
theorem sc__law_gone_stays : FnScope n__law_gone_stays ["_law_one", "_law_strength", "_law_other", "_law_far", "_law_row_here"] (defScope s__law_gone_stays) := ⟨rfl, rfl, rfl, by decide +kernel, rfl, by decide +kernel, by decide +kernel⟩
abbrev s_TooMany___init__ : Stmt := inClass (top 3) 0
abbrev n_TooMany___init__ : List Str := ["self", "most"]
theorem sc_TooMany___init__ : FnScope n_TooMany___init__ ["self", "most"] (defScope s_TooMany___init__) := ⟨rfl, rfl, rfl, by decide +kernel, rfl, by decide +kernel, by decide +kernel⟩
abbrev s_is_whole : Stmt := top 10
abbrev n_is_whole : List Str := ["thing"]
theorem sc_is_whole : FnScope n_is_whole ["thing"] (defScope s_is_whole) := ⟨rfl, rfl, rfl, by decide +kernel, rfl, by decide +kernel, by decide +kernel⟩
abbrev s_is_within : Stmt := top 11
abbrev n_is_within : List Str := ["thing", "least", "most"]
theorem sc_is_within : FnScope n_is_within ["thing", "least", "most"] (defScope s_is_within) := ⟨rfl, rfl, rfl, by decide +kernel, rfl, by decide +kernel, by decide +kernel⟩
abbrev s_is_strength : Stmt := top 12
abbrev n_is_strength : List Str := ["thing"]
theorem sc_is_strength : FnScope n_is_strength ["thing"] (defScope s_is_strength) := ⟨rfl, rfl, rfl, by decide +kernel, rfl, by decide +kernel, by decide +kernel⟩
abbrev s_is_size : Stmt := top 13
abbrev n_is_size : List Str := ["thing"]
theorem sc_is_size : FnScope n_is_size ["thing"] (defScope s_is_size) := ⟨rfl, rfl, rfl, by decide +kernel, rfl, by decide +kernel, by decide +kernel⟩
abbrev s_is_moment : Stmt := top 14
abbrev n_is_moment : List Str := ["thing"]
theorem sc_is_moment : FnScope n_is_moment ["thing"] (defScope s_is_moment) := ⟨rfl, rfl, rfl, by decide +kernel, rfl, by decide +kernel, by decide +kernel⟩
abbrev s_is_row : Stmt := top 15
abbrev n_is_row : List Str := ["thing", "sign"]
theorem sc_is_row : FnScope n_is_row ["thing"] (defScope s_is_row) := ⟨rfl, rfl, rfl, by decide +kernel, rfl, by decide +kernel, by decide +kernel⟩
abbrev s_is_step : Stmt := top 16
abbrev n_is_step : List Str := ["thing"]
theorem sc_is_step : FnScope n_is_step ["thing"] (defScope s_is_step) := ⟨rfl, rfl, rfl, by decide +kernel, rfl, by decide +kernel, by decide +kernel⟩
abbrev s_is_head : Stmt := top 21
abbrev n_is_head : List Str := ["thing", "one"]
theorem sc_is_head : FnScope n_is_head ["thing"] (defScope s_is_head) := ⟨rfl, rfl, rfl, by decide +kernel, rfl, by decide +kernel, by decide +kernel⟩
abbrev s_is_tail : Stmt := top 22
abbrev n_is_tail : List Str := ["thing", "one"]
theorem sc_is_tail : FnScope n_is_tail ["thing"] (defScope s_is_tail) := ⟨rfl, rfl, rfl, by decide +kernel, rfl, by decide +kernel, by decide +kernel⟩
abbrev s_Wane___init__ : Stmt := inClass (top 23) 0
abbrev n_Wane___init__ : List Str := ["self", "head", "tail", "cap", "lift", "anew"]
theorem sc_Wane___init__ : FnScope n_Wane___init__ ["self", "head", "tail", "cap", "lift", "anew"] (defScope s_Wane___init__) := ⟨rfl, rfl, rfl, by decide +kernel, rfl, by decide +kernel, by decide +kernel⟩
abbrev s_Wane_cap : Stmt := inClass (top 23) 3
abbrev n_Wane_cap : List Str := ["self"]
theorem sc_Wane_cap : FnScope n_Wane_cap ["self"] (defScope s_Wane_cap) := ⟨rfl, rfl, rfl, by decide +kernel, rfl, by decide +kernel, by decide +kernel⟩
abbrev s_Wane_lift : Stmt := inClass (top 23) 4
abbrev n_Wane_lift : List Str := ["self"]
theorem sc_Wane_lift : FnScope n_Wane_lift ["self"] (defScope s_Wane_lift) := ⟨rfl, rfl, rfl, by decide +kernel, rfl, by decide +kernel, by decide +kernel⟩
abbrev s_Wane_is_anew : Stmt := inClass (top 23) 5
abbrev n_Wane_is_anew : List Str := ["self"]
theorem sc_Wane_is_anew : FnScope n_Wane_is_anew ["self"] (defScope s_Wane_is_anew) := ⟨rfl, rfl, rfl, by decide +kernel, rfl, by decide +kernel, by decide +kernel⟩
abbrev s_Wane_coming : Stmt := inClass (top 23) 6
abbrev n_Wane_coming : List Str := ["self", "since", "long"]
theorem sc_Wane_coming : FnScope n_Wane_coming ["self", "since"] (defScope s_Wane_coming) := ⟨rfl, rfl, rfl, by decide +kernel, rfl, by decide +kernel, by decide +kernel⟩
abbrev s_Wane_phase_of : Stmt := inClass (top 23) 7
abbrev n_Wane_phase_of : List Str := ["self", "since", "long"]
theorem sc_Wane_phase_of : FnScope n_Wane_phase_of ["self", "since"] (defScope s_Wane_phase_of) := ⟨rfl, rfl, rfl, by decide +kernel, rfl, by decide +kernel, by decide +kernel⟩
abbrev s_Wane_phase : Stmt := inClass (top 23) 9
abbrev n_Wane_phase : List Str := ["self", "since"]
theorem sc_Wane_phase : FnScope n_Wane_phase ["self", "since"] (defScope s_Wane_phase) := ⟨rfl, rfl, rfl, by decide +kernel, rfl, by decide +kernel, by decide +kernel⟩
abbrev s_check_part : Stmt := top 29
abbrev n_check_part : List Str := ["wane", "strength", "least", "place"]
theorem sc_check_part : FnScope n_check_part ["wane", "strength", "least", "place"] (defScope s_check_part) := ⟨rfl, rfl, rfl, by decide +kernel, rfl, by decide +kernel, by decide +kernel⟩
abbrev s_turned : Stmt := top 30
abbrev n_turned : List Str := ["wane", "strength", "since", "by", "take"]
theorem sc_turned : FnScope n_turned ["wane", "strength", "since"] (defScope s_turned) := ⟨rfl, rfl, rfl, by decide +kernel, rfl, by decide +kernel, by decide +kernel⟩
abbrev s_asked : Stmt := top 31
abbrev n_asked : List Str := ["wane", "strength"]
theorem sc_asked : FnScope n_asked ["wane", "strength"] (defScope s_asked) := ⟨rfl, rfl, rfl, by decide +kernel, rfl, by decide +kernel, by decide +kernel⟩
abbrev s_since_behind_sign : Stmt := top 32
abbrev n_since_behind_sign : List Str := ["wane", "sign", "since"]
theorem sc_since_behind_sign : FnScope n_since_behind_sign ["wane", "sign", "since"] (defScope s_since_behind_sign) := ⟨rfl, rfl, rfl, by decide +kernel, rfl, by decide +kernel, by decide +kernel⟩
abbrev s_waned : Stmt := top 33
abbrev n_waned : List Str := ["wane", "strength", "since"]
theorem sc_waned : FnScope n_waned ["wane", "strength", "since"] (defScope s_waned) := ⟨rfl, rfl, rfl, by decide +kernel, rfl, by decide +kernel, by decide +kernel⟩
abbrev s_lifted : Stmt := top 34
abbrev n_lifted : List Str := ["wane", "strength"]
theorem sc_lifted : FnScope n_lifted ["wane", "strength"] (defScope s_lifted) := ⟨rfl, rfl, rfl, by decide +kernel, rfl, by decide +kernel, by decide +kernel⟩
abbrev s_along : Stmt := top 35
abbrev n_along : List Str := ["wane", "strength", "row", "since", "found", "sign"]
theorem sc_along : FnScope n_along ["wane", "strength", "row", "since"] (defScope s_along) := ⟨rfl, rfl, rfl, by decide +kernel, rfl, by decide +kernel, by decide +kernel⟩
abbrev s_need_asked : Stmt := top 39
abbrev n_need_asked : List Str := ["one", "strength", "other", "far", "most", "place", "wane", "number"]
theorem sc_need_asked : FnScope n_need_asked ["one", "strength", "other", "far", "most"] (defScope s_need_asked) := ⟨rfl, rfl, rfl, by decide +kernel, rfl, by decide +kernel, by decide +kernel⟩
abbrev s_led : Stmt := top 40
abbrev n_led : List Str := ["wane", "state", "sign", "strength", "since"]
theorem sc_led : FnScope n_led ["wane", "state", "sign"] (defScope s_led) := ⟨rfl, rfl, rfl, by decide +kernel, rfl, by decide +kernel, by decide +kernel⟩
abbrev s_alike : Stmt := top 41
abbrev n_alike : List Str := ["one", "strength", "other", "far", "most", "rows", "known", "place", "row", "mine", "yours", "sign", "pair"]
theorem sc_alike : FnScope n_alike ["one", "strength", "other", "far", "most"] (defScope s_alike) := ⟨rfl, rfl, rfl, by decide +kernel, rfl, by decide +kernel, by decide +kernel⟩
abbrev s__law_bag : Stmt := top 58
abbrev n__law_bag : List Str := ["_law_script", "_law_cell"]
theorem sc__law_bag : FnScope n__law_bag ["_law_script"] (defScope s__law_bag) := ⟨rfl, rfl, rfl, by decide +kernel, rfl, by decide +kernel, by decide +kernel⟩
abbrev s__law_take : Stmt := top 59
abbrev n__law_take : List Str := ["_law_bag_here", "_law_many", "_law_cell", "_law_value", "_law_first", "_law_second"]
theorem sc__law_take : FnScope n__law_take ["_law_bag_here", "_law_many"] (defScope s__law_take) := ⟨rfl, rfl, rfl, by decide +kernel, rfl, by decide +kernel, by decide +kernel⟩
abbrev s__law_told : Stmt := top 65
abbrev n__law_told : List Str := ["_law_bag_here", "_law_two_here", "_law_limit", "_law_one", "_law_strength", "_law_other", "_law_far", "_law_wanes", "_law_k", "e"]
theorem sc__law_told : FnScope n__law_told ["_law_bag_here", "_law_two_here", "_law_limit"] (defScope s__law_told) := ⟨rfl, rfl, rfl, by decide +kernel, rfl, by decide +kernel, by decide +kernel⟩
abbrev s__law_steps : Stmt := top 60
abbrev n__law_steps : List Str := ["_law_bag_here", "_law_many", "_law_found", "_law_k", "_law_by"]
theorem sc__law_steps : FnScope n__law_steps ["_law_bag_here", "_law_many"] (defScope s__law_steps) := ⟨rfl, rfl, rfl, by decide +kernel, rfl, by decide +kernel, by decide +kernel⟩
abbrev s__law_plan : Stmt := top 61
abbrev n__law_plan : List Str := ["_law_bag_here", "_law_bound", "_law_head", "_law_tail", "_law_top"]
theorem sc__law_plan : FnScope n__law_plan ["_law_bag_here", "_law_bound"] (defScope s__law_plan) := ⟨rfl, rfl, rfl, by decide +kernel, rfl, by decide +kernel, by decide +kernel⟩
abbrev s__law_made : Stmt := top 62
abbrev n__law_made : List Str := ["_law_plan_here"]
theorem sc__law_made : FnScope n__law_made ["_law_plan_here"] (defScope s__law_made) := ⟨rfl, rfl, rfl, by decide +kernel, rfl, by decide +kernel, by decide +kernel⟩
abbrev s__law_two : Stmt := top 63
abbrev n__law_two : List Str := ["_law_bag_here", "_law_bound", "_law_plan_here", "_law_strength", "_law_head", "_law_tail", "_law_top", "_law_up", "_law_renewed", "_law_way", "_law_at", "_law_steps_here", "_law_other"]
theorem sc__law_two : FnScope n__law_two ["_law_bag_here", "_law_bound"] (defScope s__law_two) := ⟨rfl, rfl, rfl, by decide +kernel, rfl, by decide +kernel, by decide +kernel⟩
abbrev s__law_long : Stmt := top 64
abbrev n__law_long : List Str := ["_law_bag_here", "_law_tail", "_law_head", "_law_some", "_law_top", "_law_rest"]
theorem sc__law_long : FnScope n__law_long ["_law_bag_here"] (defScope s__law_long) := ⟨rfl, rfl, rfl, by decide +kernel, rfl, by decide +kernel, by decide +kernel⟩
abbrev s_law : Stmt := top 70
abbrev n_law : List Str := ["_law_script", "_law_bag_here", "_law_again", "_law_two_here", "_law_told_here", "_law_one", "_law_strength", "_law_other", "_law_far", "_law_k"]
theorem sc_law : FnScope n_law ["_law_script"] (defScope s_law) := ⟨rfl, rfl, rfl, by decide +kernel, rfl, by decide +kernel, by decide +kernel⟩
def tys (K : PySem.W.Frag) : List Value := [.type "NoneType", .type "bool", .type "int", .type "str", .type "list", .type "tuple", .type "dict", .ref (He.ga K "Wane")]
def cls (K : PySem.W.Frag) : List Value := [.type "bool", .type "int", .type "str", .type "list", .type "tuple", .ref (He.ga K "Wane")]
def isk (t c : Value) : Bool := decide (t = c) || (decide (t = .type "bool") && decide (c = .type "int"))
def insB (K : PySem.W.Frag) (C : Addr) : Bool := decide (PySem.W.findIn K (.ref C) "__class__" = some (some (.builtin "object.__class__"))) && (decide (PySem.W.specialIn K (.builtin "object.__class__") "__get__" = some (some (.builtin "getset_descriptor.__get__"))) &&
  (decide (PySem.W.takesIn K (.builtin "object.__class__") = some true) && decide (PySem.W.mroIn K C (.type "object") = some true)))
def kitAll (K : PySem.W.Frag) : Bool := ((tys K).all fun t => (cls K).all fun c => decide (PySem.W.kitOne K t c = some (isk t c))) && insB K (He.ga K "Wane")
def d_figures_of : He.DefD := ⟨("figures_of", none), "figures_of", "figures_of", defArgs s_figures_of, defBody s_figures_of, defScope s_figures_of, [], []⟩
def d_Wane_head : He.DefD := ⟨("Wane", some "head"), "head", "Wane.head", defArgs s_Wane_head, defBody s_Wane_head, defScope s_Wane_head, [], []⟩
def d_Wane_tail : He.DefD := ⟨("Wane", some "tail"), "tail", "Wane.tail", defArgs s_Wane_tail, defBody s_Wane_tail, defScope s_Wane_tail, [], []⟩
def d_Wane_text : He.DefD := ⟨("Wane", some "text"), "text", "Wane.text", defArgs s_Wane_text, defBody s_Wane_text, defScope s_Wane_text, [], []⟩
def d_step_of : He.DefD := ⟨("step_of", none), "step_of", "step_of", defArgs s_step_of, defBody s_step_of, defScope s_step_of, [], []⟩
def d_parts_of : He.DefD := ⟨("parts_of", none), "parts_of", "parts_of", defArgs s_parts_of, defBody s_parts_of, defScope s_parts_of, [], []⟩
def d_wane_of_words : He.DefD := ⟨("wane_of_words", none), "wane_of_words", "wane_of_words", defArgs s_wane_of_words, defBody s_wane_of_words, defScope s_wane_of_words, [], []⟩
def d_read_wane : He.DefD := ⟨("read_wane", none), "read_wane", "read_wane", defArgs s_read_wane, defBody s_read_wane, defScope s_read_wane, [], []⟩
def d_turn_effect : He.DefD := ⟨("turn_effect", none), "turn_effect", "turn_effect", defArgs s_turn_effect, defBody s_turn_effect, defScope s_turn_effect, [], []⟩
def d_join_two : He.DefD := ⟨("join_two", none), "join_two", "join_two", defArgs s_join_two, defBody s_join_two, defScope s_join_two, [], []⟩
def d_row_effect : He.DefD := ⟨("row_effect", none), "row_effect", "row_effect", defArgs s_row_effect, defBody s_row_effect, defScope s_row_effect, [], []⟩
def d_through : He.DefD := ⟨("through", none), "through", "through", defArgs s_through, defBody s_through, defScope s_through, [], []⟩
def d_common : He.DefD := ⟨("common", none), "common", "common", defArgs s_common, defBody s_common, defScope s_common, [], []⟩
def d_row_walked : He.DefD := ⟨("row_walked", none), "row_walked", "row_walked", defArgs s_row_walked, defBody s_row_walked, defScope s_row_walked, [], []⟩
def d_straight : He.DefD := ⟨("straight", none), "straight", "straight", defArgs s_straight, defBody s_straight, defScope s_straight, [], []⟩
def d_repeated : He.DefD := ⟨("repeated", none), "repeated", "repeated", defArgs s_repeated, defBody s_repeated, defScope s_repeated, [], []⟩
def d_Going___init__ : He.DefD := ⟨("Going", some "__init__"), "__init__", "Going.__init__", defArgs s_Going___init__, defBody s_Going___init__, defScope s_Going___init__, [], []⟩
def d_Going_behind : He.DefD := ⟨("Going", some "behind"), "behind", "Going.behind", defArgs s_Going_behind, defBody s_Going_behind, defScope s_Going_behind, [], []⟩
def d_Going_state : He.DefD := ⟨("Going", some "state"), "state", "Going.state", defArgs s_Going_state, defBody s_Going_state, defScope s_Going_state, [], []⟩
def d_Going_comes_again : He.DefD := ⟨("Going", some "comes_again"), "comes_again", "Going.comes_again", defArgs s_Going_comes_again, defBody s_Going_comes_again, defScope s_Going_comes_again, [], []⟩
def d_behind : He.DefD := ⟨("behind", none), "behind", "behind", defArgs s_behind, defBody s_behind, defScope s_behind, [], [("since", (.int 0))]⟩
def d_least_of : He.DefD := ⟨("least_of", none), "least_of", "least_of", defArgs s_least_of, defBody s_least_of, defScope s_least_of, [], []⟩
def d_fate : He.DefD := ⟨("fate", none), "fate", "fate", defArgs s_fate, defBody s_fate, defScope s_fate, [], [("since", (.int 0))]⟩
def d__law_row : He.DefD := ⟨("_law_row", none), "_law_row", "_law_row", defArgs s__law_row, defBody s__law_row, defScope s__law_row, [], []⟩
def d__law_stand : He.DefD := ⟨("_law_stand", none), "_law_stand", "_law_stand", defArgs s__law_stand, defBody s__law_stand, defScope s__law_stand, [], []⟩
def d__law_rounds : He.DefD := ⟨("_law_rounds", none), "_law_rounds", "_law_rounds", defArgs s__law_rounds, defBody s__law_rounds, defScope s__law_rounds, [], []⟩
def d__law_gone_stays : He.DefD := ⟨("_law_gone_stays", none), "_law_gone_stays", "_law_gone_stays", defArgs s__law_gone_stays, defBody s__law_gone_stays, defScope s__law_gone_stays, [], []⟩
def d_TooMany___init__ : He.DefD := ⟨("TooMany", some "__init__"), "__init__", "TooMany.__init__", defArgs s_TooMany___init__, defBody s_TooMany___init__, defScope s_TooMany___init__, [], []⟩
def d_is_whole : He.DefD := ⟨("is_whole", none), "is_whole", "is_whole", defArgs s_is_whole, defBody s_is_whole, defScope s_is_whole, [], []⟩
def d_is_within : He.DefD := ⟨("is_within", none), "is_within", "is_within", defArgs s_is_within, defBody s_is_within, defScope s_is_within, [], []⟩
def d_is_strength : He.DefD := ⟨("is_strength", none), "is_strength", "is_strength", defArgs s_is_strength, defBody s_is_strength, defScope s_is_strength, [], []⟩
def d_is_size : He.DefD := ⟨("is_size", none), "is_size", "is_size", defArgs s_is_size, defBody s_is_size, defScope s_is_size, [], []⟩
def d_is_moment : He.DefD := ⟨("is_moment", none), "is_moment", "is_moment", defArgs s_is_moment, defBody s_is_moment, defScope s_is_moment, [], []⟩
def d_is_row : He.DefD := ⟨("is_row", none), "is_row", "is_row", defArgs s_is_row, defBody s_is_row, defScope s_is_row, [], []⟩
def d_is_step : He.DefD := ⟨("is_step", none), "is_step", "is_step", defArgs s_is_step, defBody s_is_step, defScope s_is_step, [], []⟩
def d_is_head : He.DefD := ⟨("is_head", none), "is_head", "is_head", defArgs s_is_head, defBody s_is_head, defScope s_is_head, [], []⟩
def d_is_tail : He.DefD := ⟨("is_tail", none), "is_tail", "is_tail", defArgs s_is_tail, defBody s_is_tail, defScope s_is_tail, [], []⟩
def d_Wane___init__ : He.DefD := ⟨("Wane", some "__init__"), "__init__", "Wane.__init__", defArgs s_Wane___init__, defBody s_Wane___init__, defScope s_Wane___init__, [], [("anew", (.bl true))]⟩
def d_Wane_cap : He.DefD := ⟨("Wane", some "cap"), "cap", "Wane.cap", defArgs s_Wane_cap, defBody s_Wane_cap, defScope s_Wane_cap, [], []⟩
def d_Wane_lift : He.DefD := ⟨("Wane", some "lift"), "lift", "Wane.lift", defArgs s_Wane_lift, defBody s_Wane_lift, defScope s_Wane_lift, [], []⟩
def d_Wane_is_anew : He.DefD := ⟨("Wane", some "is_anew"), "is_anew", "Wane.is_anew", defArgs s_Wane_is_anew, defBody s_Wane_is_anew, defScope s_Wane_is_anew, [], []⟩
def d_Wane_coming : He.DefD := ⟨("Wane", some "coming"), "coming", "Wane.coming", defArgs s_Wane_coming, defBody s_Wane_coming, defScope s_Wane_coming, [], []⟩
def d_Wane_phase_of : He.DefD := ⟨("Wane", some "phase_of"), "phase_of", "Wane.phase_of", defArgs s_Wane_phase_of, defBody s_Wane_phase_of, defScope s_Wane_phase_of, [], []⟩
def d_Wane_phase : He.DefD := ⟨("Wane", some "phase"), "phase", "Wane.phase", defArgs s_Wane_phase, defBody s_Wane_phase, defScope s_Wane_phase, [], []⟩
def d_check_part : He.DefD := ⟨("check_part", none), "check_part", "check_part", defArgs s_check_part, defBody s_check_part, defScope s_check_part, [], []⟩
def d_turned : He.DefD := ⟨("turned", none), "turned", "turned", defArgs s_turned, defBody s_turned, defScope s_turned, [], []⟩
def d_asked : He.DefD := ⟨("asked", none), "asked", "asked", defArgs s_asked, defBody s_asked, defScope s_asked, [], []⟩
def d_since_behind_sign : He.DefD := ⟨("since_behind_sign", none), "since_behind_sign", "since_behind_sign", defArgs s_since_behind_sign, defBody s_since_behind_sign, defScope s_since_behind_sign, [], []⟩
def d_waned : He.DefD := ⟨("waned", none), "waned", "waned", defArgs s_waned, defBody s_waned, defScope s_waned, [], []⟩
def d_lifted : He.DefD := ⟨("lifted", none), "lifted", "lifted", defArgs s_lifted, defBody s_lifted, defScope s_lifted, [], []⟩
def d_along : He.DefD := ⟨("along", none), "along", "along", defArgs s_along, defBody s_along, defScope s_along, [], [("since", (.int 0))]⟩
def d_need_asked : He.DefD := ⟨("need_asked", none), "need_asked", "need_asked", defArgs s_need_asked, defBody s_need_asked, defScope s_need_asked, [], []⟩
def d_led : He.DefD := ⟨("led", none), "led", "led", defArgs s_led, defBody s_led, defScope s_led, [], []⟩
def d_alike : He.DefD := ⟨("alike", none), "alike", "alike", defArgs s_alike, defBody s_alike, defScope s_alike, [], [("most", (.int 200))]⟩
def d__law_bag : He.DefD := ⟨("_law_bag", none), "_law_bag", "_law_bag", defArgs s__law_bag, defBody s__law_bag, defScope s__law_bag, [], []⟩
def d__law_take : He.DefD := ⟨("_law_take", none), "_law_take", "_law_take", defArgs s__law_take, defBody s__law_take, defScope s__law_take, [], []⟩
def d__law_told : He.DefD := ⟨("_law_told", none), "_law_told", "_law_told", defArgs s__law_told, defBody s__law_told, defScope s__law_told, [], []⟩
def d__law_steps : He.DefD := ⟨("_law_steps", none), "_law_steps", "_law_steps", defArgs s__law_steps, defBody s__law_steps, defScope s__law_steps, [], []⟩
def d__law_plan : He.DefD := ⟨("_law_plan", none), "_law_plan", "_law_plan", defArgs s__law_plan, defBody s__law_plan, defScope s__law_plan, [], []⟩
def d__law_made : He.DefD := ⟨("_law_made", none), "_law_made", "_law_made", defArgs s__law_made, defBody s__law_made, defScope s__law_made, [], []⟩
def d__law_two : He.DefD := ⟨("_law_two", none), "_law_two", "_law_two", defArgs s__law_two, defBody s__law_two, defScope s__law_two, [], []⟩
def d__law_long : He.DefD := ⟨("_law_long", none), "_law_long", "_law_long", defArgs s__law_long, defBody s__law_long, defScope s__law_long, [], []⟩
def d_law : He.DefD := ⟨("law", none), "law", "law", defArgs s_law, defBody s_law, defScope s_law, [], []⟩
def fnL : List He.DefD := [d_figures_of, d_Wane_head, d_Wane_tail, d_Wane_text, d_step_of, d_parts_of, d_wane_of_words, d_read_wane, d_turn_effect, d_join_two, d_row_effect, d_through, d_common, d_row_walked, d_straight, d_repeated, d_Going___init__, d_Going_behind, d_Going_state, d_Going_comes_again, d_behind, d_least_of, d_fate, d__law_row, d__law_stand, d__law_rounds, d__law_gone_stays, d_TooMany___init__, d_is_whole, d_is_within, d_is_strength, d_is_size, d_is_moment, d_is_row, d_is_step, d_is_head, d_is_tail, d_Wane___init__, d_Wane_cap, d_Wane_lift, d_Wane_is_anew, d_Wane_coming, d_Wane_phase_of, d_Wane_phase, d_check_part, d_turned, d_asked, d_since_behind_sign, d_waned, d_lifted, d_along, d_need_asked, d_led, d_alike, d__law_bag, d__law_take, d__law_told, d__law_steps, d__law_plan, d__law_made, d__law_two, d__law_long, d_law]
def faL : List He.Fa := [.free "abs", .free "all", .free "bool", .free "int", .free "isinstance", .free "len", .free "list", .free "max", .free "min", .free "range", .free "str", .free "tuple", .glo "figures_of", .glo "step_of", .glo "parts_of", .glo "wane_of_words", .glo "read_wane", .glo "turn_effect", .glo "join_two", .glo "row_effect", .glo "through", .glo "common", .glo "row_walked", .glo "straight", .glo "repeated", .glo "behind", .glo "least_of", .glo "fate", .glo "_law_row", .glo "_law_stand", .glo "_law_rounds", .glo "_law_gone_stays", .glo "is_whole", .glo "is_within", .glo "is_strength", .glo "is_size", .glo "is_moment", .glo "is_row", .glo "is_step", .glo "is_head", .glo "is_tail", .glo "check_part", .glo "turned", .glo "asked", .glo "since_behind_sign", .glo "waned", .glo "lifted", .glo "along", .glo "need_asked", .glo "led", .glo "alike", .glo "_law_bag", .glo "_law_take", .glo "_law_told", .glo "_law_steps", .glo "_law_plan", .glo "_law_made", .glo "_law_two", .glo "_law_long", .glo "law", .glo "WaneError", .glo "TooMany", .glo "Wane", .glo "Going", .str "FIGURES" "0123456789", .int "MOST_STRENGTH" 1000000000, .int "MOST_MOMENT" 1000000000000000000000000000000, .int "LONGEST_ROW" 200, .int "LONGEST_HEAD" 24, .glo "TAILS", .int "MOST_PAIRS" 400, .str "SIGNS" ".a", .int "FAR" 1000000000000, .cls "Wane", .noat "Wane" "begins", .noat "Wane" "cap_at", .noat "Wane" "head_steps", .noat "Wane" "lift_by", .noat "Wane" "tail_steps", .meth "Wane" "head", .meth "Wane" "tail", .meth "Wane" "text", .meth "Wane" "cap", .meth "Wane" "lift", .meth "Wane" "is_anew", .meth "Wane" "coming", .meth "Wane" "phase_of", .meth "Wane" "phase", .mkr "Wane", .cls "Going", .noat "Going" "effect", .noat "Going" "firsts", .noat "Going" "fresh", .noat "Going" "period", .noat "Going" "row", .noat "Going" "settle", .noat "Going" "since", .noat "Going" "strength", .noat "Going" "turns", .noat "Going" "wane", .meth "Going" "behind", .meth "Going" "state", .meth "Going" "comes_again", .mkr "Going", .noat "TooMany" "most"]
def exL : List (PySem.W.Frag → Bool) := [kitAll, fun K => He.tupB K "TAILS" [.int 1, .int 2, .int 3, .int 4, .int 6, .int 8, .int 12, .int 24], fun K => L2.xfB K (He.ga K "TooMany") && decide (PySem.W.findIn K (.ref (He.ga K "TooMany")) "most" = some none), fun K => EX.oexB K (He.ga K "TooMany"), fun K => decide (PySem.W.findIn K (.ref (He.ga K "TooMany")) "__init__" = some (some (.ref (He.ma K (He.ga K "TooMany") "__init__")))) && (decide (PySem.W.typeIn K (.ref (He.ma K (He.ga K "TooMany") "__init__")) = some (.type "function")) && decide (PySem.W.exmOne K (.ref (He.ga K "TooMany")) (.ref (He.ga K "TooMany")) = some true)), fun K => EX.binB K (He.ga K "WaneError")]
structure Txt (K : PySem.W.Frag) (mg : Str → Option Value) : Prop where
  fn : ∀ (i : Nat) (d : He.DefD), fnL[i]? = some d → ∃ fd, FunD K d.name d.qual d.params d.body d.scope (d.dvs K) (d.kws K) (He.fAd K d.at_) fd
  fa : ∀ (i : Nat) {f : He.Fa}, faL[i]? = some f → f.ok K = true
  hp : ∃ h : Heap, K.In h ∧ h.Ns mainGlobals mg
  ex : ∀ (i : Nat) {f : PySem.W.Frag → Bool}, exL[i]? = some f → f K = true
section
variable {K : PySem.W.Frag} {mg : Str → Option Value}
theorem Txt.b_abs (T : Txt K mg) : mg "abs" = none := let ⟨_, X, G⟩ := T.hp; He.free_ok X G (T.fa 0 rfl)
theorem Txt.b_all (T : Txt K mg) : mg "all" = none := let ⟨_, X, G⟩ := T.hp; He.free_ok X G (T.fa 1 rfl)
theorem Txt.b_bool (T : Txt K mg) : mg "bool" = none := let ⟨_, X, G⟩ := T.hp; He.free_ok X G (T.fa 2 rfl)
theorem Txt.b_int (T : Txt K mg) : mg "int" = none := let ⟨_, X, G⟩ := T.hp; He.free_ok X G (T.fa 3 rfl)
theorem Txt.b_isinstance (T : Txt K mg) : mg "isinstance" = none := let ⟨_, X, G⟩ := T.hp; He.free_ok X G (T.fa 4 rfl)
theorem Txt.b_len (T : Txt K mg) : mg "len" = none := let ⟨_, X, G⟩ := T.hp; He.free_ok X G (T.fa 5 rfl)
theorem Txt.b_list (T : Txt K mg) : mg "list" = none := let ⟨_, X, G⟩ := T.hp; He.free_ok X G (T.fa 6 rfl)
theorem Txt.b_max (T : Txt K mg) : mg "max" = none := let ⟨_, X, G⟩ := T.hp; He.free_ok X G (T.fa 7 rfl)
theorem Txt.b_min (T : Txt K mg) : mg "min" = none := let ⟨_, X, G⟩ := T.hp; He.free_ok X G (T.fa 8 rfl)
theorem Txt.b_range (T : Txt K mg) : mg "range" = none := let ⟨_, X, G⟩ := T.hp; He.free_ok X G (T.fa 9 rfl)
theorem Txt.b_str (T : Txt K mg) : mg "str" = none := let ⟨_, X, G⟩ := T.hp; He.free_ok X G (T.fa 10 rfl)
theorem Txt.b_tuple (T : Txt K mg) : mg "tuple" = none := let ⟨_, X, G⟩ := T.hp; He.free_ok X G (T.fa 11 rfl)
theorem Txt.g_figures_of (T : Txt K mg) : mg "figures_of" = some (.ref (He.ga K "figures_of")) := let ⟨_, X, G⟩ := T.hp; He.glo_ok X G (T.fa 12 rfl)
theorem Txt.g_step_of (T : Txt K mg) : mg "step_of" = some (.ref (He.ga K "step_of")) := let ⟨_, X, G⟩ := T.hp; He.glo_ok X G (T.fa 13 rfl)
theorem Txt.g_parts_of (T : Txt K mg) : mg "parts_of" = some (.ref (He.ga K "parts_of")) := let ⟨_, X, G⟩ := T.hp; He.glo_ok X G (T.fa 14 rfl)
theorem Txt.g_wane_of_words (T : Txt K mg) : mg "wane_of_words" = some (.ref (He.ga K "wane_of_words")) := let ⟨_, X, G⟩ := T.hp; He.glo_ok X G (T.fa 15 rfl)
theorem Txt.g_read_wane (T : Txt K mg) : mg "read_wane" = some (.ref (He.ga K "read_wane")) := let ⟨_, X, G⟩ := T.hp; He.glo_ok X G (T.fa 16 rfl)
theorem Txt.g_turn_effect (T : Txt K mg) : mg "turn_effect" = some (.ref (He.ga K "turn_effect")) := let ⟨_, X, G⟩ := T.hp; He.glo_ok X G (T.fa 17 rfl)
theorem Txt.g_join_two (T : Txt K mg) : mg "join_two" = some (.ref (He.ga K "join_two")) := let ⟨_, X, G⟩ := T.hp; He.glo_ok X G (T.fa 18 rfl)
theorem Txt.g_row_effect (T : Txt K mg) : mg "row_effect" = some (.ref (He.ga K "row_effect")) := let ⟨_, X, G⟩ := T.hp; He.glo_ok X G (T.fa 19 rfl)
theorem Txt.g_through (T : Txt K mg) : mg "through" = some (.ref (He.ga K "through")) := let ⟨_, X, G⟩ := T.hp; He.glo_ok X G (T.fa 20 rfl)
theorem Txt.g_common (T : Txt K mg) : mg "common" = some (.ref (He.ga K "common")) := let ⟨_, X, G⟩ := T.hp; He.glo_ok X G (T.fa 21 rfl)
theorem Txt.g_row_walked (T : Txt K mg) : mg "row_walked" = some (.ref (He.ga K "row_walked")) := let ⟨_, X, G⟩ := T.hp; He.glo_ok X G (T.fa 22 rfl)
theorem Txt.g_straight (T : Txt K mg) : mg "straight" = some (.ref (He.ga K "straight")) := let ⟨_, X, G⟩ := T.hp; He.glo_ok X G (T.fa 23 rfl)
theorem Txt.g_repeated (T : Txt K mg) : mg "repeated" = some (.ref (He.ga K "repeated")) := let ⟨_, X, G⟩ := T.hp; He.glo_ok X G (T.fa 24 rfl)
theorem Txt.g_behind (T : Txt K mg) : mg "behind" = some (.ref (He.ga K "behind")) := let ⟨_, X, G⟩ := T.hp; He.glo_ok X G (T.fa 25 rfl)
theorem Txt.g_least_of (T : Txt K mg) : mg "least_of" = some (.ref (He.ga K "least_of")) := let ⟨_, X, G⟩ := T.hp; He.glo_ok X G (T.fa 26 rfl)
theorem Txt.g_fate (T : Txt K mg) : mg "fate" = some (.ref (He.ga K "fate")) := let ⟨_, X, G⟩ := T.hp; He.glo_ok X G (T.fa 27 rfl)
theorem Txt.g__law_row (T : Txt K mg) : mg "_law_row" = some (.ref (He.ga K "_law_row")) := let ⟨_, X, G⟩ := T.hp; He.glo_ok X G (T.fa 28 rfl)
theorem Txt.g__law_stand (T : Txt K mg) : mg "_law_stand" = some (.ref (He.ga K "_law_stand")) := let ⟨_, X, G⟩ := T.hp; He.glo_ok X G (T.fa 29 rfl)
theorem Txt.g__law_rounds (T : Txt K mg) : mg "_law_rounds" = some (.ref (He.ga K "_law_rounds")) := let ⟨_, X, G⟩ := T.hp; He.glo_ok X G (T.fa 30 rfl)
theorem Txt.g__law_gone_stays (T : Txt K mg) : mg "_law_gone_stays" = some (.ref (He.ga K "_law_gone_stays")) := let ⟨_, X, G⟩ := T.hp; He.glo_ok X G (T.fa 31 rfl)
theorem Txt.g_is_whole (T : Txt K mg) : mg "is_whole" = some (.ref (He.ga K "is_whole")) := let ⟨_, X, G⟩ := T.hp; He.glo_ok X G (T.fa 32 rfl)
theorem Txt.g_is_within (T : Txt K mg) : mg "is_within" = some (.ref (He.ga K "is_within")) := let ⟨_, X, G⟩ := T.hp; He.glo_ok X G (T.fa 33 rfl)
theorem Txt.g_is_strength (T : Txt K mg) : mg "is_strength" = some (.ref (He.ga K "is_strength")) := let ⟨_, X, G⟩ := T.hp; He.glo_ok X G (T.fa 34 rfl)
theorem Txt.g_is_size (T : Txt K mg) : mg "is_size" = some (.ref (He.ga K "is_size")) := let ⟨_, X, G⟩ := T.hp; He.glo_ok X G (T.fa 35 rfl)
theorem Txt.g_is_moment (T : Txt K mg) : mg "is_moment" = some (.ref (He.ga K "is_moment")) := let ⟨_, X, G⟩ := T.hp; He.glo_ok X G (T.fa 36 rfl)
theorem Txt.g_is_row (T : Txt K mg) : mg "is_row" = some (.ref (He.ga K "is_row")) := let ⟨_, X, G⟩ := T.hp; He.glo_ok X G (T.fa 37 rfl)
theorem Txt.g_is_step (T : Txt K mg) : mg "is_step" = some (.ref (He.ga K "is_step")) := let ⟨_, X, G⟩ := T.hp; He.glo_ok X G (T.fa 38 rfl)
theorem Txt.g_is_head (T : Txt K mg) : mg "is_head" = some (.ref (He.ga K "is_head")) := let ⟨_, X, G⟩ := T.hp; He.glo_ok X G (T.fa 39 rfl)
theorem Txt.g_is_tail (T : Txt K mg) : mg "is_tail" = some (.ref (He.ga K "is_tail")) := let ⟨_, X, G⟩ := T.hp; He.glo_ok X G (T.fa 40 rfl)
theorem Txt.g_check_part (T : Txt K mg) : mg "check_part" = some (.ref (He.ga K "check_part")) := let ⟨_, X, G⟩ := T.hp; He.glo_ok X G (T.fa 41 rfl)
theorem Txt.g_turned (T : Txt K mg) : mg "turned" = some (.ref (He.ga K "turned")) := let ⟨_, X, G⟩ := T.hp; He.glo_ok X G (T.fa 42 rfl)
theorem Txt.g_asked (T : Txt K mg) : mg "asked" = some (.ref (He.ga K "asked")) := let ⟨_, X, G⟩ := T.hp; He.glo_ok X G (T.fa 43 rfl)
theorem Txt.g_since_behind_sign (T : Txt K mg) : mg "since_behind_sign" = some (.ref (He.ga K "since_behind_sign")) := let ⟨_, X, G⟩ := T.hp; He.glo_ok X G (T.fa 44 rfl)
theorem Txt.g_waned (T : Txt K mg) : mg "waned" = some (.ref (He.ga K "waned")) := let ⟨_, X, G⟩ := T.hp; He.glo_ok X G (T.fa 45 rfl)
theorem Txt.g_lifted (T : Txt K mg) : mg "lifted" = some (.ref (He.ga K "lifted")) := let ⟨_, X, G⟩ := T.hp; He.glo_ok X G (T.fa 46 rfl)
theorem Txt.g_along (T : Txt K mg) : mg "along" = some (.ref (He.ga K "along")) := let ⟨_, X, G⟩ := T.hp; He.glo_ok X G (T.fa 47 rfl)
theorem Txt.g_need_asked (T : Txt K mg) : mg "need_asked" = some (.ref (He.ga K "need_asked")) := let ⟨_, X, G⟩ := T.hp; He.glo_ok X G (T.fa 48 rfl)
theorem Txt.g_led (T : Txt K mg) : mg "led" = some (.ref (He.ga K "led")) := let ⟨_, X, G⟩ := T.hp; He.glo_ok X G (T.fa 49 rfl)
theorem Txt.g_alike (T : Txt K mg) : mg "alike" = some (.ref (He.ga K "alike")) := let ⟨_, X, G⟩ := T.hp; He.glo_ok X G (T.fa 50 rfl)
theorem Txt.g__law_bag (T : Txt K mg) : mg "_law_bag" = some (.ref (He.ga K "_law_bag")) := let ⟨_, X, G⟩ := T.hp; He.glo_ok X G (T.fa 51 rfl)
theorem Txt.g__law_take (T : Txt K mg) : mg "_law_take" = some (.ref (He.ga K "_law_take")) := let ⟨_, X, G⟩ := T.hp; He.glo_ok X G (T.fa 52 rfl)
theorem Txt.g__law_told (T : Txt K mg) : mg "_law_told" = some (.ref (He.ga K "_law_told")) := let ⟨_, X, G⟩ := T.hp; He.glo_ok X G (T.fa 53 rfl)
theorem Txt.g__law_steps (T : Txt K mg) : mg "_law_steps" = some (.ref (He.ga K "_law_steps")) := let ⟨_, X, G⟩ := T.hp; He.glo_ok X G (T.fa 54 rfl)
theorem Txt.g__law_plan (T : Txt K mg) : mg "_law_plan" = some (.ref (He.ga K "_law_plan")) := let ⟨_, X, G⟩ := T.hp; He.glo_ok X G (T.fa 55 rfl)
theorem Txt.g__law_made (T : Txt K mg) : mg "_law_made" = some (.ref (He.ga K "_law_made")) := let ⟨_, X, G⟩ := T.hp; He.glo_ok X G (T.fa 56 rfl)
theorem Txt.g__law_two (T : Txt K mg) : mg "_law_two" = some (.ref (He.ga K "_law_two")) := let ⟨_, X, G⟩ := T.hp; He.glo_ok X G (T.fa 57 rfl)
theorem Txt.g__law_long (T : Txt K mg) : mg "_law_long" = some (.ref (He.ga K "_law_long")) := let ⟨_, X, G⟩ := T.hp; He.glo_ok X G (T.fa 58 rfl)
theorem Txt.g_law (T : Txt K mg) : mg "law" = some (.ref (He.ga K "law")) := let ⟨_, X, G⟩ := T.hp; He.glo_ok X G (T.fa 59 rfl)
theorem Txt.g_WaneError (T : Txt K mg) : mg "WaneError" = some (.ref (He.ga K "WaneError")) := let ⟨_, X, G⟩ := T.hp; He.glo_ok X G (T.fa 60 rfl)
theorem Txt.g_TooMany (T : Txt K mg) : mg "TooMany" = some (.ref (He.ga K "TooMany")) := let ⟨_, X, G⟩ := T.hp; He.glo_ok X G (T.fa 61 rfl)
theorem Txt.g_Wane (T : Txt K mg) : mg "Wane" = some (.ref (He.ga K "Wane")) := let ⟨_, X, G⟩ := T.hp; He.glo_ok X G (T.fa 62 rfl)
theorem Txt.g_Going (T : Txt K mg) : mg "Going" = some (.ref (He.ga K "Going")) := let ⟨_, X, G⟩ := T.hp; He.glo_ok X G (T.fa 63 rfl)
theorem Txt.c_FIGURES (T : Txt K mg) : ∃ u, mg "FIGURES" = some u ∧ RelV (.str "0123456789") u := let ⟨_, X, G⟩ := T.hp; let ⟨t, e⟩ := He.str_ok X G (T.fa 64 rfl); ⟨_, e, t, rfl⟩
theorem Txt.c_MOST_STRENGTH (T : Txt K mg) : ∃ u, mg "MOST_STRENGTH" = some u ∧ RelV (.int 1000000000) u := let ⟨_, X, G⟩ := T.hp; let ⟨t, e⟩ := He.int_ok X G (T.fa 65 rfl); ⟨_, e, t, rfl⟩
theorem Txt.c_MOST_MOMENT (T : Txt K mg) : ∃ u, mg "MOST_MOMENT" = some u ∧ RelV (.int 1000000000000000000000000000000) u := let ⟨_, X, G⟩ := T.hp; let ⟨t, e⟩ := He.int_ok X G (T.fa 66 rfl); ⟨_, e, t, rfl⟩
theorem Txt.c_LONGEST_ROW (T : Txt K mg) : ∃ u, mg "LONGEST_ROW" = some u ∧ RelV (.int 200) u := let ⟨_, X, G⟩ := T.hp; let ⟨t, e⟩ := He.int_ok X G (T.fa 67 rfl); ⟨_, e, t, rfl⟩
theorem Txt.c_LONGEST_HEAD (T : Txt K mg) : ∃ u, mg "LONGEST_HEAD" = some u ∧ RelV (.int 24) u := let ⟨_, X, G⟩ := T.hp; let ⟨t, e⟩ := He.int_ok X G (T.fa 68 rfl); ⟨_, e, t, rfl⟩
theorem Txt.c_TAILS (T : Txt K mg) : ∃ u, mg "TAILS" = some u ∧ RelV (.ref (He.ga K "TAILS")) u := let ⟨_, X, G⟩ := T.hp; ⟨_, He.glo_ok X G (T.fa 69 rfl), rfl⟩
theorem Txt.c_MOST_PAIRS (T : Txt K mg) : ∃ u, mg "MOST_PAIRS" = some u ∧ RelV (.int 400) u := let ⟨_, X, G⟩ := T.hp; let ⟨t, e⟩ := He.int_ok X G (T.fa 70 rfl); ⟨_, e, t, rfl⟩
theorem Txt.c_SIGNS (T : Txt K mg) : ∃ u, mg "SIGNS" = some u ∧ RelV (.str ".a") u := let ⟨_, X, G⟩ := T.hp; let ⟨t, e⟩ := He.str_ok X G (T.fa 71 rfl); ⟨_, e, t, rfl⟩
theorem Txt.c_FAR (T : Txt K mg) : ∃ u, mg "FAR" = some u ∧ RelV (.int 1000000000000) u := let ⟨_, X, G⟩ := T.hp; let ⟨t, e⟩ := He.int_ok X G (T.fa 72 rfl); ⟨_, e, t, rfl⟩
theorem Txt.cl_Wane (T : Txt K mg) : Cls K (He.ga K "Wane") := He.cls_ok (T.fa 73 rfl)
theorem Txt.n_Wane_begins (T : Txt K mg) : NoAttr K (He.ga K "Wane") "begins" := He.noat_ok (T.fa 74 rfl)
theorem Txt.n_Wane_cap_at (T : Txt K mg) : NoAttr K (He.ga K "Wane") "cap_at" := He.noat_ok (T.fa 75 rfl)
theorem Txt.n_Wane_head_steps (T : Txt K mg) : NoAttr K (He.ga K "Wane") "head_steps" := He.noat_ok (T.fa 76 rfl)
theorem Txt.n_Wane_lift_by (T : Txt K mg) : NoAttr K (He.ga K "Wane") "lift_by" := He.noat_ok (T.fa 77 rfl)
theorem Txt.n_Wane_tail_steps (T : Txt K mg) : NoAttr K (He.ga K "Wane") "tail_steps" := He.noat_ok (T.fa 78 rfl)
theorem Txt.m_Wane_head (T : Txt K mg) : Meth K (He.ga K "Wane") "head" (He.ma K (He.ga K "Wane") "head") := He.meth_ok (T.fa 79 rfl)
theorem Txt.m_Wane_tail (T : Txt K mg) : Meth K (He.ga K "Wane") "tail" (He.ma K (He.ga K "Wane") "tail") := He.meth_ok (T.fa 80 rfl)
theorem Txt.m_Wane_text (T : Txt K mg) : Meth K (He.ga K "Wane") "text" (He.ma K (He.ga K "Wane") "text") := He.meth_ok (T.fa 81 rfl)
theorem Txt.m_Wane_cap (T : Txt K mg) : Meth K (He.ga K "Wane") "cap" (He.ma K (He.ga K "Wane") "cap") := He.meth_ok (T.fa 82 rfl)
theorem Txt.m_Wane_lift (T : Txt K mg) : Meth K (He.ga K "Wane") "lift" (He.ma K (He.ga K "Wane") "lift") := He.meth_ok (T.fa 83 rfl)
theorem Txt.m_Wane_is_anew (T : Txt K mg) : Meth K (He.ga K "Wane") "is_anew" (He.ma K (He.ga K "Wane") "is_anew") := He.meth_ok (T.fa 84 rfl)
theorem Txt.m_Wane_coming (T : Txt K mg) : Meth K (He.ga K "Wane") "coming" (He.ma K (He.ga K "Wane") "coming") := He.meth_ok (T.fa 85 rfl)
theorem Txt.m_Wane_phase_of (T : Txt K mg) : Meth K (He.ga K "Wane") "phase_of" (He.ma K (He.ga K "Wane") "phase_of") := He.meth_ok (T.fa 86 rfl)
theorem Txt.m_Wane_phase (T : Txt K mg) : Meth K (He.ga K "Wane") "phase" (He.ma K (He.ga K "Wane") "phase") := He.meth_ok (T.fa 87 rfl)
theorem Txt.mk_Wane (T : Txt K mg) : Mk K (He.ga K "Wane") (He.ma K (He.ga K "Wane") "__init__") := He.mkr_ok (T.fa 88 rfl)
theorem Txt.cl_Going (T : Txt K mg) : Cls K (He.ga K "Going") := He.cls_ok (T.fa 89 rfl)
theorem Txt.n_Going_effect (T : Txt K mg) : NoAttr K (He.ga K "Going") "effect" := He.noat_ok (T.fa 90 rfl)
theorem Txt.n_Going_firsts (T : Txt K mg) : NoAttr K (He.ga K "Going") "firsts" := He.noat_ok (T.fa 91 rfl)
theorem Txt.n_Going_fresh (T : Txt K mg) : NoAttr K (He.ga K "Going") "fresh" := He.noat_ok (T.fa 92 rfl)
theorem Txt.n_Going_period (T : Txt K mg) : NoAttr K (He.ga K "Going") "period" := He.noat_ok (T.fa 93 rfl)
theorem Txt.n_Going_row (T : Txt K mg) : NoAttr K (He.ga K "Going") "row" := He.noat_ok (T.fa 94 rfl)
theorem Txt.n_Going_settle (T : Txt K mg) : NoAttr K (He.ga K "Going") "settle" := He.noat_ok (T.fa 95 rfl)
theorem Txt.n_Going_since (T : Txt K mg) : NoAttr K (He.ga K "Going") "since" := He.noat_ok (T.fa 96 rfl)
theorem Txt.n_Going_strength (T : Txt K mg) : NoAttr K (He.ga K "Going") "strength" := He.noat_ok (T.fa 97 rfl)
theorem Txt.n_Going_turns (T : Txt K mg) : NoAttr K (He.ga K "Going") "turns" := He.noat_ok (T.fa 98 rfl)
theorem Txt.n_Going_wane (T : Txt K mg) : NoAttr K (He.ga K "Going") "wane" := He.noat_ok (T.fa 99 rfl)
theorem Txt.m_Going_behind (T : Txt K mg) : Meth K (He.ga K "Going") "behind" (He.ma K (He.ga K "Going") "behind") := He.meth_ok (T.fa 100 rfl)
theorem Txt.m_Going_state (T : Txt K mg) : Meth K (He.ga K "Going") "state" (He.ma K (He.ga K "Going") "state") := He.meth_ok (T.fa 101 rfl)
theorem Txt.m_Going_comes_again (T : Txt K mg) : Meth K (He.ga K "Going") "comes_again" (He.ma K (He.ga K "Going") "comes_again") := He.meth_ok (T.fa 102 rfl)
theorem Txt.mk_Going (T : Txt K mg) : Mk K (He.ga K "Going") (He.ma K (He.ga K "Going") "__init__") := He.mkr_ok (T.fa 103 rfl)
theorem Txt.xf_TooMany (T : Txt K mg) : L2.XfC K (He.ga K "TooMany") := L2.xfB_ok (Bool.and_eq_true_iff.mp (T.ex 2 (f := fun K => L2.xfB K (He.ga K "TooMany") && decide (PySem.W.findIn K (.ref (He.ga K "TooMany")) "most" = some none)) rfl)).1
theorem Txt.xn_TooMany (T : Txt K mg) : PySem.W.findIn K (.ref (He.ga K "TooMany")) "most" = some none := of_decide_eq_true (Bool.and_eq_true_iff.mp (T.ex 2 (f := fun K => L2.xfB K (He.ga K "TooMany") && decide (PySem.W.findIn K (.ref (He.ga K "TooMany")) "most" = some none)) rfl)).2
theorem Txt.x_TooMany (T : Txt K mg) : OexC K (He.ga K "TooMany") := EX.oex_of (T.ex 3 rfl)
theorem Txt.xi_TooMany (T : Txt K mg) : PySem.W.findIn K (.ref (He.ga K "TooMany")) "__init__" = some (some (.ref (He.ma K (He.ga K "TooMany") "__init__"))) ∧ PySem.W.typeIn K (.ref (He.ma K (He.ga K "TooMany") "__init__")) = some (.type "function") ∧ PySem.W.exmOne K (.ref (He.ga K "TooMany")) (.ref (He.ga K "TooMany")) = some true := by
  have e := T.ex 4 (f := fun K => decide (PySem.W.findIn K (.ref (He.ga K "TooMany")) "__init__" = some (some (.ref (He.ma K (He.ga K "TooMany") "__init__")))) && (decide (PySem.W.typeIn K (.ref (He.ma K (He.ga K "TooMany") "__init__")) = some (.type "function")) && decide (PySem.W.exmOne K (.ref (He.ga K "TooMany")) (.ref (He.ga K "TooMany")) = some true))) rfl
  simp only [Bool.and_eq_true, decide_eq_true_eq] at e
  exact e
theorem Txt.n_TooMany_most (T : Txt K mg) : NoAttr K (He.ga K "TooMany") "most" := He.noat_ok (T.fa 104 rfl)
theorem Txt.bin (T : Txt K mg) : EX.binB K (He.ga K "WaneError") = true := T.ex 5 (f := fun K => EX.binB K (He.ga K "WaneError")) rfl
theorem Txt.f_figures_of (T : Txt K mg) : ∃ fd, FunD K d_figures_of.name d_figures_of.qual d_figures_of.params d_figures_of.body d_figures_of.scope (d_figures_of.dvs K) (d_figures_of.kws K) (He.fAd K d_figures_of.at_) fd := T.fn 0 d_figures_of rfl
theorem Txt.f_Wane_head (T : Txt K mg) : ∃ fd, FunD K d_Wane_head.name d_Wane_head.qual d_Wane_head.params d_Wane_head.body d_Wane_head.scope (d_Wane_head.dvs K) (d_Wane_head.kws K) (He.fAd K d_Wane_head.at_) fd := T.fn 1 d_Wane_head rfl
theorem Txt.f_Wane_tail (T : Txt K mg) : ∃ fd, FunD K d_Wane_tail.name d_Wane_tail.qual d_Wane_tail.params d_Wane_tail.body d_Wane_tail.scope (d_Wane_tail.dvs K) (d_Wane_tail.kws K) (He.fAd K d_Wane_tail.at_) fd := T.fn 2 d_Wane_tail rfl
theorem Txt.f_Wane_text (T : Txt K mg) : ∃ fd, FunD K d_Wane_text.name d_Wane_text.qual d_Wane_text.params d_Wane_text.body d_Wane_text.scope (d_Wane_text.dvs K) (d_Wane_text.kws K) (He.fAd K d_Wane_text.at_) fd := T.fn 3 d_Wane_text rfl
theorem Txt.f_step_of (T : Txt K mg) : ∃ fd, FunD K d_step_of.name d_step_of.qual d_step_of.params d_step_of.body d_step_of.scope (d_step_of.dvs K) (d_step_of.kws K) (He.fAd K d_step_of.at_) fd := T.fn 4 d_step_of rfl
theorem Txt.f_parts_of (T : Txt K mg) : ∃ fd, FunD K d_parts_of.name d_parts_of.qual d_parts_of.params d_parts_of.body d_parts_of.scope (d_parts_of.dvs K) (d_parts_of.kws K) (He.fAd K d_parts_of.at_) fd := T.fn 5 d_parts_of rfl
theorem Txt.f_wane_of_words (T : Txt K mg) : ∃ fd, FunD K d_wane_of_words.name d_wane_of_words.qual d_wane_of_words.params d_wane_of_words.body d_wane_of_words.scope (d_wane_of_words.dvs K) (d_wane_of_words.kws K) (He.fAd K d_wane_of_words.at_) fd := T.fn 6 d_wane_of_words rfl
theorem Txt.f_read_wane (T : Txt K mg) : ∃ fd, FunD K d_read_wane.name d_read_wane.qual d_read_wane.params d_read_wane.body d_read_wane.scope (d_read_wane.dvs K) (d_read_wane.kws K) (He.fAd K d_read_wane.at_) fd := T.fn 7 d_read_wane rfl
theorem Txt.f_turn_effect (T : Txt K mg) : ∃ fd, FunD K d_turn_effect.name d_turn_effect.qual d_turn_effect.params d_turn_effect.body d_turn_effect.scope (d_turn_effect.dvs K) (d_turn_effect.kws K) (He.fAd K d_turn_effect.at_) fd := T.fn 8 d_turn_effect rfl
theorem Txt.f_join_two (T : Txt K mg) : ∃ fd, FunD K d_join_two.name d_join_two.qual d_join_two.params d_join_two.body d_join_two.scope (d_join_two.dvs K) (d_join_two.kws K) (He.fAd K d_join_two.at_) fd := T.fn 9 d_join_two rfl
theorem Txt.f_row_effect (T : Txt K mg) : ∃ fd, FunD K d_row_effect.name d_row_effect.qual d_row_effect.params d_row_effect.body d_row_effect.scope (d_row_effect.dvs K) (d_row_effect.kws K) (He.fAd K d_row_effect.at_) fd := T.fn 10 d_row_effect rfl
theorem Txt.f_through (T : Txt K mg) : ∃ fd, FunD K d_through.name d_through.qual d_through.params d_through.body d_through.scope (d_through.dvs K) (d_through.kws K) (He.fAd K d_through.at_) fd := T.fn 11 d_through rfl
theorem Txt.f_common (T : Txt K mg) : ∃ fd, FunD K d_common.name d_common.qual d_common.params d_common.body d_common.scope (d_common.dvs K) (d_common.kws K) (He.fAd K d_common.at_) fd := T.fn 12 d_common rfl
theorem Txt.f_row_walked (T : Txt K mg) : ∃ fd, FunD K d_row_walked.name d_row_walked.qual d_row_walked.params d_row_walked.body d_row_walked.scope (d_row_walked.dvs K) (d_row_walked.kws K) (He.fAd K d_row_walked.at_) fd := T.fn 13 d_row_walked rfl
theorem Txt.f_straight (T : Txt K mg) : ∃ fd, FunD K d_straight.name d_straight.qual d_straight.params d_straight.body d_straight.scope (d_straight.dvs K) (d_straight.kws K) (He.fAd K d_straight.at_) fd := T.fn 14 d_straight rfl
theorem Txt.f_repeated (T : Txt K mg) : ∃ fd, FunD K d_repeated.name d_repeated.qual d_repeated.params d_repeated.body d_repeated.scope (d_repeated.dvs K) (d_repeated.kws K) (He.fAd K d_repeated.at_) fd := T.fn 15 d_repeated rfl
theorem Txt.f_Going___init__ (T : Txt K mg) : ∃ fd, FunD K d_Going___init__.name d_Going___init__.qual d_Going___init__.params d_Going___init__.body d_Going___init__.scope (d_Going___init__.dvs K) (d_Going___init__.kws K) (He.fAd K d_Going___init__.at_) fd := T.fn 16 d_Going___init__ rfl
theorem Txt.f_Going_behind (T : Txt K mg) : ∃ fd, FunD K d_Going_behind.name d_Going_behind.qual d_Going_behind.params d_Going_behind.body d_Going_behind.scope (d_Going_behind.dvs K) (d_Going_behind.kws K) (He.fAd K d_Going_behind.at_) fd := T.fn 17 d_Going_behind rfl
theorem Txt.f_Going_state (T : Txt K mg) : ∃ fd, FunD K d_Going_state.name d_Going_state.qual d_Going_state.params d_Going_state.body d_Going_state.scope (d_Going_state.dvs K) (d_Going_state.kws K) (He.fAd K d_Going_state.at_) fd := T.fn 18 d_Going_state rfl
theorem Txt.f_Going_comes_again (T : Txt K mg) : ∃ fd, FunD K d_Going_comes_again.name d_Going_comes_again.qual d_Going_comes_again.params d_Going_comes_again.body d_Going_comes_again.scope (d_Going_comes_again.dvs K) (d_Going_comes_again.kws K) (He.fAd K d_Going_comes_again.at_) fd := T.fn 19 d_Going_comes_again rfl
theorem Txt.f_behind (T : Txt K mg) : ∃ fd, FunD K d_behind.name d_behind.qual d_behind.params d_behind.body d_behind.scope (d_behind.dvs K) (d_behind.kws K) (He.fAd K d_behind.at_) fd := T.fn 20 d_behind rfl
theorem Txt.f_least_of (T : Txt K mg) : ∃ fd, FunD K d_least_of.name d_least_of.qual d_least_of.params d_least_of.body d_least_of.scope (d_least_of.dvs K) (d_least_of.kws K) (He.fAd K d_least_of.at_) fd := T.fn 21 d_least_of rfl
theorem Txt.f_fate (T : Txt K mg) : ∃ fd, FunD K d_fate.name d_fate.qual d_fate.params d_fate.body d_fate.scope (d_fate.dvs K) (d_fate.kws K) (He.fAd K d_fate.at_) fd := T.fn 22 d_fate rfl
theorem Txt.f__law_row (T : Txt K mg) : ∃ fd, FunD K d__law_row.name d__law_row.qual d__law_row.params d__law_row.body d__law_row.scope (d__law_row.dvs K) (d__law_row.kws K) (He.fAd K d__law_row.at_) fd := T.fn 23 d__law_row rfl
theorem Txt.f__law_stand (T : Txt K mg) : ∃ fd, FunD K d__law_stand.name d__law_stand.qual d__law_stand.params d__law_stand.body d__law_stand.scope (d__law_stand.dvs K) (d__law_stand.kws K) (He.fAd K d__law_stand.at_) fd := T.fn 24 d__law_stand rfl
theorem Txt.f__law_rounds (T : Txt K mg) : ∃ fd, FunD K d__law_rounds.name d__law_rounds.qual d__law_rounds.params d__law_rounds.body d__law_rounds.scope (d__law_rounds.dvs K) (d__law_rounds.kws K) (He.fAd K d__law_rounds.at_) fd := T.fn 25 d__law_rounds rfl
theorem Txt.f__law_gone_stays (T : Txt K mg) : ∃ fd, FunD K d__law_gone_stays.name d__law_gone_stays.qual d__law_gone_stays.params d__law_gone_stays.body d__law_gone_stays.scope (d__law_gone_stays.dvs K) (d__law_gone_stays.kws K) (He.fAd K d__law_gone_stays.at_) fd := T.fn 26 d__law_gone_stays rfl
theorem Txt.f_TooMany___init__ (T : Txt K mg) : ∃ fd, FunD K d_TooMany___init__.name d_TooMany___init__.qual d_TooMany___init__.params d_TooMany___init__.body d_TooMany___init__.scope (d_TooMany___init__.dvs K) (d_TooMany___init__.kws K) (He.fAd K d_TooMany___init__.at_) fd := T.fn 27 d_TooMany___init__ rfl
theorem Txt.f_is_whole (T : Txt K mg) : ∃ fd, FunD K d_is_whole.name d_is_whole.qual d_is_whole.params d_is_whole.body d_is_whole.scope (d_is_whole.dvs K) (d_is_whole.kws K) (He.fAd K d_is_whole.at_) fd := T.fn 28 d_is_whole rfl
theorem Txt.f_is_within (T : Txt K mg) : ∃ fd, FunD K d_is_within.name d_is_within.qual d_is_within.params d_is_within.body d_is_within.scope (d_is_within.dvs K) (d_is_within.kws K) (He.fAd K d_is_within.at_) fd := T.fn 29 d_is_within rfl
theorem Txt.f_is_strength (T : Txt K mg) : ∃ fd, FunD K d_is_strength.name d_is_strength.qual d_is_strength.params d_is_strength.body d_is_strength.scope (d_is_strength.dvs K) (d_is_strength.kws K) (He.fAd K d_is_strength.at_) fd := T.fn 30 d_is_strength rfl
theorem Txt.f_is_size (T : Txt K mg) : ∃ fd, FunD K d_is_size.name d_is_size.qual d_is_size.params d_is_size.body d_is_size.scope (d_is_size.dvs K) (d_is_size.kws K) (He.fAd K d_is_size.at_) fd := T.fn 31 d_is_size rfl
theorem Txt.f_is_moment (T : Txt K mg) : ∃ fd, FunD K d_is_moment.name d_is_moment.qual d_is_moment.params d_is_moment.body d_is_moment.scope (d_is_moment.dvs K) (d_is_moment.kws K) (He.fAd K d_is_moment.at_) fd := T.fn 32 d_is_moment rfl
theorem Txt.f_is_row (T : Txt K mg) : ∃ fd, FunD K d_is_row.name d_is_row.qual d_is_row.params d_is_row.body d_is_row.scope (d_is_row.dvs K) (d_is_row.kws K) (He.fAd K d_is_row.at_) fd := T.fn 33 d_is_row rfl
theorem Txt.f_is_step (T : Txt K mg) : ∃ fd, FunD K d_is_step.name d_is_step.qual d_is_step.params d_is_step.body d_is_step.scope (d_is_step.dvs K) (d_is_step.kws K) (He.fAd K d_is_step.at_) fd := T.fn 34 d_is_step rfl
theorem Txt.f_is_head (T : Txt K mg) : ∃ fd, FunD K d_is_head.name d_is_head.qual d_is_head.params d_is_head.body d_is_head.scope (d_is_head.dvs K) (d_is_head.kws K) (He.fAd K d_is_head.at_) fd := T.fn 35 d_is_head rfl
theorem Txt.f_is_tail (T : Txt K mg) : ∃ fd, FunD K d_is_tail.name d_is_tail.qual d_is_tail.params d_is_tail.body d_is_tail.scope (d_is_tail.dvs K) (d_is_tail.kws K) (He.fAd K d_is_tail.at_) fd := T.fn 36 d_is_tail rfl
theorem Txt.f_Wane___init__ (T : Txt K mg) : ∃ fd, FunD K d_Wane___init__.name d_Wane___init__.qual d_Wane___init__.params d_Wane___init__.body d_Wane___init__.scope (d_Wane___init__.dvs K) (d_Wane___init__.kws K) (He.fAd K d_Wane___init__.at_) fd := T.fn 37 d_Wane___init__ rfl
theorem Txt.f_Wane_cap (T : Txt K mg) : ∃ fd, FunD K d_Wane_cap.name d_Wane_cap.qual d_Wane_cap.params d_Wane_cap.body d_Wane_cap.scope (d_Wane_cap.dvs K) (d_Wane_cap.kws K) (He.fAd K d_Wane_cap.at_) fd := T.fn 38 d_Wane_cap rfl
theorem Txt.f_Wane_lift (T : Txt K mg) : ∃ fd, FunD K d_Wane_lift.name d_Wane_lift.qual d_Wane_lift.params d_Wane_lift.body d_Wane_lift.scope (d_Wane_lift.dvs K) (d_Wane_lift.kws K) (He.fAd K d_Wane_lift.at_) fd := T.fn 39 d_Wane_lift rfl
theorem Txt.f_Wane_is_anew (T : Txt K mg) : ∃ fd, FunD K d_Wane_is_anew.name d_Wane_is_anew.qual d_Wane_is_anew.params d_Wane_is_anew.body d_Wane_is_anew.scope (d_Wane_is_anew.dvs K) (d_Wane_is_anew.kws K) (He.fAd K d_Wane_is_anew.at_) fd := T.fn 40 d_Wane_is_anew rfl
theorem Txt.f_Wane_coming (T : Txt K mg) : ∃ fd, FunD K d_Wane_coming.name d_Wane_coming.qual d_Wane_coming.params d_Wane_coming.body d_Wane_coming.scope (d_Wane_coming.dvs K) (d_Wane_coming.kws K) (He.fAd K d_Wane_coming.at_) fd := T.fn 41 d_Wane_coming rfl
theorem Txt.f_Wane_phase_of (T : Txt K mg) : ∃ fd, FunD K d_Wane_phase_of.name d_Wane_phase_of.qual d_Wane_phase_of.params d_Wane_phase_of.body d_Wane_phase_of.scope (d_Wane_phase_of.dvs K) (d_Wane_phase_of.kws K) (He.fAd K d_Wane_phase_of.at_) fd := T.fn 42 d_Wane_phase_of rfl
theorem Txt.f_Wane_phase (T : Txt K mg) : ∃ fd, FunD K d_Wane_phase.name d_Wane_phase.qual d_Wane_phase.params d_Wane_phase.body d_Wane_phase.scope (d_Wane_phase.dvs K) (d_Wane_phase.kws K) (He.fAd K d_Wane_phase.at_) fd := T.fn 43 d_Wane_phase rfl
theorem Txt.f_check_part (T : Txt K mg) : ∃ fd, FunD K d_check_part.name d_check_part.qual d_check_part.params d_check_part.body d_check_part.scope (d_check_part.dvs K) (d_check_part.kws K) (He.fAd K d_check_part.at_) fd := T.fn 44 d_check_part rfl
theorem Txt.f_turned (T : Txt K mg) : ∃ fd, FunD K d_turned.name d_turned.qual d_turned.params d_turned.body d_turned.scope (d_turned.dvs K) (d_turned.kws K) (He.fAd K d_turned.at_) fd := T.fn 45 d_turned rfl
theorem Txt.f_asked (T : Txt K mg) : ∃ fd, FunD K d_asked.name d_asked.qual d_asked.params d_asked.body d_asked.scope (d_asked.dvs K) (d_asked.kws K) (He.fAd K d_asked.at_) fd := T.fn 46 d_asked rfl
theorem Txt.f_since_behind_sign (T : Txt K mg) : ∃ fd, FunD K d_since_behind_sign.name d_since_behind_sign.qual d_since_behind_sign.params d_since_behind_sign.body d_since_behind_sign.scope (d_since_behind_sign.dvs K) (d_since_behind_sign.kws K) (He.fAd K d_since_behind_sign.at_) fd := T.fn 47 d_since_behind_sign rfl
theorem Txt.f_waned (T : Txt K mg) : ∃ fd, FunD K d_waned.name d_waned.qual d_waned.params d_waned.body d_waned.scope (d_waned.dvs K) (d_waned.kws K) (He.fAd K d_waned.at_) fd := T.fn 48 d_waned rfl
theorem Txt.f_lifted (T : Txt K mg) : ∃ fd, FunD K d_lifted.name d_lifted.qual d_lifted.params d_lifted.body d_lifted.scope (d_lifted.dvs K) (d_lifted.kws K) (He.fAd K d_lifted.at_) fd := T.fn 49 d_lifted rfl
theorem Txt.f_along (T : Txt K mg) : ∃ fd, FunD K d_along.name d_along.qual d_along.params d_along.body d_along.scope (d_along.dvs K) (d_along.kws K) (He.fAd K d_along.at_) fd := T.fn 50 d_along rfl
theorem Txt.f_need_asked (T : Txt K mg) : ∃ fd, FunD K d_need_asked.name d_need_asked.qual d_need_asked.params d_need_asked.body d_need_asked.scope (d_need_asked.dvs K) (d_need_asked.kws K) (He.fAd K d_need_asked.at_) fd := T.fn 51 d_need_asked rfl
theorem Txt.f_led (T : Txt K mg) : ∃ fd, FunD K d_led.name d_led.qual d_led.params d_led.body d_led.scope (d_led.dvs K) (d_led.kws K) (He.fAd K d_led.at_) fd := T.fn 52 d_led rfl
theorem Txt.f_alike (T : Txt K mg) : ∃ fd, FunD K d_alike.name d_alike.qual d_alike.params d_alike.body d_alike.scope (d_alike.dvs K) (d_alike.kws K) (He.fAd K d_alike.at_) fd := T.fn 53 d_alike rfl
theorem Txt.f__law_bag (T : Txt K mg) : ∃ fd, FunD K d__law_bag.name d__law_bag.qual d__law_bag.params d__law_bag.body d__law_bag.scope (d__law_bag.dvs K) (d__law_bag.kws K) (He.fAd K d__law_bag.at_) fd := T.fn 54 d__law_bag rfl
theorem Txt.f__law_take (T : Txt K mg) : ∃ fd, FunD K d__law_take.name d__law_take.qual d__law_take.params d__law_take.body d__law_take.scope (d__law_take.dvs K) (d__law_take.kws K) (He.fAd K d__law_take.at_) fd := T.fn 55 d__law_take rfl
theorem Txt.f__law_told (T : Txt K mg) : ∃ fd, FunD K d__law_told.name d__law_told.qual d__law_told.params d__law_told.body d__law_told.scope (d__law_told.dvs K) (d__law_told.kws K) (He.fAd K d__law_told.at_) fd := T.fn 56 d__law_told rfl
theorem Txt.f__law_steps (T : Txt K mg) : ∃ fd, FunD K d__law_steps.name d__law_steps.qual d__law_steps.params d__law_steps.body d__law_steps.scope (d__law_steps.dvs K) (d__law_steps.kws K) (He.fAd K d__law_steps.at_) fd := T.fn 57 d__law_steps rfl
theorem Txt.f__law_plan (T : Txt K mg) : ∃ fd, FunD K d__law_plan.name d__law_plan.qual d__law_plan.params d__law_plan.body d__law_plan.scope (d__law_plan.dvs K) (d__law_plan.kws K) (He.fAd K d__law_plan.at_) fd := T.fn 58 d__law_plan rfl
theorem Txt.f__law_made (T : Txt K mg) : ∃ fd, FunD K d__law_made.name d__law_made.qual d__law_made.params d__law_made.body d__law_made.scope (d__law_made.dvs K) (d__law_made.kws K) (He.fAd K d__law_made.at_) fd := T.fn 59 d__law_made rfl
theorem Txt.f__law_two (T : Txt K mg) : ∃ fd, FunD K d__law_two.name d__law_two.qual d__law_two.params d__law_two.body d__law_two.scope (d__law_two.dvs K) (d__law_two.kws K) (He.fAd K d__law_two.at_) fd := T.fn 60 d__law_two rfl
theorem Txt.f__law_long (T : Txt K mg) : ∃ fd, FunD K d__law_long.name d__law_long.qual d__law_long.params d__law_long.body d__law_long.scope (d__law_long.dvs K) (d__law_long.kws K) (He.fAd K d__law_long.at_) fd := T.fn 61 d__law_long rfl
theorem Txt.f_law (T : Txt K mg) : ∃ fd, FunD K d_law.name d_law.qual d_law.params d_law.body d_law.scope (d_law.dvs K) (d_law.kws K) (He.fAd K d_law.at_) fd := T.fn 62 d_law rfl
end
end WH

set_option maxHeartbeats 4000000
/-! exceptions without a field; isinstance of a held error with a dict; methods that may raise; setdefault of dicts by flat tuples -/
namespace EI
open PySem PySem.Spec PyProof.Rows L2
/-! ### C() whose __init__ stores nothing -/
section
variable {X : Cx} {x : Str} {C fI : Addr} {k j : Nat} {fd : FuncData} {ps : List Str} {sp : Sp} {p pos : Pos}
theorem bare_end {pins : List (Addr × Obj)} {σ : L2.St} {H1 H2 : Hp} {hp hp2 h2 : Heap} {g1 g2 : Array GenState} {d1 d2 : Drawn} {t1 t2 : Nat} {os1 os2 : OsState} {a C : Addr} (J1 : Inv X pins σ H1 ⟨hp, g1, d1, t1, os1⟩) (ha : hp.objs.size ≤ a)
    (kk : ∀ b o, hp.get? b = some o → hp2.get? b = some o) (U : Un (frs X.stack) [] (upd H1 a (exo a C none)) H2 hp2 h2) (hok : HOk X.prog X.w H2 h2) (ho : os2 = os1) (hb : AllBare g2) (ea : H2 a = some (exo a C none)) :
    ∃ (t0 : Addr) (G : Heap), Inv X pins σ (del H2 a) ⟨G, g2, d2, t2, os2⟩ ∧ (∀ b o, G.get? b = some o → h2.get? b = some o) ∧ G.get? a = none ∧
      h2.get? a = some ({ cls := .ref C, dict := none, data := .fields #[.ref t0, .none, .none, .none, .bool false, .none] } : Obj) := by
  obtain ⟨t0, hoe⟩ := exo_at hok ea
  have hn : H1 a = none := J1.hok.fresh ha
  obtain ⟨G, ga, gb⟩ := restrict h2 fun b => decide (b ≠ a)
  have same : ∀ b, b ≠ a → G.get? b = h2.get? b := fun b q => ga b (decide_eq_true q)
  have gone : G.get? a = none := gb a (by simp)
  have ne : ∀ {b : Addr} {o : Obj}, hp.get? b = some o → b ≠ a := fun z => Nat.ne_of_lt (Nat.lt_of_lt_of_le (Heap.lt_size z) ha)
  have fr : ∀ {b : Addr}, b ≠ a → H1 b = none → upd H1 a (exo a C none) b = none := fun q n => (upd_ne q).trans n
  have V : Un (frs X.stack) [] H1 (del H2 a) hp G := by
    refine { keep := fun b o z n u v => ?_, slot := fun b o z n u v => ?_, free := fun b o z n v => ?_, there := fun b o z v => ?_, tups := fun b xs z => ?_, frzs := fun b o v z => ?_, tbls := fun b qs z => ?_ }
    · rw [same b (ne z)]; exact U.keep b o (kk b o z) (fr (ne z) n) u v
    · rw [same b (ne z)]; exact U.slot b o (kk b o z) (fr (ne z) n) u v
    · rw [del_ne (ne z)]; exact U.free b o (kk b o z) (fr (ne z) n) v
    · rw [same b (ne z)]; exact U.there b o (kk b o z) v
    · rw [del_ne (ne_of_none z hn)]; exact U.tups b xs ((upd_ne (ne_of_none z hn)).trans z)
    · rw [del_ne (ne_of_none z hn)]; exact U.frzs b o v ((upd_ne (ne_of_none z hn)).trans z)
    · rw [del_ne (ne_of_none z hn)]; exact U.tbls b qs ((upd_ne (ne_of_none z hn)).trans z)
  have okG : HOk X.prog X.w (del H2 a) G := by
    intro b o z
    have ba : b ≠ a := fun e => by
      rw [e, del_same] at z; cases z
    rw [del_ne ba] at z
    have own : ∀ {c : Addr}, H2 c = some (.own b) → c ≠ a := fun hc => at_ne ea hc exo_own
    refine (hok b o z).stay (fun c v hc y => ?_) (fun c hc => ?_) fun c xs hc => ?_
    · have ca : c ≠ a := hc.elim (fun e => by rw [e]; exact ba) own
      rw [same c ca]; exact y
    · rw [del_ne (own hc)]; exact hc
    · rw [del_ne (at_ne ea hc exo_tup)]; exact hc
  refine ⟨t0, G, J1.call' (ch := []) ho V okG hb (fun b z => absurd z (by simp)), fun b o z => ?_, gone, hoe⟩
  by_cases ba : b = a
  · rw [ba, gone] at z; cases z
  · exact (same b ba).symm.trans z
def tMkN (C : Addr) (sp : Sp) : L2.St → Hp → XK → Prop := fun _ H Q => ∀ a, H a = none → sp [.ref a] (upd H a (exo a C none)) (fun v H2 => v = .non ∧ H2 a = some (exo a C none) ∧ Q (.ref C) none (del H2 a)) (fun _ _ _ => False)
theorem pmk_n (T : OexC X.K C) (i : PySem.W.findIn X.K (.ref C) "__init__" = some (some (.ref fI)) ∧ PySem.W.typeIn X.K (.ref fI) = some (.type "function") ∧ PySem.W.exmOne X.K (.ref C) (.ref C) = some true)
    (c : ∃ fd, FnOk X.prog X.w X.K X.mg X.base C8.CX0 k fI fd ps sp ∧ Binds X.K fd ps []) (hr : Room j X.A) (hk : k + 1 ≤ j) (hg : Gl X x) (hm : X.mg x = some (.ref C)) (hdb : (x == ("__debug__" : Str)) = false := by decide) :
    PMk X (.Call (.Name x p) [] [] pos) (tMkN C sp) := by
  obtain ⟨fd, F1, b⟩ := c
  have hr := hr.mono hk
  intro pins s σ H Q I h
  obtain ⟨nm, q, N, bs, bm, sn, sub, ab, col, dd, k0, k1, k2, k3, k5, hC, hbm⟩ := T.cls
  refine wpAny_Call_Name_kw (ld_glob I hg hm ?_ hdb)
  refine PySem.W.callWith_K0 I.kIn T.kC ?_
  obtain ⟨hp, g, dr, tk, os⟩ := s
  have z1 : hp.objs.size ≤ hp.objs.size + 1 := Nat.le_succ _
  have hq := h (hp.objs.size + 1) (I.hok.fresh z1)
  have keep2 : ∀ b o, hp.get? b = some o → ((hp.push (PySem.W.kdv_tup [])).push (PySem.HandSPX.excO C hp.objs.size)).get? b = some o := fun b o e => Heap.get?_push_of_some _ (Heap.get?_push_of_some _ e)
  have at2 : ((hp.push (PySem.W.kdv_tup [])).push (PySem.HandSPX.excO C hp.objs.size)).get? (hp.objs.size + 1) = some (PySem.HandSPX.excO C hp.objs.size) := by heap_get
  have I2 := I.laid (t' := tk) (a := hp.objs.size + 1) (o := exo (hp.objs.size + 1) C none) keep2 z1 (exo_ok at2)
  have r2 : Vals [V.ref (hp.objs.size + 1)] [Value.ref (hp.objs.size + 1)] := .cons rfl .nil
  have hl : ([Value.ref (hp.objs.size + 1)] ++ []).length = ps.length := by
    have e := r2.length
    rw [F1.len _ _ _ _ hq] at e; exact e.symm
  refine wpAny_call (PySem.HandSPX.call_own F.excBase_ValueError (fun Y => PySem.HandSPX.refsVE_contains Y bm hbm) (I.kIn _ _ hC) (PySem.W.looks_findIn I.kIn i.1) (fun self => PySem.W.bind_fn I.kIn self i.2.1) (rest := []) (Nat.zero_le _)
    (codeAny_mono (F1.run _ X.stack _ _ ⟨[Value.ref (hp.objs.size + 1)], []⟩ [Value.ref (hp.objs.size + 1)] _ _ (fun _ _ _ => False) (hr.make C [] []) (I2.env0.make C [] []) (b _ [Value.ref (hp.objs.size + 1)] I2.kIn hl) r2 hq) fun r s' hq' => ?_))
  match r, hq' with
  | .error er, hq' => exact C8.pass0 (E := fun _ _ _ => False) pins σ _ _ er s' I2 hq'
  | .ok (.ret u), hq' =>
    obtain ⟨v, H2, os2, bare2, un2, hok2, rv, ev, ea, q2⟩ := hq'
    subst ev
    obtain ⟨h2, g2, d2, t2, os'⟩ := s'
    obtain ⟨t0, G, J, kG, ge, hoe⟩ := bare_end (d2 := d2) (t2 := t2) I z1 keep2 un2 hok2 os2 bare2 ea
    exact ⟨rv, hp.objs.size + 1, _, _, ⟨G, g2, d2, t2, _⟩, _, .ref C, none, rfl, J, kG, ge, hoe, ⟨rfl, rfl⟩, rfl, rfl, del_same, rfl, bare2, raises_own T.exC T.tyC, q2⟩
  | .ok .next, hq' => exact hq'.elim
  | .ok .brk, hq' => exact hq'.elim
  | .ok .cont, hq' => exact hq'.elim
end
/-- __init__(self) of such a class -/
def spN (C : Addr) : Sp := fun vs H Q _ => ∃ a, vs = [.ref a] ∧ H a = some (exo a C none) ∧ Q .non H
theorem mkN_use {C : Addr} {Q : XK} {H1 : Hp} (q : ∀ H', Same H1 H' → Q (.ref C) none H') : ∀ a, H1 a = none → spN C [.ref a] (upd H1 a (exo a C none)) (fun v H2 => v = .non ∧ H2 a = some (exo a C none) ∧ Q (.ref C) none (del H2 a)) (fun _ _ _ => False) :=
  fun a na => ⟨a, rfl, upd_same, rfl, upd_same, q _ fun b o hb => by rw [del_ne (ne_of_none hb na), upd_ne (ne_of_none hb na)]; exact hb⟩
/-! ### isinstance of a held error -/
def isxB (K : PySem.W.Frag) (C : Addr) : Bool := (PySem.W.clsIn K C).isSome && (decide (PySem.W.findIn K (.ref C) "__getattribute__" = some (some (.builtin "BaseException.__getattribute__"))) && (decide (PySem.W.findIn K (.ref C) "__getattr__" = some none) &&
  (decide (PySem.W.subIn K (.ref C) (.type "BaseException") = some true) && (decide (PySem.W.findIn K (.ref C) "__class__" = some (some (.builtin "object.__class__"))) && (decide (PySem.W.specialIn K (.builtin "object.__class__") "__get__" = some (some (.builtin "getset_descriptor.__get__"))) &&
  (decide (PySem.W.takesIn K (.builtin "object.__class__") = some true) && decide (PySem.W.mroIn K C (.type "object") = some true)))))))
def rIsX (K : PySem.W.Frag) (a : Addr) (cls : Value) (d : Option Addr) : List V → Hp → VK → Prop := fun xs H Q => ∃ (D : Addr) (c : V) (cv : Value) (b : Bool), cls = .ref D ∧ isxB K D = true ∧ (d = none ∨ ∃ dd fs, d = some dd ∧ H dd = some (.xd fs)) ∧ xs = [.ref a, c] ∧ (∀ u, RelV c u → u = cv) ∧ PySem.W.kitOne K (.ref D) cv = some b ∧ Q (.bl b) H
theorem call_isX {X : Cx} {a : Addr} {oe : Obj} {cls : Value} {d : Option Addr} {pn : List (Addr × Obj)} (hz : Zc cls d oe) (hf : ∃ vs, oe.data = .fields vs) : CallR (X.suite a ((a, oe) :: pn)) (.builtin "isinstance") (rIsX X.K a cls d) := by
  intro pins s σ H xs us Q I r h
  obtain ⟨D, c, cv, b, rfl, hx, hd, rfl, hcv, e, q⟩ := h
  unfold isxB at hx
  simp only [Bool.and_eq_true, decide_eq_true_eq] at hx
  obtain ⟨x0, x1, x2, x3, x4, x5, x6, x7⟩ := hx
  match us, r with
  | [u1, u2], .cons r1 (.cons r2 .nil) =>
    cases r1
    obtain rfl := hcv _ r2
    obtain ⟨at_, _⟩ := I.pin (a, oe) (List.mem_append_left _ List.mem_cons_self)
    obtain ⟨vs, hv⟩ := hf
    have nc : PySem.W.notCls oe = true := by unfold PySem.W.notCls; rw [hv] <;> rfl
    have J : ∃ od, PySem.W.InstAt s.heap a oe D od := by
      rcases hd with rfl | ⟨dd, fs, rfl, hdd⟩
      · exact ⟨none, at_, hz.1, nc, by rw [hz.2]; trivial⟩
      · have hk : ObjOk X.prog X.w H s.heap dd (.xd fs) := I.hok dd _ hdd
        obtain ⟨mA, hns, _⟩ := hk
        obtain ⟨od, ho, _⟩ := lookIn_ns hns
        exact ⟨some od, at_, hz.1, nc, by rw [hz.2]; exact ho⟩
    obtain ⟨od, J⟩ := J
    exact PySem.W.kia_one (PySem.W.kitx_exc x0 x1 x2 x3 x4 x5 x6 x7) I.kIn J e (fun z => nomatch z) fun tk => ⟨.bl b, H, I.kept (t' := tk) fun _ _ z => z, rfl, q⟩
/-! ### a method that may raise -/
def MetX (P : Program) (w : World) (K : PySem.W.Frag) (mg : Str → Option Value) (base : Heap) (k : Nat) (C : Addr) (m : Str) (sp : Sp) : Prop := ∃ f fd ps, Cls K C ∧ Meth K C m f ∧ FnOk P w K mg base (L2.CX P w) k f fd ps sp ∧ Binds K fd ps []
def tMethX (C : Addr) (m : Str) (sp : Sp) (E : L2.St → XK) (ta : TE) (t : TA) : TE := fun σ H Q => ta σ H fun x H1 => ∃ a dx fs, x = .ref a ∧ H1 a = some (.ins C dx fs) ∧ fs.lookup m = none ∧ t σ H1 fun vs H2 => sp (x :: vs) H2 Q (E σ)
section
variable {X : Cx} {k j : Nat} {C : Addr} {m : Str} {sp : Sp} {pos apos : Pos} {e o : Expr} {es : List Expr} {ta : TE} {t : TA} {E : L2.St → XK}
theorem pe_mx {pl : Sem Bool} (c : MetX X.prog X.w X.K X.mg X.base k C m sp) (hr : Room j X.A) (hk : k ≤ j) (hx : ∀ σ, PassesAt (L2.CX X.prog X.w) X σ (E σ)) (he : PE X o ta) (ha : PA X (e :: es) t)
    (hst : starEach (e :: es) X.env = (false, eval e X.env) :: starEach es X.env := by rfl) (hpl : (backTo pos (starEach es X.env)).any (·.1) = false := by rfl)
    (ht : eval (.Call (.Attribute o m apos) (e :: es) [] pos) X.env = (eval o X.env >>= fun ov => standAt apos.atName >>= fun _ => holding [ov] (getMethod ov m pl) >>= fun z => callWith pos z.1 z.2 (backTo pos (starEach (e :: es) X.env)) (backToKw pos (keywordEach [] X.env))) := by rfl) :
    PE X (.Call (.Attribute o m apos) (e :: es) [] pos) (tMethX C m sp E ta t) := by
  obtain ⟨f, fd, ps, hc, hm, F, b⟩ := c
  refine ⟨fun pins s σ H Q I h => PySem.W.methodCall_KW (pl := pl) (thn (he.run pins s σ H _ I h) fun u s1 ⟨x, H1, I1, rx, a, dx, fs, ex, ea, l, q⟩ => ?_) ht⟩
  subst ex
  obtain rfl : u = Value.ref a := rx
  refine getmeth_ok I1 ea hc hm l (PySem.W.callWith_K (first := [.ref a]) (h₀ := X.base) I.ok.mod.kin hm.kp (thn (ha.run pos pins s1 σ H1 _ I1 q) fun us s2 ⟨vs, H2, I2, r, q2⟩ => ⟨I2.kIn, ?_⟩) hst hpl)
  exact run_fnS (us := .ref a :: us) (vs := .ref a :: vs) F (hr.mono hk) b (hx σ) I2 (.cons rfl r) q2
theorem pe_mx0 {pl : Sem Bool} (c : MetX X.prog X.w X.K X.mg X.base k C m sp) (hr : Room j X.A) (hk : k ≤ j) (hx : ∀ σ, PassesAt (L2.CX X.prog X.w) X σ (E σ)) (he : PE X o ta)
    (ht : eval (.Call (.Attribute o m apos) [] [] pos) X.env = (eval o X.env >>= fun ov => standAt apos.atName >>= fun _ => holding [ov] (getMethod ov m pl) >>= fun z => callWith pos z.1 z.2 (backTo pos (starEach [] X.env)) (backToKw pos (keywordEach [] X.env))) := by rfl) :
    PE X (.Call (.Attribute o m apos) [] [] pos) (tMethX C m sp E ta tNil) := by
  obtain ⟨f, fd, ps, hc, hm, F, b⟩ := c
  refine ⟨fun pins s σ H Q I h => PySem.W.methodCall_KW (pl := pl) (thn (he.run pins s σ H _ I h) fun u s1 ⟨x, H1, I1, rx, a, dx, fs, ex, ea, l, q⟩ => ?_) ht⟩
  subst ex
  obtain rfl : u = Value.ref a := rx
  exact getmeth_ok I1 ea hc hm l (PySem.W.callWith_K0 (first := [.ref a]) I1.kIn hm.kp (run_fnS (us := [.ref a]) (vs := [.ref a]) F (hr.mono hk) b (hx σ) I1 (.cons rfl .nil) q))
end
end EI

set_option maxHeartbeats 4000000
namespace WH
open PySem PySem.Spec PyProof.Rows L2
/-! ### defs by their data -/
section
variable {P : Program} {w : World} {K : PySem.W.Frag} {mg : Str → Option Value} {base : Heap}
abbrev FD (K : PySem.W.Frag) (d : He.DefD) (fd : FuncData) : Prop := FunD K d.name d.qual d.params d.body d.scope (d.dvs K) (d.kws K) (He.fAd K d.at_) fd
theorem calD {d : He.DefD} {x : Str} {N ps : List Str} {k : Nat} {sp : Sp} (F : ∃ fd, FD K d fd) (hx : mg x = some (.ref (He.fAd K d.at_))) (S : FnScope N ps d.scope) (b : ∀ fd, FD K d fd → Binds K fd ps []) (len : ∀ vs H Q E, sp vs H Q E → vs.length = ps.length)
    (hbody : ∀ (cdv : Value) (A : Around) (outer : List Env) (s : Shared) (H : Hp) (vs : List V) (Q : VK) (E : XK), Room k (A.deeper (envOfC d.qual d.scope s.heap.objs.size (He.fAd K d.at_) cdv)) → sp vs H Q E →
      ∃ t, PSs (cxOf C8.CX0 P w K mg base N d.qual d.scope (He.fAd K d.at_) cdv A outer s H E).nox d.body t ∧ t { nx := fun _ H' => Q .non H', rt := Q } (start N vs) H) : C8.Cal P w K mg base (k + 1) x sp [] := by
  obtain ⟨fd, F⟩ := F
  exact ⟨_, fd, ps, [], F.ok S len fun cdv A outer s H vs Q E hr h => (let ⟨t, p, q⟩ := hbody cdv A outer s H vs Q E hr h; ⟨t, p.nox, q⟩), hx, F.kp, b fd F, .nil⟩
theorem metD {d : He.DefD} {m : Str} {C : Addr} {N ps : List Str} {k : Nat} {sp : Sp} (F : ∃ fd, FD K d fd) (c : Cls K C) (me : Meth K C m (He.fAd K d.at_)) (S : FnScope N ps d.scope) (b : ∀ fd, FD K d fd → Binds K fd ps []) (len : ∀ vs H Q E, sp vs H Q E → vs.length = ps.length)
    (hbody : ∀ (cdv : Value) (A : Around) (outer : List Env) (s : Shared) (H : Hp) (vs : List V) (Q : VK) (E : XK), Room k (A.deeper (envOfC d.qual d.scope s.heap.objs.size (He.fAd K d.at_) cdv)) → sp vs H Q E →
      ∃ t, PSs (cxOf C8.CX0 P w K mg base N d.qual d.scope (He.fAd K d.at_) cdv A outer s H E).nox d.body t ∧ t { nx := fun _ H' => Q .non H', rt := Q } (start N vs) H) : C8.Met P w K mg base (k + 1) C m sp [] := by
  obtain ⟨fd, F⟩ := F
  exact ⟨_, fd, ps, [], c, me, F.ok S len fun cdv A outer s H vs Q E hr h => (let ⟨t, p, q⟩ := hbody cdv A outer s H vs Q E hr h; ⟨t, p.nox, q⟩), b fd F, .nil⟩
/-! ### what is known of a value's type -/
def Knw (K : PySem.W.Frag) (H : Hp) (v : V) : Prop := ∃ t, TyX K H v t ∧ t ∈ tys K
theorem Txt.kit (T : Txt K mg) {t c : Value} (ht : t ∈ tys K) (hc : c ∈ cls K) : PySem.W.kitOne K t c = some (isk t c) := by
  have e := T.ex 0 (f := kitAll) rfl
  simp only [kitAll, Bool.and_eq_true] at e
  exact of_decide_eq_true (List.all_eq_true.mp (List.all_eq_true.mp e.1 t ht) c hc)
def isI : V → Bool
  | .int _ => true
  | _ => false
def isB : V → Bool
  | .bl _ => true
  | _ => false
theorem isk_int {H : Hp} {v : V} {t : Value} (h : TyX K H v t) : (isk t (.type "int") && !isk t (.type "bool")) = isI v := by
  cases h with
  | base h => cases h <;> simp [isk, isI]
  | _ => simp [isk, isI]
theorem knw_int {H : Hp} (i : Int) : Knw K H (.int i) := ⟨_, .base (.int i), by simp [tys]⟩
theorem knw_bl {H : Hp} (b : Bool) : Knw K H (.bl b) := ⟨_, .base (.bl b), by simp [tys]⟩
theorem knw_non {H : Hp} : Knw K H .non := ⟨_, .base .non, by simp [tys]⟩
theorem knw_str {H : Hp} (x : Str) : Knw K H (.str x) := ⟨_, .base (.str x), by simp [tys]⟩
theorem knw_lst {H : Hp} {a : Addr} {xs : List V} (h : H a = some (.lst xs)) : Knw K H (.ref a) := ⟨_, .base (.lst h), by simp [tys]⟩
theorem knw_tup {H : Hp} {a : Addr} {xs : List V} (h : H a = some (.tup xs)) : Knw K H (.ref a) := ⟨_, .base (.tup h), by simp [tys]⟩
/-! ### kinds -/
def spWhole (K : PySem.W.Frag) : Sp := fun vs H Q _ => ∃ v, vs = [v] ∧ Knw K H v ∧ Q (.bl (isI v)) H
theorem cal_is_whole (T : Txt K mg) : C8.Cal P w K mg base 1 "is_whole" (spWhole K) [] := by
  refine calD T.f_is_whole T.g_is_whole sc_is_whole (fun fd F => F.bindsN fun _ _ _ _ _ _ us hl => match us, hl with | [_], _ => rfl) (fun vs H Q E h => by obtain ⟨v, rfl, _⟩ := h; rfl) fun cdv A outer s H vs Q E hr h => ?_
  obtain ⟨v, rfl, ⟨t, ht, hm⟩, q⟩ := h
  refine ⟨_, (pss_one (ps_ret (pe_and (pe_callB call_isi (by rfl) T.b_isinstance (by decide +kernel) (pa_cons (pv 0) (pa_cons (pe_bltn (v := .ty "int") (by rfl) T.b_int (by decide +kernel) rfl) pa_nil))) (pe_one (pe_not (pe_callB call_isi (by rfl) T.b_isinstance (by decide +kernel) (pa_cons (pv 0) (pa_cons (pe_bltn (v := .ty "bool") (by rfl) T.b_bool (by decide +kernel) rfl) pa_nil)))))))), ?_⟩
  refine ⟨_, rfl, _, _, t, _, _, rfl, .ty _, ht, T.kit hm (by simp [cls]), _, rfl, ?_⟩
  have e := isk_int ht
  cases e1 : isk t (.type "int") with
  | true =>
    rw [e1, Bool.true_and] at e
    refine iteT ⟨_, rfl, _, _, t, _, _, rfl, .ty _, ht, T.kit hm (by simp [cls]), _, rfl, ?_⟩
    show Q (.bl (!isk t (.type "bool"))) H
    rw [e]; exact q
  | false =>
    rw [e1, Bool.false_and] at e
    refine iteF ?_
    show Q (.bl false) H
    rw [e]; exact q
def wi (v : V) (lo hi : Int) : Bool := match v with
  | .int i => decide (lo ≤ i) && decide (i ≤ hi)
  | _ => false
theorem wi_int {i lo hi : Int} (h1 : lo ≤ i) (h2 : i ≤ hi) : wi (.int i) lo hi = true := by simp [wi, h1, h2]
theorem wi_true {v : V} {lo hi : Int} (h : wi v lo hi = true) : ∃ i, v = .int i ∧ lo ≤ i ∧ i ≤ hi := by
  cases v with
  | int i => simp [wi] at h; exact ⟨i, rfl, h⟩
  | _ => simp [wi] at h
def spWithin (K : PySem.W.Frag) : Sp := fun vs H Q _ => ∃ v lo hi, vs = [v, .int lo, .int hi] ∧ Knw K H v ∧ Q (.bl (wi v lo hi)) H
theorem cal_is_within (T : Txt K mg) : C8.Cal P w K mg base 2 "is_within" (spWithin K) [] := by
  refine calD T.f_is_within T.g_is_within sc_is_within (fun fd F => F.bindsN fun _ _ _ _ _ _ us hl => match us, hl with | [_, _, _], _ => rfl) (fun vs H Q E h => by obtain ⟨v, _, _, rfl, _⟩ := h; rfl) fun cdv A outer s H vs Q E hr h => ?_
  obtain ⟨v, lo, hi, rfl, hv, q⟩ := h
  refine ⟨_, (pss_one (ps_ret (pe_and (C8.pe_c (cal_is_whole T) hr (by decide) rfl (pa_cons (pv 0) pa_nil)) (pe_one (pe_chain op_le op_le (pv 1) (pv 0) (pv 2)))))), ?_⟩
  refine ⟨_, rfl, v, rfl, hv, _, rfl, ?_⟩
  cases v with
  | int i =>
    refine iteT ⟨_, rfl, _, rfl, _, _, rfl, rfl, _, rfl, ite2 (fun c => ?_) fun c => ?_⟩
    · refine ⟨_, rfl, _, _, rfl, rfl, ?_⟩
      have e : wi (.int i) lo hi = decide (i ≤ hi) := by simp [wi, of_decide_eq_true c]
      rw [e] at q; exact q
    · have e : wi (.int i) lo hi = false := by simp [wi]; intro z; exact absurd (decide_eq_true z) c
      rw [e] at q; exact q
  | _ => exact iteF q
/-- a kind between two written bounds -/
def spKind (K : PySem.W.Frag) (lo hi : Int) : Sp := fun vs H Q _ => ∃ v, vs = [v] ∧ Knw K H v ∧ Q (.bl (wi v lo hi)) H
theorem cal_is_strength (T : Txt K mg) : C8.Cal P w K mg base 3 "is_strength" (spKind K 1 1000000000) [] := by
  refine calD T.f_is_strength T.g_is_strength sc_is_strength (fun fd F => F.bindsN fun _ _ _ _ _ _ us hl => match us, hl with | [_], _ => rfl) (fun vs H Q E h => by obtain ⟨v, rfl, _⟩ := h; rfl) fun cdv A outer s H vs Q E hr h => ?_
  obtain ⟨v, rfl, hv, q⟩ := h
  exact ⟨_, (pss_one (ps_ret (C8.pe_c (cal_is_within T) hr (by decide) rfl (pa_cons (pv 0) (pa_cons pe_int (pa_cons (C8.pe_gc rfl T.c_MOST_STRENGTH) pa_nil)))))), ⟨_, rfl, v, _, _, rfl, hv, q⟩⟩
theorem cal_is_size (T : Txt K mg) : C8.Cal P w K mg base 3 "is_size" (spKind K 0 1000000000) [] := by
  refine calD T.f_is_size T.g_is_size sc_is_size (fun fd F => F.bindsN fun _ _ _ _ _ _ us hl => match us, hl with | [_], _ => rfl) (fun vs H Q E h => by obtain ⟨v, rfl, _⟩ := h; rfl) fun cdv A outer s H vs Q E hr h => ?_
  obtain ⟨v, rfl, hv, q⟩ := h
  exact ⟨_, (pss_one (ps_ret (C8.pe_c (cal_is_within T) hr (by decide) rfl (pa_cons (pv 0) (pa_cons pe_int (pa_cons (C8.pe_gc rfl T.c_MOST_STRENGTH) pa_nil)))))), ⟨_, rfl, v, _, _, rfl, hv, q⟩⟩
theorem cal_is_moment (T : Txt K mg) : C8.Cal P w K mg base 3 "is_moment" (spKind K 0 1000000000000000000000000000000) [] := by
  refine calD T.f_is_moment T.g_is_moment sc_is_moment (fun fd F => F.bindsN fun _ _ _ _ _ _ us hl => match us, hl with | [_], _ => rfl) (fun vs H Q E h => by obtain ⟨v, rfl, _⟩ := h; rfl) fun cdv A outer s H vs Q E hr h => ?_
  obtain ⟨v, rfl, hv, q⟩ := h
  exact ⟨_, (pss_one (ps_ret (C8.pe_c (cal_is_within T) hr (by decide) rfl (pa_cons (pv 0) (pa_cons pe_int (pa_cons (C8.pe_gc rfl T.c_MOST_MOMENT) pa_nil)))))), ⟨_, rfl, v, _, _, rfl, hv, q⟩⟩
/-- a step, as it is -/
def okS (x : Int × Int) : Prop := 1 ≤ x.1 ∧ x.1 ≤ 9 ∧ 0 ≤ x.2 ∧ x.2 ≤ 1000000000
def StepV (H : Hp) (v : V) (x : Int × Int) : Prop := ∃ b, v = .ref b ∧ H b = some (.tup [.int x.1, .int x.2])
/-- a list of steps -/
def Steps (H : Hp) (a : Addr) (xs : List (Int × Int)) : Prop := ∃ vs, H a = some (.lst vs) ∧ Paired (StepV H) vs xs
def spStep (K : PySem.W.Frag) : Sp := fun vs H Q _ => ∃ v x, vs = [v] ∧ StepV H v x ∧ okS x ∧ Q (.bl true) H
theorem cal_is_step (T : Txt K mg) : C8.Cal P w K mg base 4 "is_step" (spStep K) [] := by
  refine calD T.f_is_step T.g_is_step sc_is_step (fun fd F => F.bindsN fun _ _ _ _ _ _ us hl => match us, hl with | [_], _ => rfl) (fun vs H Q E h => by obtain ⟨_, _, rfl, _⟩ := h; rfl) fun cdv A outer s H vs Q E hr h => ?_
  refine ⟨_, (pss_one (ps_ret (pe_and (pe_callB call_isi (by rfl) T.b_isinstance (by decide +kernel) (pa_cons (pv 0) (pa_cons (pe_bltn (v := .ty "tuple") (by rfl) T.b_tuple (by decide +kernel) rfl) pa_nil))) (pe_and (pe_cmpR op_eq (pe_callB call_len (by rfl) T.b_len (by decide +kernel) (pa_cons (pv 0) pa_nil)) pe_int (nomark _)) (pe_and (C8.pe_c (cal_is_within T) hr (by decide) rfl (pa_cons (pe_ix ix_tup (pv 0) pe_int (fun _ _ => rfl)) (pa_cons pe_int (pa_cons pe_int pa_nil)))) (pe_one (C8.pe_c (cal_is_size T) hr (by decide) rfl (pa_cons (pe_ix ix_tup (pv 0) pe_int (fun _ _ => rfl)) pa_nil)))))))), ?_⟩
  obtain ⟨_, ⟨b, t⟩, rfl, ⟨a, rfl, ha⟩, ⟨b1, b2, t1, t2⟩, q⟩ := h
  refine ⟨_, rfl, _, _, .type "tuple", _, _, rfl, .ty _, .base (.tup ha), T.kit (by simp [tys]) (by simp [cls]), _, rfl, ?_⟩
  refine iteT ⟨_, rfl, _, 2, rfl, .inr ⟨_, .of ha, rfl⟩, rfl, _, rfl, iteT ⟨_, rfl, _, _, _, _, rfl, rfl, .of ha, rfl, _, _, _, rfl, knw_int _, _, rfl, ?_⟩⟩
  rw [wi_int b1 b2]
  refine iteT ⟨_, rfl, _, _, _, _, rfl, rfl, .of ha, rfl, _, rfl, knw_int _, ?_⟩
  rw [wi_int t1 t2]
  exact q
/-! ### lists of steps -/
theorem same_new {H : Hp} {p : Addr} {o : HO} (h : H p = none) : Same H (upd H p o) := fun b u e => by rw [upd_ne (ne_of_none e h)]; exact e
theorem Same.mut {H H' : Hp} {p : Addr} {o : HO} (e : Same H H') (h : H p = none) : Same H (upd H' p o) := fun a u ha => by
  rw [upd_ne (ne_of_none ha h)]
  exact e a u ha
theorem StepV.mono {H H' : Hp} (s : Same H H') {v : V} {x : Int × Int} : StepV H v x → StepV H' v x := fun ⟨b, e, h⟩ => ⟨b, e, s _ _ h⟩
theorem Steps.mono {H H' : Hp} (s : Same H H') {a : Addr} {xs : List (Int × Int)} : Steps H a xs → Steps H' a xs := fun ⟨vs, h, p⟩ => ⟨vs, s _ _ h, Paired.mapP p fun _ _ => StepV.mono s⟩
theorem paired_get {α β : Type} {F : α → β → Prop} : ∀ {xs : List α} {ys : List β} {i : Nat} {x : α}, Paired F xs ys → xs[i]? = some x → ∃ y, ys[i]? = some y ∧ F x y
  | _, _, _, _, .nil, e => by simp at e
  | _, _, 0, _, .cons r _, e => by simp at e; subst e; exact ⟨_, rfl, r⟩
  | _, _, i + 1, x, .cons _ t, e => by
    obtain ⟨u, h1, h2⟩ := paired_get (i := i) (x := x) t (by simpa using e)
    exact ⟨u, by simpa using h1, h2⟩
theorem paired_len {α β : Type} {F : α → β → Prop} : ∀ {xs : List α} {ys : List β}, Paired F xs ys → xs.length = ys.length
  | _, _, .nil => rfl
  | _, _, .cons _ t => congrArg Nat.succ (paired_len t)
/-- is_head, is_tail: a list of good steps -/
def spHead (K : PySem.W.Frag) : Sp := fun vs H Q _ => ∃ a xs, vs = [.ref a] ∧ Steps H a xs ∧ (∀ x ∈ xs, okS x) ∧ xs.length ≤ 24 ∧ ∀ H', Same H H' → Q (.bl true) H'
theorem all_true (n : Nat) : (List.replicate n true).all id = true := by simp
theorem cal_is_head (T : Txt K mg) : C8.Cal P w K mg base 5 "is_head" (spHead K) [] := by
  refine calD T.f_is_head T.g_is_head sc_is_head (fun fd F => F.bindsN fun _ _ _ _ _ _ us hl => match us, hl with | [_], _ => rfl) (fun vs H Q E h => by obtain ⟨_, _, rfl, _⟩ := h; rfl) fun cdv A outer s H vs Q E hr h => ?_
  refine ⟨_, (pss_one (ps_ret (pe_and (pe_callB call_isi (by rfl) T.b_isinstance (by decide +kernel) (pa_cons (pv 0) (pa_cons (pe_bltn (v := .ty "list") (by rfl) T.b_list (by decide +kernel) rfl) pa_nil))) (pe_and (pe_cmpR op_le (pe_callB call_len (by rfl) T.b_len (by decide +kernel) (pa_cons (pv 0) pa_nil)) (C8.pe_gc rfl T.c_LONGEST_HEAD) (nomark _)) (pe_one (pe_callB (cr_all rfl) (by rfl) T.b_all (by decide +kernel) (pa_cons (pe_lc (own := [("one", 1)]) (by rfl) sc_is_head.nd (pi_list (pv 0)) (blkOk_by (own := [("one", 1)]) (N := n_is_head) (sc := defScope s_is_head) (by decide +kernel)) (fun _ _ _ _ _ => (pg_name (i := 1) sc_is_head.nd rfl (by first | exact Or.inl rfl | exact Or.inr rfl))) (fun _ _ _ _ _ => pts_nil) (fun _ _ _ _ _ => (C8.pe_c (cal_is_step T) hr (by decide) rfl (pa_cons (pv 1) pa_nil)))) pa_nil))))))), ?_⟩
  obtain ⟨a, xs, rfl, ⟨vs, ha, hp⟩, hok, hl, q⟩ := h
  have hle := paired_len hp
  refine ⟨_, rfl, _, _, .type "list", _, _, rfl, .ty _, .base (.lst ha), T.kit (by simp [tys]) (by simp [cls]), _, rfl, ?_⟩
  refine iteT ⟨_, rfl, _, _, rfl, .inl ⟨_, .of ha, rfl⟩, _, _, rfl, rfl, _, rfl, ?_⟩
  rw [show decide (((vs.length : Nat) : Int) ≤ 24) = true from decide_eq_true (by omega)]
  refine iteT ⟨_, rfl, a, rfl, ⟨_, SqL.of ha⟩, fun D hD => ?_⟩
  refine lc_list (K := K) (a := a) (xs := vs) (fun i H' => Same H H' ∧ H' D = some (.lst ((List.replicate i true).map V.bl))) ⟨same_new hD, upd_same⟩ (fun i H' _ p => p.1.seq (SqL.of ha)) ?_ ?_
  · rintro i x H' hi ⟨s, hd⟩
    obtain ⟨y, hy, hx⟩ := paired_get hp hi
    refine ⟨rfl, _, rfl, _, _, rfl, hx.mono s, hok y (List.mem_of_getElem? hy), _, hd, ?_, ?_, ?_⟩
    · have := (List.getElem?_eq_some_iff.mp hi).1
      rw [List.length_map, List.length_replicate]
      exact small1000 (by omega)
    · exact Same.mut s hD
    · rw [upd_same, List.replicate_succ', List.map_append]; rfl
  · rintro H' ⟨s, hd⟩
    refine ⟨D, _, rfl, SqL.of hd, ?_⟩
    rw [all_true]
    exact q _ s
theorem inV_ints {i : Int} {l : List Int} (h : i ∈ l) : inV (.int i) (l.map V.int) = true := by
  rw [inV, List.any_eq_true]
  exact ⟨.int i, List.mem_map_of_mem h, by simp [eqV]⟩
def tails : List Int := [1, 2, 3, 4, 6, 8, 12, 24]
theorem Txt.tails (T : Txt K mg) (H : Hp) : SqT K H (He.ga K "TAILS") (tails.map V.int) := by
  exact He.tupB_ok (T.ex 1 (f := fun K => He.tupB K "TAILS" [.int 1, .int 2, .int 3, .int 4, .int 6, .int 8, .int 12, .int 24]) rfl) H
theorem tails_le {n : Nat} (h : (n : Int) ∈ tails) : 1 ≤ n ∧ n ≤ 24 := by
  simp [tails] at h
  omega
def spTail (K : PySem.W.Frag) : Sp := fun vs H Q _ => ∃ a xs, vs = [.ref a] ∧ Steps H a xs ∧ (∀ x ∈ xs, okS x) ∧ (xs.length : Int) ∈ tails ∧ ∀ H', Same H H' → Q (.bl true) H'
theorem cal_is_tail (T : Txt K mg) : C8.Cal P w K mg base 5 "is_tail" (spTail K) [] := by
  refine calD T.f_is_tail T.g_is_tail sc_is_tail (fun fd F => F.bindsN fun _ _ _ _ _ _ us hl => match us, hl with | [_], _ => rfl) (fun vs H Q E h => by obtain ⟨_, _, rfl, _⟩ := h; rfl) fun cdv A outer s H vs Q E hr h => ?_
  refine ⟨_, (pss_one (ps_ret (pe_and (pe_callB call_isi (by rfl) T.b_isinstance (by decide +kernel) (pa_cons (pv 0) (pa_cons (pe_bltn (v := .ty "list") (by rfl) T.b_list (by decide +kernel) rfl) pa_nil))) (pe_and (pe_cmpR op_in_seq (pe_callB call_len (by rfl) T.b_len (by decide +kernel) (pa_cons (pv 0) pa_nil)) (C8.pe_gc rfl T.c_TAILS) (by rfl)) (pe_one (pe_callB (cr_all rfl) (by rfl) T.b_all (by decide +kernel) (pa_cons (pe_lc (own := [("one", 1)]) (by rfl) sc_is_tail.nd (pi_list (pv 0)) (blkOk_by (own := [("one", 1)]) (N := n_is_tail) (sc := defScope s_is_tail) (by decide +kernel)) (fun _ _ _ _ _ => (pg_name (i := 1) sc_is_tail.nd rfl (by first | exact Or.inl rfl | exact Or.inr rfl))) (fun _ _ _ _ _ => pts_nil) (fun _ _ _ _ _ => (C8.pe_c (cal_is_step T) hr (by decide) rfl (pa_cons (pv 1) pa_nil)))) pa_nil))))))), ?_⟩
  obtain ⟨a, xs, rfl, ⟨vs, ha, hp⟩, hok, hl, q⟩ := h
  have hle := paired_len hp
  refine ⟨_, rfl, _, _, .type "list", _, _, rfl, .ty _, .base (.lst ha), T.kit (by simp [tys]) (by simp [cls]), _, rfl, ?_⟩
  refine iteT ⟨_, rfl, _, _, rfl, .inl ⟨_, .of ha, rfl⟩, ?_⟩
  refine ⟨_, _, rfl, .inr (T.tails H), rfl, rfl, _, rfl, ?_⟩
  rw [show (if false then !inV (.int (vs.length : Nat)) _ else inV (.int (vs.length : Nat)) (tails.map V.int)) = true from by rw [hle]; exact inV_ints hl]
  refine iteT ⟨_, rfl, a, rfl, ⟨_, SqL.of ha⟩, fun D hD => ?_⟩
  refine lc_list (K := K) (a := a) (xs := vs) (fun i H' => Same H H' ∧ H' D = some (.lst ((List.replicate i true).map V.bl))) ⟨same_new hD, upd_same⟩ (fun i H' _ p => p.1.seq (SqL.of ha)) ?_ ?_
  · rintro i x H' hi ⟨s, hd⟩
    obtain ⟨y, hy, hx⟩ := paired_get hp hi
    refine ⟨rfl, _, rfl, _, _, rfl, hx.mono s, hok y (List.mem_of_getElem? hy), _, hd, ?_, ?_, ?_⟩
    · have := (List.getElem?_eq_some_iff.mp hi).1
      rw [List.length_map, List.length_replicate]
      have := tails_le hl
      exact small1000 (by omega)
    · exact Same.mut s hD
    · rw [upd_same, List.replicate_succ', List.map_append]; rfl
  · rintro H' ⟨s, hd⟩
    refine ⟨D, _, rfl, SqL.of hd, ?_⟩
    rw [all_true]
    exact q _ s
/-! ### wanes -/
structure WN where
  head : List (Int × Int)
  tail : List (Int × Int)
  cap : Int
  lift : Int
  anew : Bool
structure okW (w : WN) : Prop where
  h : ∀ x ∈ w.head, okS x
  hl : w.head.length ≤ 24
  t : ∀ x ∈ w.tail, okS x
  tl : (w.tail.length : Int) ∈ tails
  c1 : 1 ≤ w.cap
  c2 : w.cap ≤ 1000000000
  l1 : 0 ≤ w.lift
  l2 : w.lift ≤ 1000000000
theorem putF_le {f : Str} {v : V} : ∀ {fs : List (Str × V)} {n : Nat}, fs.length ≤ n → (putF f v fs).length ≤ n + 1
  | [], n, _ => Nat.succ_le_succ (Nat.zero_le n)
  | (g, x) :: r, 0, h => absurd h (Nat.not_succ_le_zero _)
  | (g, x) :: r, n + 1, h => by
    unfold putF
    split
    · exact Nat.le_succ_of_le h
    · exact Nat.succ_le_succ (putF_le (Nat.le_of_succ_le_succ h))
def wF (h t : Addr) (c l : Int) (b : Bool) : List (Str × V) := [("head_steps", .ref h), ("tail_steps", .ref t), ("cap_at", .int c), ("lift_by", .int l), ("begins", .bl b)]
theorem wF_put (h t : Addr) (c l : Int) (b : Bool) : putF "begins" (.bl b) (putF "lift_by" (.int l) (putF "cap_at" (.int c) (putF "tail_steps" (.ref t) (putF "head_steps" (.ref h) [])))) = wF h t c l b := by kernel_rfl
theorem wF_head (h t : Addr) (c l : Int) (b : Bool) : (wF h t c l b).lookup ("head_steps" : Str) = some (.ref h) := by kernel_rfl
theorem wF_tail (h t : Addr) (c l : Int) (b : Bool) : (wF h t c l b).lookup ("tail_steps" : Str) = some (.ref t) := by kernel_rfl
theorem wF_cap (h t : Addr) (c l : Int) (b : Bool) : (wF h t c l b).lookup ("cap_at" : Str) = some (.int c) := by kernel_rfl
theorem wF_lift (h t : Addr) (c l : Int) (b : Bool) : (wF h t c l b).lookup ("lift_by" : Str) = some (.int l) := by kernel_rfl
theorem wF_anew (h t : Addr) (c l : Int) (b : Bool) : (wF h t c l b).lookup ("begins" : Str) = some (.bl b) := by kernel_rfl
abbrev cW (K : PySem.W.Frag) : Addr := He.ga K "Wane"
/-- a wane at a -/
def WaneAt (K : PySem.W.Frag) (H : Hp) (a : Addr) (w : WN) : Prop := ∃ dx h t, H a = some (.ins (cW K) dx (wF h t w.cap w.lift w.anew)) ∧ Steps H h w.head ∧ Steps H t w.tail ∧ okW w
theorem WaneAt.mono {H H' : Hp} (s : Same H H') {a : Addr} {w : WN} : WaneAt K H a w → WaneAt K H' a w := fun ⟨dx, h, t, e, sh, st, ok⟩ => ⟨dx, h, t, s _ _ e, sh.mono s, st.mono s, ok⟩
/-- .. whose parts are not D -/
def WaneN (K : PySem.W.Frag) (D : Addr) (H : Hp) (a : Addr) (w : WN) : Prop := ∃ dx h t, a ≠ D ∧ h ≠ D ∧ t ≠ D ∧ H a = some (.ins (cW K) dx (wF h t w.cap w.lift w.anew)) ∧ Steps H h w.head ∧ Steps H t w.tail ∧ okW w
theorem WaneN.at_ {D : Addr} {H : Hp} {a : Addr} {w : WN} (x : WaneN K D H a w) : WaneAt K H a w := by
  obtain ⟨dx, h, t, _, _, _, e, s1, s2, ok⟩ := x
  exact ⟨dx, h, t, e, s1, s2, ok⟩
theorem WaneN.mono {D : Addr} {H H' : Hp} (s : Same H H') {a : Addr} {w : WN} (x : WaneN K D H a w) : WaneN K D H' a w := by
  obtain ⟨dx, h, t, n1, n2, n3, e, s1, s2, ok⟩ := x
  exact ⟨dx, h, t, n1, n2, n3, s _ _ e, s1.mono s, s2.mono s, ok⟩
theorem WaneN.updL {D : Addr} {H : Hp} {vs : List V} {o : HO} (hD : H D = some (.lst vs)) {a : Addr} {w : WN} (x : WaneN K D H a w) : WaneN K D (L2.upd H D o) a w := by
  obtain ⟨dx, h, t, n1, n2, n3, e, ⟨vh, s1, p1⟩, ⟨vt, s2, p2⟩, ok⟩ := x
  have keep : ∀ {v : V} {y : Int × Int}, StepV H v y → StepV (L2.upd H D o) v y := by
    rintro v y ⟨b, rfl, hb⟩
    exact ⟨b, rfl, by rw [upd_ne (fun z => by rw [z, hD] at hb; cases hb)]; exact hb⟩
  exact ⟨dx, h, t, n1, n2, n3, by rw [upd_ne n1]; exact e, ⟨vh, by rw [upd_ne n2]; exact s1, Paired.mapP p1 fun _ _ => keep⟩, ⟨vt, by rw [upd_ne n3]; exact s2, Paired.mapP p2 fun _ _ => keep⟩, ok⟩
def spWInit (K : PySem.W.Frag) : Sp := fun vs H Q _ => ∃ H0 x dx h t w, vs = [.ref x, .ref h, .ref t, .int w.cap, .int w.lift, .bl w.anew] ∧ H = upd (upd H0 dx (.own x)) x (.ins (cW K) dx []) ∧ H0 x = none ∧ H0 dx = none ∧ dx ≠ x ∧
  Steps H0 h w.head ∧ Steps H0 t w.tail ∧ okW w ∧ ∀ H', Same H0 H' → WaneAt K H' x w → (∀ D, H0 D ≠ none → WaneN K D H' x w) → Q .non H'
theorem fn_Wane_init (T : Txt K mg) {fd : FuncData} (F : FD K d_Wane___init__ fd) : FnOk P w K mg base C8.CX0 6 (He.fAd K d_Wane___init__.at_) fd ["self", "head", "tail", "cap", "lift", "anew"] (spWInit K) := by
  refine F.ok sc_Wane___init__ (fun vs H Q E h => by obtain ⟨_, _, _, _, _, _, rfl, _⟩ := h; rfl) fun cdv A outer s H vs Q E hr h => ?_
  obtain ⟨H0, x, dx, h, t, w, rfl, eH, nx, nd, ne, sh, st, ok, q⟩ := h
  have s0 : Same H0 H := by rw [eH]; exact Same.mut (same_new nd) nx
  have hx : H x = some (.ins (cW K) dx []) := by rw [eH]; exact upd_same
  refine ⟨_, PSs.nox (pss_cons (ps_if (pt_not (pt_val (C8.pe_c (cal_is_head T) hr (by decide) rfl (pa_cons (pv 1) pa_nil)))) (pss_one ps_never) pss_nil) (pss_cons (ps_if (pt_not (pt_val (C8.pe_c (cal_is_tail T) hr (by decide) rfl (pa_cons (pv 2) pa_nil)))) (pss_one ps_never) pss_nil) (pss_cons (ps_if (pt_not (pt_val (C8.pe_c (cal_is_strength T) hr (by decide) rfl (pa_cons (pv 3) pa_nil)))) (pss_one ps_never) pss_nil) (pss_cons (ps_if (pt_not (pt_val (C8.pe_c (cal_is_size T) hr (by decide) rfl (pa_cons (pv 4) pa_nil)))) (pss_one ps_never) pss_nil) (pss_cons (ps_if (pt_not (pt_val (pe_callB call_isi (by rfl) T.b_isinstance (by decide +kernel) (pa_cons (pv 5) (pa_cons (pe_bltn (v := .ty "bool") (by rfl) T.b_bool (by decide +kernel) rfl) pa_nil))))) (pss_one ps_never) pss_nil) (pss_cons (ps_fld (pv 0) (pe_callTy call_list_of (by rfl) T.b_list (by decide +kernel) (pa_cons (pv 1) pa_nil)) rfl) (pss_cons (ps_fld (pv 0) (pe_callTy call_list_of (by rfl) T.b_list (by decide +kernel) (pa_cons (pv 2) pa_nil)) rfl) (pss_cons (ps_fld (pv 0) (pv 3) rfl) (pss_cons (ps_fld (pv 0) (pv 4) rfl) (pss_one (ps_fld (pv 0) (pv 5) rfl))))))))))), ?_⟩
  refine ⟨_, rfl, _, _, rfl, sh.mono s0, ok.h, ok.hl, fun H1 s1 => ⟨_, rfl, iteF ?_⟩⟩
  refine ⟨_, rfl, _, _, rfl, st.mono (s0.trans s1), ok.t, ok.tl, fun H2 s2 => ⟨_, rfl, iteF ?_⟩⟩
  refine ⟨_, rfl, _, rfl, knw_int _, _, rfl, ?_⟩
  rw [wi_int ok.c1 ok.c2]
  refine iteF ⟨_, rfl, _, rfl, knw_int _, _, rfl, ?_⟩
  rw [wi_int ok.l1 ok.l2]
  refine iteF ⟨_, rfl, _, _, .type "bool", _, _, rfl, .ty _, .base (.bl _), T.kit (by simp [tys]) (by simp [cls]), _, rfl, iteF ?_⟩
  have s02 := (s0.trans s1).trans s2
  obtain ⟨vh, hh0, ph⟩ := sh
  obtain ⟨vt, ht0, pt⟩ := st
  have hh := s02 _ _ hh0
  have ht := s02 _ _ ht0
  have hx2 : H2 x = some (.ins (cW K) dx []) := s2 _ _ (s1 _ _ hx)
  refine ⟨_, rfl, h, vh, rfl, .inl (SqL.of hh), fun l nl => ?_⟩
  have xl : x ≠ l := ne_of_none hx2 nl
  have l0 : H0 l = none := s02.free nl
  refine ⟨_, rfl, x, cW K, dx, [], rfl, by rw [upd_ne xl]; exact hx2, T.cl_Wane, T.n_Wane_head_steps, by decide, ?_⟩
  have tl : t ≠ l := ne_of_none ht nl
  have tx : t ≠ x := ne_of_none ht0 nx
  refine ⟨_, rfl, t, vt, rfl, .inl (SqL.of (by rw [upd_ne tx, upd_ne tl]; exact ht)), fun m nm => ?_⟩
  have mx : m ≠ x := fun e => by rw [e, upd_same] at nm; cases nm
  have nm1 : upd H2 l (.lst vh) m = none := by rw [upd_ne mx] at nm; exact nm
  have ml : m ≠ l := fun e => by rw [e, upd_same] at nm1; cases nm1
  have nm2 : H2 m = none := by rw [upd_ne ml] at nm1; exact nm1
  have m0 : H0 m = none := s02.free nm2
  refine ⟨_, rfl, x, cW K, dx, _, rfl, by rw [upd_ne (Ne.symm mx), upd_same], T.cl_Wane, T.n_Wane_tail_steps, Nat.lt_of_le_of_lt (putF_le (Nat.le_refl _)) (by decide), ?_⟩
  refine ⟨_, rfl, _, rfl, x, cW K, dx, _, rfl, upd_same, T.cl_Wane, T.n_Wane_cap_at, Nat.lt_of_le_of_lt (putF_le (putF_le (Nat.le_refl _))) (by decide), ?_⟩
  refine ⟨_, rfl, _, rfl, x, cW K, dx, _, rfl, upd_same, T.cl_Wane, T.n_Wane_lift_by, Nat.lt_of_le_of_lt (putF_le (putF_le (putF_le (Nat.le_refl _)))) (by decide), ?_⟩
  refine ⟨_, rfl, _, rfl, x, cW K, dx, _, rfl, upd_same, T.cl_Wane, T.n_Wane_begins, Nat.lt_of_le_of_lt (putF_le (putF_le (putF_le (putF_le (Nat.le_refl _))))) (by decide), ?_⟩
  rw [upd_upd, upd_upd, upd_upd, wF_put]
  have fin : Same H0 (upd (upd (upd (upd H2 l (.lst vh)) x (.ins (cW K) dx (putF "head_steps" (.ref l) []))) m (.lst vt)) x (.ins (cW K) dx (wF l m w.cap w.lift w.anew))) :=
    Same.mut (Same.mut (Same.mut (Same.mut s02 l0) nx) m0) nx
  have eL : upd (upd (upd (upd H2 l (.lst vh)) x (.ins (cW K) dx (putF "head_steps" (.ref l) []))) m (.lst vt)) x (.ins (cW K) dx (wF l m w.cap w.lift w.anew)) l = some (.lst vh) := by
    rw [upd_ne (Ne.symm xl), upd_ne (Ne.symm ml), upd_ne (Ne.symm xl), upd_same]
  have eM : upd (upd (upd (upd H2 l (.lst vh)) x (.ins (cW K) dx (putF "head_steps" (.ref l) []))) m (.lst vt)) x (.ins (cW K) dx (wF l m w.cap w.lift w.anew)) m = some (.lst vt) := by
    rw [upd_ne mx, upd_same]
  have fh := Paired.mapP ph fun _ _ => StepV.mono fin
  have ft := Paired.mapP pt fun _ _ => StepV.mono fin
  exact q _ fin ⟨dx, l, m, upd_same, ⟨vh, eL, fh⟩, ⟨vt, eM, ft⟩, ok⟩ fun D hD => ⟨dx, l, m, fun e => hD (by rw [← e]; exact nx), fun e => hD (by rw [← e]; exact l0), fun e => hD (by rw [← e]; exact m0), upd_same, ⟨vh, eL, fh⟩, ⟨vt, eM, ft⟩, ok⟩
/-! ### a wane's methods -/
def spCap (K : PySem.W.Frag) : Sp := fun vs H Q _ => ∃ a w, vs = [.ref a] ∧ WaneAt K H a w ∧ Q (.int w.cap) H
theorem met_Wane_cap (T : Txt K mg) : C8.Met P w K mg base 1 (He.ga K "Wane") "cap" (spCap K) [] := by
  refine metD T.f_Wane_cap T.cl_Wane T.m_Wane_cap sc_Wane_cap (fun fd F => F.bindsN fun _ _ _ _ _ _ us hl => match us, hl with | [_], _ => rfl) (fun vs H Q E h => by obtain ⟨_, _, rfl, _⟩ := h; rfl) fun cdv A outer s H vs Q E hr h => ?_
  refine ⟨_, (pss_one (ps_ret (pe_fld (pv 0) rfl))), ?_⟩
  obtain ⟨a, w, rfl, ⟨dx, h, t, e, _⟩, q⟩ := h
  exact ⟨_, rfl, a, _, dx, _, _, rfl, e, T.cl_Wane, T.n_Wane_cap_at, wF_cap .., q⟩
def spLift (K : PySem.W.Frag) : Sp := fun vs H Q _ => ∃ a w, vs = [.ref a] ∧ WaneAt K H a w ∧ Q (.int w.lift) H
theorem met_Wane_lift (T : Txt K mg) : C8.Met P w K mg base 1 (He.ga K "Wane") "lift" (spLift K) [] := by
  refine metD T.f_Wane_lift T.cl_Wane T.m_Wane_lift sc_Wane_lift (fun fd F => F.bindsN fun _ _ _ _ _ _ us hl => match us, hl with | [_], _ => rfl) (fun vs H Q E h => by obtain ⟨_, _, rfl, _⟩ := h; rfl) fun cdv A outer s H vs Q E hr h => ?_
  refine ⟨_, (pss_one (ps_ret (pe_fld (pv 0) rfl))), ?_⟩
  obtain ⟨a, w, rfl, ⟨dx, h, t, e, _⟩, q⟩ := h
  exact ⟨_, rfl, a, _, dx, _, _, rfl, e, T.cl_Wane, T.n_Wane_lift_by, wF_lift .., q⟩
def spAnew (K : PySem.W.Frag) : Sp := fun vs H Q _ => ∃ a w, vs = [.ref a] ∧ WaneAt K H a w ∧ Q (.bl w.anew) H
theorem met_Wane_is_anew (T : Txt K mg) : C8.Met P w K mg base 1 (He.ga K "Wane") "is_anew" (spAnew K) [] := by
  refine metD T.f_Wane_is_anew T.cl_Wane T.m_Wane_is_anew sc_Wane_is_anew (fun fd F => F.bindsN fun _ _ _ _ _ _ us hl => match us, hl with | [_], _ => rfl) (fun vs H Q E h => by obtain ⟨_, _, rfl, _⟩ := h; rfl) fun cdv A outer s H vs Q E hr h => ?_
  refine ⟨_, (pss_one (ps_ret (pe_fld (pv 0) rfl))), ?_⟩
  obtain ⟨a, w, rfl, ⟨dx, h, t, e, _⟩, q⟩ := h
  exact ⟨_, rfl, a, _, dx, _, _, rfl, e, T.cl_Wane, T.n_Wane_begins, wF_anew .., q⟩
/-- the steps' number behind so many -/
def WN.phase (w : WN) (n : Nat) : Nat := if n < w.head.length + w.tail.length then n else w.head.length + (n - w.head.length) % w.tail.length
def WN.at (w : WN) (n : Nat) : Int × Int := if n < w.head.length then w.head.getD n (1, 0) else w.tail.getD ((n - w.head.length) % w.tail.length) (1, 0)
theorem okW.tpos {w : WN} (ok : okW w) : 1 ≤ w.tail.length := (tails_le ok.tl).1
def spComing (K : PySem.W.Frag) : Sp := fun vs H Q _ => ∃ a w n, vs = [.ref a, .int (n : Nat)] ∧ WaneAt K H a w ∧ ∀ v, StepV H v (w.at n) → Q v H
theorem steps_at {H : Hp} {a : Addr} {xs : List (Int × Int)} (h : Steps H a xs) {n : Nat} (hn : n < xs.length) : ∃ vs v, H a = some (.lst vs) ∧ vs.length = xs.length ∧ vs[n]? = some v ∧ StepV H v (xs.getD n (1, 0)) := by
  obtain ⟨vs, e, p⟩ := h
  have l := paired_len p
  obtain ⟨y, hy, hx⟩ := paired_get (i := n) (x := vs[n]'(by omega)) p (List.getElem?_eq_getElem (by omega))
  refine ⟨vs, _, e, l, List.getElem?_eq_getElem (by omega), ?_⟩
  rw [List.getD_eq_getElem?_getD, hy]
  exact hx
theorem met_Wane_coming (T : Txt K mg) : C8.Met P w K mg base 1 (He.ga K "Wane") "coming" (spComing K) [] := by
  refine metD T.f_Wane_coming T.cl_Wane T.m_Wane_coming sc_Wane_coming (fun fd F => F.bindsN fun _ _ _ _ _ _ us hl => match us, hl with | [_, _], _ => rfl) (fun vs H Q E h => by obtain ⟨_, _, _, rfl, _⟩ := h; rfl) fun cdv A outer s H vs Q E hr h => ?_
  refine ⟨_, (pss_cons (ps_set (i := 2) sc_Wane_coming.nd rfl (by first | exact Or.inl rfl | exact Or.inr rfl) (pe_callB call_len (by rfl) T.b_len (by decide +kernel) (pa_cons (pe_fld (pv 0) rfl) pa_nil))) (pss_cons (ps_if (pt_cmpR op_lt (pv 1) (pv 2) (nomark _)) (pss_one (ps_ret (pe_ix ix_list (pe_fld (pv 0) rfl) (pv 1) (fun _ _ => rfl)))) pss_nil) (pss_one (ps_ret (pe_ix ix_list (pe_fld (pv 0) rfl) (pe_op op_mod (pe_op op_sub (pv 1) (pv 2)) (pe_callB call_len (by rfl) T.b_len (by decide +kernel) (pa_cons (pe_fld (pv 0) rfl) pa_nil))) (fun _ _ => rfl)))))), ?_⟩
  obtain ⟨a, w, n, rfl, ⟨dx, h, t, e, sh, st, ok⟩, q⟩ := h
  obtain ⟨vh, hh, ph⟩ := id sh
  obtain ⟨vt, ht, pt⟩ := id st
  have l1 := paired_len ph
  have l2 := paired_len pt
  refine ⟨_, rfl, a, _, dx, _, _, rfl, e, T.cl_Wane, T.n_Wane_head_steps, wF_head .., _, _, rfl, .inl ⟨_, SqL.of hh, rfl⟩, ?_⟩
  refine ⟨_, rfl, _, rfl, _, _, rfl, rfl, _, rfl, ite2 (fun c => ?_) (fun c => ?_)⟩
  · have c := of_decide_eq_true c
    have hn : n < w.head.length := by omega
    obtain ⟨vs, v, e1, _, e2, e3⟩ := steps_at sh hn
    rw [hh] at e1; cases e1
    refine ⟨_, rfl, a, _, dx, _, _, rfl, e, T.cl_Wane, T.n_Wane_head_steps, wF_head .., _, rfl, h, vh, _, v, rfl, rfl, SqL.of hh, atI_nat e2, q v ?_⟩
    rw [WN.at, if_pos hn]; exact e3
  · have c : ¬ (n : Int) < vh.length := fun z => c (decide_eq_true z)
    have hn : ¬ n < w.head.length := by omega
    have tp := ok.tpos
    obtain ⟨vs, v, e1, _, e2, e3⟩ := steps_at st (n := (n - w.head.length) % w.tail.length) (Nat.mod_lt _ tp)
    rw [ht] at e1; cases e1
    refine ⟨_, rfl, a, _, dx, _, _, rfl, e, T.cl_Wane, T.n_Wane_tail_steps, wF_tail .., _, rfl, _, rfl, _, _, rfl, rfl, _, rfl, a, _, dx, _, _, rfl, e, T.cl_Wane, T.n_Wane_tail_steps, wF_tail .., _, _, rfl, .inl ⟨_, SqL.of ht, rfl⟩,
      _, _, rfl, rfl, by show (0 : Int) < (vt.length : Int); omega, t, vt, _, v, rfl, rfl, SqL.of ht, ?_, q v ?_⟩
    · have e4 : ((n : Int) - (vh.length : Int)) % (vt.length : Int) = (((n - w.head.length) % w.tail.length : Nat) : Int) := by
        rw [l1, l2, ← Int.ofNat_sub (by omega)]; exact (Int.natCast_emod _ _).symm
      rw [e4]; exact atI_nat e2
    · rw [WN.at, if_neg hn]; exact e3
def spPhaseOf (K : PySem.W.Frag) : Sp := fun vs H Q _ => ∃ a w n, vs = [.ref a, .int (n : Nat)] ∧ WaneAt K H a w ∧ Q (.int (w.phase n : Nat)) H
theorem met_Wane_phase_of (T : Txt K mg) : C8.Met P w K mg base 1 (He.ga K "Wane") "phase_of" (spPhaseOf K) [] := by
  refine metD T.f_Wane_phase_of T.cl_Wane T.m_Wane_phase_of sc_Wane_phase_of (fun fd F => F.bindsN fun _ _ _ _ _ _ us hl => match us, hl with | [_, _], _ => rfl) (fun vs H Q E h => by obtain ⟨_, _, _, rfl, _⟩ := h; rfl) fun cdv A outer s H vs Q E hr h => ?_
  refine ⟨_, (pss_cons (ps_set (i := 2) sc_Wane_phase_of.nd rfl (by first | exact Or.inl rfl | exact Or.inr rfl) (pe_callB call_len (by rfl) T.b_len (by decide +kernel) (pa_cons (pe_fld (pv 0) rfl) pa_nil))) (pss_cons (ps_if (pt_cmpR op_lt (pv 1) (pe_op op_add (pv 2) (pe_callB call_len (by rfl) T.b_len (by decide +kernel) (pa_cons (pe_fld (pv 0) rfl) pa_nil))) (nomark _)) (pss_one (ps_ret (pv 1))) pss_nil) (pss_one (ps_ret (pe_op op_add (pv 2) (pe_op op_mod (pe_op op_sub (pv 1) (pv 2)) (pe_callB call_len (by rfl) T.b_len (by decide +kernel) (pa_cons (pe_fld (pv 0) rfl) pa_nil)))))))), ?_⟩
  obtain ⟨a, w, n, rfl, ⟨dx, h, t, e, sh, st, ok⟩, q⟩ := h
  obtain ⟨vh, hh, ph⟩ := id sh
  obtain ⟨vt, ht, pt⟩ := id st
  have l1 := paired_len ph
  have l2 := paired_len pt
  have tp := ok.tpos
  refine ⟨_, rfl, a, _, dx, _, _, rfl, e, T.cl_Wane, T.n_Wane_head_steps, wF_head .., _, _, rfl, .inl ⟨_, SqL.of hh, rfl⟩, ?_⟩
  refine ⟨_, rfl, _, rfl, _, rfl, a, _, dx, _, _, rfl, e, T.cl_Wane, T.n_Wane_tail_steps, wF_tail .., _, _, rfl, .inl ⟨_, SqL.of ht, rfl⟩, _, _, rfl, rfl, _, _, rfl, rfl, _, rfl, ite2 (fun c => ?_) (fun c => ?_)⟩
  · have c := of_decide_eq_true c
    rw [WN.phase, if_pos (by omega)] at q
    exact ⟨_, rfl, q⟩
  · have c : ¬ (n : Int) < (vh.length : Int) + vt.length := fun z => c (decide_eq_true z)
    rw [WN.phase, if_neg (by omega)] at q
    refine ⟨_, rfl, _, rfl, _, rfl, _, _, rfl, rfl, _, rfl, a, _, dx, _, _, rfl, e, T.cl_Wane, T.n_Wane_tail_steps, wF_tail .., _, _, rfl, .inl ⟨_, SqL.of ht, rfl⟩, _, _, rfl, rfl, by show (0 : Int) < (vt.length : Int); omega, _, _, rfl, rfl, ?_⟩
    have e4 : (vh.length : Int) + ((n : Int) - (vh.length : Int)) % (vt.length : Int) = ((w.head.length + (n - w.head.length) % w.tail.length : Nat) : Int) := by
      rw [l1, l2, ← Int.ofNat_sub (by omega), ← Int.natCast_emod]; omega
    show Q (.int ((vh.length : Int) + ((n : Int) - (vh.length : Int)) % (vt.length : Int))) H
    rw [e4]; exact q
def spPhaseOf' (K : PySem.W.Frag) : Sp := fun vs H Q _ => ∃ a w n, vs = [.ref a, .int (n : Nat)] ∧ WaneAt K H a w ∧ (n : Int) ≤ 1000000000000000000000000000000 ∧ Q (.int (w.phase n : Nat)) H
theorem met_Wane_phase (T : Txt K mg) : C8.Met P w K mg base 4 (He.ga K "Wane") "phase" (spPhaseOf' K) [] := by
  refine metD T.f_Wane_phase T.cl_Wane T.m_Wane_phase sc_Wane_phase (fun fd F => F.bindsN fun _ _ _ _ _ _ us hl => match us, hl with | [_, _], _ => rfl) (fun vs H Q E h => by obtain ⟨_, _, _, rfl, _⟩ := h; rfl) fun cdv A outer s H vs Q E hr h => ?_
  refine ⟨_, (pss_cons (ps_if (pt_not (pt_val (C8.pe_c (cal_is_moment T) hr (by decide) rfl (pa_cons (pv 1) pa_nil)))) (pss_one ps_never) pss_nil) (pss_one (ps_ret (C8.pe_mt (met_Wane_phase_of T) hr (by decide) (pv 0) (pa_cons (pv 1) pa_nil))))), ?_⟩
  obtain ⟨a, w, n, rfl, hw, hn, q⟩ := h
  obtain ⟨dx, h, t, e, sh, st, ok⟩ := id hw
  refine ⟨_, rfl, _, rfl, knw_int _, _, rfl, ?_⟩
  rw [wi_int (by omega) hn]
  exact iteF ⟨_, rfl, a, dx, _, rfl, e, by kernel_rfl, _, rfl, a, w, n, rfl, hw, q⟩
end
end WH

set_option maxHeartbeats 4000000
namespace WH
open PySem PySem.Spec PyProof.Rows L2
section
variable {P : Program} {w : World} {K : PySem.W.Frag} {mg : Str → Option Value} {base : Heap}
theorem getD_mem {α : Type} {l : List α} {n : Nat} {d : α} (h : n < l.length) : l.getD n d ∈ l := by
  rw [List.getD_eq_getElem?_getD, List.getElem?_eq_getElem h]
  exact List.getElem_mem h
theorem okW.at {w : WN} (ok : okW w) (n : Nat) : okS (w.at n) := by
  unfold WN.at
  split
  · rename_i h
    exact ok.h _ (getD_mem h)
  · exact ok.t _ (getD_mem (Nat.mod_lt _ ok.tpos))
def WN.turn (w : WN) (s : Int) (n : Nat) : Int := if s / (w.at n).1 - (w.at n).2 > 0 then s / (w.at n).1 - (w.at n).2 else 0
def WN.ask (w : WN) (s : Int) : Int := if s = 0 then 0 else if s + w.lift < w.cap then s + w.lift else w.cap
theorem WaneAt.ok {H : Hp} {a : Addr} {w : WN} (h : WaneAt K H a w) : okW w := let ⟨_, _, _, _, _, _, ok⟩ := h; ok
theorem Txt.insW (T : Txt K mg) : insB K (cW K) = true := by
  have e := T.ex 0 (f := kitAll) rfl
  simp only [kitAll, Bool.and_eq_true] at e
  exact e.2
theorem knw_wane (T : Txt K mg) {H : Hp} {a : Addr} {w : WN} (h : WaneAt K H a w) : TyX K H (.ref a) (.ref (cW K)) := by
  obtain ⟨dx, h, t, e, _⟩ := h
  have i := T.insW
  unfold insB at i
  simp only [Bool.and_eq_true, decide_eq_true_eq] at i
  exact .base (.ins e T.cl_Wane i.1 i.2.1 i.2.2.1 i.2.2.2)
def spCheck (K : PySem.W.Frag) : Sp := fun vs H Q _ => ∃ a w s least pl, vs = [.ref a, .int s, .int least, .int pl] ∧ WaneAt K H a w ∧ least ≤ s ∧ s ≤ w.cap ∧ Q .non H
theorem cal_check_part (T : Txt K mg) : C8.Cal P w K mg base 3 "check_part" (spCheck K) [] := by
  refine calD T.f_check_part T.g_check_part sc_check_part (fun fd F => F.bindsN fun _ _ _ _ _ _ us hl => match us, hl with | [_, _, _, _], _ => rfl) (fun vs H Q E h => by obtain ⟨_, _, _, _, _, rfl, _⟩ := h; rfl) fun cdv A outer s H vs Q E hr h => ?_
  refine ⟨_, (pss_cons (ps_if (pt_not (pt_val (pe_callB call_isi (by rfl) T.b_isinstance (by decide +kernel) (pa_cons (pv 0) (pa_cons (C8.pe_gc (v := .ref (He.ga K "Wane")) rfl ⟨_, T.g_Wane, rfl⟩) pa_nil))))) (pss_one ps_never) pss_nil) (pss_one (ps_if (pt_not (pt_val (C8.pe_c (cal_is_within T) hr (by decide) rfl (pa_cons (pv 1) (pa_cons (pv 2) (pa_cons (pe_fld (pv 0) rfl) pa_nil)))))) (pss_one ps_never) pss_nil))), ?_⟩
  obtain ⟨a, w, s, least, pl, rfl, hw, h1, h2, q⟩ := h
  obtain ⟨dx, h, t, e, _⟩ := id hw
  refine ⟨_, rfl, _, _, .ref (cW K), _, _, rfl, .own _, knw_wane T hw, T.kit (by simp [tys]) (by simp [cls]), _, rfl, ?_⟩
  rw [show isk (.ref (cW K)) (.ref (cW K)) = true by simp [isk]]
  refine iteF ⟨_, rfl, _, rfl, _, rfl, a, _, dx, _, _, rfl, e, T.cl_Wane, T.n_Wane_cap_at, wF_cap .., _, _, _, rfl, knw_int _, _, rfl, ?_⟩
  rw [wi_int h1 h2]
  exact iteF q
def spTurned (K : PySem.W.Frag) : Sp := fun vs H Q _ => ∃ a w s n, vs = [.ref a, .int s, .int (n : Nat)] ∧ WaneAt K H a w ∧ Q (.int (w.turn s n)) H
theorem cal_turned (T : Txt K mg) : C8.Cal P w K mg base 2 "turned" (spTurned K) [] := by
  refine calD T.f_turned T.g_turned sc_turned (fun fd F => F.bindsN fun _ _ _ _ _ _ us hl => match us, hl with | [_, _, _], _ => rfl) (fun vs H Q E h => by obtain ⟨_, _, _, _, rfl, _⟩ := h; rfl) fun cdv A outer s H vs Q E hr h => ?_
  refine ⟨_, (pss_cons (ps_asg (C8.pe_mt (met_Wane_coming T) hr (by decide) (pv 0) (pa_cons (pv 2) pa_nil)) (pg_tup rfl (pgs_cons (pg_name (i := 3) sc_turned.nd rfl (by first | exact Or.inl rfl | exact Or.inr rfl)) (pgs_cons (pg_name (i := 4) sc_turned.nd rfl (by first | exact Or.inl rfl | exact Or.inr rfl)) pgs_nil)))) (pss_one (ps_ret (pe_callB (call_max2 rfl) (by rfl) T.b_max (by decide +kernel) (pa_cons pe_int (pa_cons (pe_op op_sub (pe_op op_fdiv (pv 1) (pv 3)) (pv 4)) pa_nil)))))), ?_⟩
  obtain ⟨a, w, s, n, rfl, hw, q⟩ := h
  obtain ⟨dx, h, t, e, _, _, ok⟩ := id hw
  refine ⟨_, rfl, a, dx, _, rfl, e, by kernel_rfl, _, rfl, a, w, n, rfl, hw, fun v hv => ?_⟩
  obtain ⟨b, rfl, hb⟩ := hv
  obtain ⟨b1, b2, t1, t2⟩ := ok.at n
  refine ⟨b, _, rfl, SqT.of hb, rfl, _, _, rfl, _, _, rfl, rfl, ?_⟩
  refine ⟨_, rfl, _, rfl, _, _, rfl, rfl, ⟨b1, by omega⟩, _, rfl, _, _, rfl, rfl, _, _, rfl, ?_⟩
  exact q
def spAsked (K : PySem.W.Frag) : Sp := fun vs H Q _ => ∃ a w s, vs = [.ref a, .int s] ∧ WaneAt K H a w ∧ Q (.int (w.ask s)) H
theorem cal_asked (T : Txt K mg) : C8.Cal P w K mg base 1 "asked" (spAsked K) [] := by
  refine calD T.f_asked T.g_asked sc_asked (fun fd F => F.bindsN fun _ _ _ _ _ _ us hl => match us, hl with | [_, _], _ => rfl) (fun vs H Q E h => by obtain ⟨_, _, _, rfl, _⟩ := h; rfl) fun cdv A outer s H vs Q E hr h => ?_
  refine ⟨_, (pss_cons (ps_if (pt_cmpR op_eq (pv 1) pe_int (nomark _)) (pss_one (ps_ret pe_int)) pss_nil) (pss_one (ps_ret (pe_callB (call_min2 rfl) (by rfl) T.b_min (by decide +kernel) (pa_cons (pe_fld (pv 0) rfl) (pa_cons (pe_op op_add (pv 1) (pe_fld (pv 0) rfl)) pa_nil)))))), ?_⟩
  obtain ⟨a, w, s, rfl, hw, q⟩ := h
  obtain ⟨dx, h, t, e, _, _, ok⟩ := id hw
  unfold WN.ask at q
  refine ⟨_, rfl, rfl, _, rfl, ite2 (fun c => ?_) (fun c => ?_)⟩
  · have c : s = 0 := by simpa using c
    rw [if_pos c] at q
    exact q
  · have c : ¬ s = 0 := by simpa using c
    rw [if_neg c] at q
    refine ⟨_, rfl, a, _, dx, _, _, rfl, e, T.cl_Wane, T.n_Wane_cap_at, wF_cap .., _, rfl, _, rfl, a, _, dx, _, _, rfl, e, T.cl_Wane, T.n_Wane_lift_by, wF_lift .., _, _, rfl, rfl, _, _, rfl, ?_⟩
    exact q
/-- the since behind a sign: '.' or 'a' -/
def WN.nxt (w : WN) (dot : Bool) (n : Nat) : Nat := if dot then n + 1 else if w.anew then 0 else n
def sgn (dot : Bool) : Str := if dot then "." else "a"
theorem sgn_dot (b : Bool) : decide (V.str (sgn b) = V.str ".") = b := by cases b <;> decide +kernel
theorem sgn_a (b : Bool) : decide (V.str (sgn b) = V.str "a") = !b := by cases b <;> decide +kernel
def spNxt (K : PySem.W.Frag) : Sp := fun vs H Q _ => ∃ a w b n, vs = [.ref a, .str (sgn b), .int (n : Nat)] ∧ WaneAt K H a w ∧ Q (.int (w.nxt b n : Nat)) H
theorem cal_since_behind_sign (T : Txt K mg) : C8.Cal P w K mg base 1 "since_behind_sign" (spNxt K) [] := by
  refine calD T.f_since_behind_sign T.g_since_behind_sign sc_since_behind_sign (fun fd F => F.bindsN fun _ _ _ _ _ _ us hl => match us, hl with | [_, _, _], _ => rfl) (fun vs H Q E h => by obtain ⟨_, _, _, _, rfl, _⟩ := h; rfl) fun cdv A outer s H vs Q E hr h => ?_
  refine ⟨_, (pss_cons (ps_if (pt_cmpR op_eq (pv 1) pe_str (nomark _)) (pss_one (ps_ret (pe_op op_add (pv 2) pe_int))) pss_nil) (pss_one (ps_ret (pe_ifExp (pt_val (pe_fld (pv 0) rfl)) pe_int (pv 2))))), ?_⟩
  obtain ⟨a, w, b, n, rfl, hw, q⟩ := h
  obtain ⟨dx, h, t, e, _, _, ok⟩ := id hw
  refine ⟨_, rfl, rfl, _, rfl, ?_⟩
  rw [sgn_dot]
  cases b with
  | true => exact iteT ⟨_, rfl, _, _, rfl, rfl, q⟩
  | false =>
    refine iteF ⟨_, rfl, a, _, dx, _, _, rfl, e, T.cl_Wane, T.n_Wane_begins, wF_anew .., _, rfl, ?_⟩
    unfold WN.nxt at q
    cases ea : w.anew with
    | true => rw [ea] at q; exact q
    | false => rw [ea] at q; exact ⟨_, rfl, q⟩
def spWaned (K : PySem.W.Frag) : Sp := fun vs H Q _ => ∃ a w s n, vs = [.ref a, .int s, .int (n : Nat)] ∧ WaneAt K H a w ∧ 0 ≤ s ∧ s ≤ w.cap ∧ (n : Int) ≤ 1000000000000000000000000000000 ∧ Q (.int (w.turn s n)) H
theorem cal_waned (T : Txt K mg) : C8.Cal P w K mg base 4 "waned" (spWaned K) [] := by
  refine calD T.f_waned T.g_waned sc_waned (fun fd F => F.bindsN fun _ _ _ _ _ _ us hl => match us, hl with | [_, _, _], _ => rfl) (fun vs H Q E h => by obtain ⟨_, _, _, _, rfl, _⟩ := h; rfl) fun cdv A outer s H vs Q E hr h => ?_
  refine ⟨_, (pss_cons (ps_expr (C8.pe_c (cal_check_part T) hr (by decide) rfl (pa_cons (pv 0) (pa_cons (pv 1) (pa_cons pe_int (pa_cons pe_int pa_nil)))))) (pss_cons (ps_if (pt_not (pt_val (C8.pe_c (cal_is_moment T) hr (by decide) rfl (pa_cons (pv 2) pa_nil)))) (pss_one ps_never) pss_nil) (pss_one (ps_ret (C8.pe_c (cal_turned T) hr (by decide) rfl (pa_cons (pv 0) (pa_cons (pv 1) (pa_cons (pv 2) pa_nil)))))))), ?_⟩
  obtain ⟨a, w, s, n, rfl, hw, h1, h2, h3, q⟩ := h
  refine ⟨_, rfl, _, rfl, a, w, s, _, _, rfl, hw, h1, h2, _, rfl, _, rfl, knw_int _, _, rfl, ?_⟩
  rw [wi_int (by omega) h3]
  exact iteF ⟨_, rfl, _, rfl, _, rfl, a, w, s, n, rfl, hw, q⟩
def spLifted (K : PySem.W.Frag) : Sp := fun vs H Q _ => ∃ a w s, vs = [.ref a, .int s] ∧ WaneAt K H a w ∧ 0 ≤ s ∧ s ≤ w.cap ∧ Q (.int (w.ask s)) H
theorem cal_lifted (T : Txt K mg) : C8.Cal P w K mg base 4 "lifted" (spLifted K) [] := by
  refine calD T.f_lifted T.g_lifted sc_lifted (fun fd F => F.bindsN fun _ _ _ _ _ _ us hl => match us, hl with | [_, _], _ => rfl) (fun vs H Q E h => by obtain ⟨_, _, _, rfl, _⟩ := h; rfl) fun cdv A outer s H vs Q E hr h => ?_
  refine ⟨_, (pss_cons (ps_expr (C8.pe_c (cal_check_part T) hr (by decide) rfl (pa_cons (pv 0) (pa_cons (pv 1) (pa_cons pe_int (pa_cons pe_int pa_nil)))))) (pss_one (ps_ret (C8.pe_c (cal_asked T) hr (by decide) rfl (pa_cons (pv 0) (pa_cons (pv 1) pa_nil)))))), ?_⟩
  obtain ⟨a, w, s, rfl, hw, h1, h2, q⟩ := h
  exact ⟨_, rfl, _, rfl, a, w, s, _, _, rfl, hw, h1, h2, _, rfl, _, rfl, a, w, s, rfl, hw, q⟩
/-- a state: none, or a strength and a phase -/
abbrev Stt := Option (Int × Nat)
def SttV (H : Hp) (v : V) : Stt → Prop
  | none => v = .non
  | some p => ∃ b, v = .ref b ∧ H b = some (.tup [.int p.1, .int (p.2 : Nat)])
theorem SttV.mono {H H' : Hp} (s : Same H H') {v : V} : ∀ {st : Stt}, SttV H v st → SttV H' v st
  | none, h => h
  | some p, ⟨b, e, h⟩ => ⟨b, e, s _ _ h⟩
def WN.led (w : WN) (dot : Bool) : Stt → Stt
  | none => none
  | some (s, n) => if dot then (if w.turn s n = 0 then none else some (w.turn s n, w.phase (n + 1))) else some (w.ask s, if w.anew then 0 else n)
def okSt (w : WN) : Stt → Prop
  | none => True
  | some (s, n) => 1 ≤ s ∧ s ≤ w.cap ∧ n < w.head.length + w.tail.length
def spLed (K : PySem.W.Frag) : Sp := fun vs H Q _ => ∃ a w v st b, vs = [.ref a, v, .str (sgn b)] ∧ WaneAt K H a w ∧ SttV H v st ∧ okSt w st ∧ ∀ v' H', Same H H' → SttV H' v' (w.led b st) → Q v' H'
theorem cal_led (T : Txt K mg) : C8.Cal P w K mg base 5 "led" (spLed K) [] := by
  refine calD T.f_led T.g_led sc_led (fun fd F => F.bindsN fun _ _ _ _ _ _ us hl => match us, hl with | [_, _, _], _ => rfl) (fun vs H Q E h => by obtain ⟨_, _, _, _, _, rfl, _⟩ := h; rfl) fun cdv A outer s H vs Q E hr h => ?_
  refine ⟨_, (pss_cons (ps_if (pt_cmpR op_isN (pv 1) pe_non (nomark _)) (pss_one (ps_ret pe_non)) pss_nil) (pss_cons (ps_asg (pv 1) (pg_tup rfl (pgs_cons (pg_name (i := 3) sc_led.nd rfl (by first | exact Or.inl rfl | exact Or.inr rfl)) (pgs_cons (pg_name (i := 4) sc_led.nd rfl (by first | exact Or.inl rfl | exact Or.inr rfl)) pgs_nil)))) (pss_cons (ps_if (pt_cmpR op_eq (pv 2) pe_str (nomark _)) (pss_cons (ps_if (pt_val (C8.pe_mt0 (met_Wane_is_anew T) hr (by decide) (pv 0))) (pss_one (ps_set (i := 4) sc_led.nd rfl (by first | exact Or.inl rfl | exact Or.inr rfl) pe_int)) pss_nil) (pss_one (ps_ret (pe_tup (pa_cons (C8.pe_c (cal_lifted T) hr (by decide) rfl (pa_cons (pv 0) (pa_cons (pv 3) pa_nil))) (pa_cons (pv 4) pa_nil)))))) pss_nil) (pss_cons (ps_set (i := 3) sc_led.nd rfl (by first | exact Or.inl rfl | exact Or.inr rfl) (C8.pe_c (cal_waned T) hr (by decide) rfl (pa_cons (pv 0) (pa_cons (pv 3) (pa_cons (pv 4) pa_nil))))) (pss_cons (ps_if (pt_cmpR op_eq (pv 3) pe_int (nomark _)) (pss_one (ps_ret pe_non)) pss_nil) (pss_one (ps_ret (pe_tup (pa_cons (pv 3) (pa_cons (C8.pe_mt (met_Wane_phase T) hr (by decide) (pv 0) (pa_cons (pe_op op_add (pv 4) pe_int) pa_nil)) pa_nil)))))))))), ?_⟩
  obtain ⟨a, w, v, st, b, rfl, hw, hv, hs, q⟩ := h
  obtain ⟨dx, h, t, e, _, _, ok⟩ := id hw
  cases st with
  | none =>
    have hv : v = .non := hv
    subst hv
    refine ⟨_, rfl, rfl, _, rfl, iteT ?_⟩
    exact q _ _ (Same.refl _) rfl
  | some p =>
    obtain ⟨s, n⟩ := p
    obtain ⟨c, rfl, hc⟩ := hv
    obtain ⟨s1, s2, n1⟩ := hs
    have b1 := ok.hl
    have b2 := (tails_le ok.tl).2
    refine ⟨_, rfl, rfl, _, rfl, iteF ?_⟩
    refine ⟨_, rfl, c, _, rfl, SqT.of hc, rfl, _, _, rfl, _, _, rfl, rfl, ?_⟩
    refine ⟨_, rfl, rfl, _, rfl, ?_⟩
    rw [sgn_a]
    cases b with
    | true =>
      refine iteF ⟨_, rfl, _, rfl, _, rfl, a, w, s, n, rfl, hw, by omega, s2, by omega, ?_⟩
      refine ⟨_, rfl, rfl, _, rfl, ite2 (fun z => ?_) (fun z => ?_)⟩
      · have z : w.turn s n = 0 := by simpa using z
        refine q _ _ (Same.refl _) ?_
        show SttV H V.non (if w.turn s n = 0 then none else some (w.turn s n, w.phase (n + 1)))
        rw [if_pos z]; rfl
      · have z : ¬ w.turn s n = 0 := by simpa using z
        refine ⟨_, rfl, _, rfl, a, dx, _, rfl, e, by kernel_rfl, _, rfl, _, _, rfl, rfl, a, w, n + 1, rfl, hw, by omega, ?_⟩
        refine ⟨by show 2 ≤ sizeLine; decide, fun p np => q _ _ (same_new np) ?_⟩
        show SttV _ _ (if w.turn s n = 0 then none else some (w.turn s n, w.phase (n + 1)))
        rw [if_neg z]
        exact ⟨p, rfl, upd_same⟩
    | false =>
      refine iteT ⟨_, rfl, a, dx, _, rfl, e, by kernel_rfl, a, w, rfl, hw, _, rfl, ?_⟩
      cases ea : w.anew with
      | true =>
        refine iteT ⟨_, rfl, _, rfl, a, w, s, rfl, hw, by omega, s2, _, rfl, by show 2 ≤ sizeLine; decide, fun p np => q _ _ (same_new np) ⟨p, rfl, ?_⟩⟩
        rw [upd_same, ea]; rfl
      | false =>
        refine iteF ⟨_, rfl, _, rfl, a, w, s, rfl, hw, by omega, s2, _, rfl, by show 2 ≤ sizeLine; decide, fun p np => q _ _ (same_new np) ⟨p, rfl, ?_⟩⟩
        rw [upd_same, ea]; rfl
end
end WH

set_option maxHeartbeats 4000000
namespace WH
open PySem PySem.Spec PyProof.Rows L2
/-! ### the search by width -/
def code (b : Bool) : Nat := if b then 46 else 97
def rowS (l : List Bool) : Str := SX.S (l.map code)
theorem rowS_len (l : List Bool) : (rowS l).length = l.length := by rw [rowS, SX.S_len, List.length_map]
theorem rowS_app (l m : List Bool) : rowS l ++ rowS m = rowS (l ++ m) := by rw [rowS, rowS, rowS, SX.S_cat, List.map_append]
theorem sgn_row (b : Bool) : sgn b = rowS [b] := by cases b <;> decide +kernel
abbrev Row := List Bool × (Stt × Stt)
def stp (w1 w2 : WN) (r : Row) (b : Bool) : Row := (r.1 ++ [b], (w1.led b r.2.1, w2.led b r.2.2))
def addR (rows : List Row) (q : Row) : List Row := if q.2 ∈ rows.map (·.2) then rows else rows ++ [q]
def run (w1 w2 : WN) (s f : Int) : Nat → List Row
  | 0 => [([], (some (s, 0), some (f, 0)))]
  | k + 1 => match (run w1 w2 s f k)[k]? with
    | some r => addR (addR (run w1 w2 s f k) (stp w1 w2 r true)) (stp w1 w2 r false)
    | none => run w1 w2 s f k
def parts (p : Stt × Stt) : Bool := p.1.isNone != p.2.isNone
theorem at_nn {w : WN} (ok : okW w) (n : Nat) : 0 ≤ (w.at n).2 := (ok.at n).2.2.1
theorem turn_le {w : WN} (ok : okW w) {s : Int} (h : 0 ≤ s) (n : Nat) : w.turn s n ≤ s ∧ 0 ≤ w.turn s n := by
  unfold WN.turn
  obtain ⟨b1, _, t1, _⟩ := ok.at n
  have := Int.ediv_le_self (w.at n).1 h
  split <;> omega
theorem ask_ok {w : WN} (ok : okW w) {s : Int} (h1 : 1 ≤ s) (h2 : s ≤ w.cap) : 1 ≤ w.ask s ∧ w.ask s ≤ w.cap := by
  unfold WN.ask
  have := ok.l1
  have := ok.c1
  rw [if_neg (by omega)]
  split <;> omega
theorem phase_lt {w : WN} (ok : okW w) (n : Nat) : w.phase n < w.head.length + w.tail.length := by
  unfold WN.phase
  have := ok.tpos
  split
  · assumption
  · have := Nat.mod_lt (n - w.head.length) this
    omega
theorem led_ok {w : WN} (ok : okW w) (b : Bool) : ∀ {st : Stt}, okSt w st → okSt w (w.led b st)
  | none, _ => trivial
  | some (s, n), ⟨h1, h2, h3⟩ => by
    have tp := ok.tpos
    cases b with
    | true =>
      show okSt w (if w.turn s n = 0 then none else some (w.turn s n, w.phase (n + 1)))
      have := turn_le ok (show 0 ≤ s by omega) n
      split
      · trivial
      · exact ⟨by omega, by omega, phase_lt ok _⟩
    | false =>
      have := ask_ok ok h1 h2
      refine ⟨this.1, this.2, ?_⟩
      show (if w.anew then 0 else n) < _
      split <;> omega
structure okRow (w1 w2 : WN) (k : Nat) (r : Row) : Prop where
  a : okSt w1 r.2.1
  b : okSt w2 r.2.2
  l : r.1.length ≤ k
theorem mem_addR {rows : List Row} {q r : Row} (h : r ∈ addR rows q) : r ∈ rows ∨ r = q := by
  unfold addR at h
  split at h
  · exact .inl h
  · rcases List.mem_append.mp h with h | h
    · exact .inl h
    · exact .inr (List.mem_singleton.mp h)
theorem stp_ok {w1 w2 : WN} (o1 : okW w1) (o2 : okW w2) {k : Nat} {r : Row} (h : okRow w1 w2 k r) (b : Bool) : okRow w1 w2 (k + 1) (stp w1 w2 r b) :=
  ⟨led_ok o1 b h.a, led_ok o2 b h.b, by show (r.1 ++ [b]).length ≤ _; rw [List.length_append, List.length_singleton]; exact Nat.succ_le_succ h.l⟩
theorem run_ok {w1 w2 : WN} (o1 : okW w1) (o2 : okW w2) {s f : Int} (h1 : okSt w1 (some (s, 0))) (h2 : okSt w2 (some (f, 0))) : ∀ k, ∀ r ∈ run w1 w2 s f k, okRow w1 w2 k r
  | 0, r, h => by
    rw [List.mem_singleton.mp h]
    exact ⟨h1, h2, Nat.le_refl _⟩
  | k + 1, r, h => by
    have ih := run_ok o1 o2 h1 h2 k
    unfold run at h
    split at h
    · rename_i q hq
      have oq := ih q (List.mem_of_getElem? hq)
      rcases mem_addR h with h | h
      · rcases mem_addR h with h | h
        · obtain ⟨a, b, l⟩ := ih r h
          exact ⟨a, b, Nat.le_succ_of_le l⟩
        · rw [h]; exact stp_ok o1 o2 oq true
      · rw [h]; exact stp_ok o1 o2 oq false
    · obtain ⟨a, b, l⟩ := ih r h
      exact ⟨a, b, Nat.le_succ_of_le l⟩
theorem addR_len (rows : List Row) (q : Row) : rows.length ≤ (addR rows q).length ∧ (addR rows q).length ≤ rows.length + 1 := by
  unfold addR
  split
  · exact ⟨Nat.le_refl _, Nat.le_succ _⟩
  · rw [List.length_append, List.length_singleton]; exact ⟨Nat.le_succ _, Nat.le_refl _⟩
theorem run_len (w1 w2 : WN) (s f : Int) : ∀ k, (run w1 w2 s f k).length ≤ 2 * k + 1
  | 0 => Nat.le_refl _
  | k + 1 => by
    have ih := run_len w1 w2 s f k
    unfold run
    split
    · have a := addR_len (run w1 w2 s f k)
      rename_i r _
      have b := addR_len (addR (run w1 w2 s f k) (stp w1 w2 r true)) (stp w1 w2 r false)
      have c := addR_len (run w1 w2 s f k) (stp w1 w2 r true)
      omega
    · omega
/-- all pairs ahead of place k stand in the rows there, and none parts -/
def Clean (w1 w2 : WN) (s f : Int) (k : Nat) : Prop := ∀ j, j < k → ∃ r, (run w1 w2 s f j)[j]? = some r ∧ parts r.2 = false
/-! ### over the heap -/
def Tup (H H' : Hp) : Prop := ∀ a vs, H a = some (.tup vs) → H' a = some (.tup vs)
theorem Tup.of {H H' : Hp} (s : Same H H') : Tup H H' := fun a vs h => s a _ h
theorem Tup.trans {H H1 H2 : Hp} (a : Tup H H1) (b : Tup H1 H2) : Tup H H2 := fun c vs h => b c vs (a c vs h)
theorem Tup.upd {H : Hp} {a : Addr} {o : HO} (h : ∀ vs, H a ≠ some (.tup vs)) : Tup H (upd H a o) := fun b vs e => by
  rw [upd_ne (fun z => h vs (by rw [← z]; exact e))]
  exact e
theorem SttV.tup {H H' : Hp} (s : Tup H H') {v : V} : ∀ {st : Stt}, SttV H v st → SttV H' v st
  | none, h => h
  | some p, ⟨b, e, h⟩ => ⟨b, e, s _ _ h⟩
def RowV (H : Hp) (v : V) (r : Row) : Prop := ∃ a v1 v2, v = .ref a ∧ H a = some (.tup [.str (rowS r.1), v1, v2]) ∧ SttV H v1 r.2.1 ∧ SttV H v2 r.2.2
theorem RowV.tup {H H' : Hp} (s : Tup H H') {v : V} {r : Row} : RowV H v r → RowV H' v r := fun ⟨a, v1, v2, e, h, h1, h2⟩ => ⟨a, v1, v2, e, s _ _ h, h1.tup s, h2.tup s⟩
def stK : Stt → NestedKey
  | none => .none
  | some p => .tup [.num p.1, .num (p.2 : Nat)]
def pairK (p : Stt × Stt) : NestedKey := .tup [stK p.1, stK p.2]
theorem stK_inj : ∀ {a b : Stt}, stK a = stK b → a = b
  | none, none, _ => rfl
  | none, some _, h => by simp [stK] at h
  | some _, none, h => by simp [stK] at h
  | some (x, n), some (y, m), h => by
    simp only [stK, NestedKey.tup.injEq, List.cons.injEq, NestedKey.num.injEq] at h
    have : n = m := by omega
    rw [h.1, this]
theorem pairK_inj {p q : Stt × Stt} (h : pairK p = pairK q) : p = q := by
  simp only [pairK, NestedKey.tup.injEq, List.cons.injEq] at h
  exact Prod.ext (stK_inj h.1) (stK_inj h.2.1)
theorem stK_nk {H : Hp} {v : V} : ∀ {st : Stt}, SttV H v st → ND.NK H (stK st) v
  | none, h => by rw [stK, ND.NK]; exact h
  | some (s, n), ⟨b, e, h⟩ => by
    rw [stK, ND.NK]
    refine ⟨b, _, e, h, ?_⟩
    rw [ND.NKs]
    refine ⟨_, _, rfl, by rw [ND.NK], ?_⟩
    rw [ND.NKs]
    exact ⟨_, _, rfl, by rw [ND.NK], by rw [ND.NKs]⟩
theorem pairK_nk {H : Hp} {p : Addr} {v1 v2 : V} {q : Stt × Stt} (h : H p = some (.tup [v1, v2])) (h1 : SttV H v1 q.1) (h2 : SttV H v2 q.2) : ND.NK H (pairK q) (.ref p) := by
  rw [pairK, ND.NK]
  refine ⟨p, _, rfl, h, ?_⟩
  rw [ND.NKs]
  refine ⟨_, _, rfl, stK_nk h1, ?_⟩
  rw [ND.NKs]
  exact ⟨_, _, rfl, stK_nk h2, by rw [ND.NKs]⟩
theorem pairK_depth (q : Stt × Stt) : (pairK q).depth ≤ 8 := by
  obtain ⟨a, b⟩ := q
  cases a <;> cases b <;> simp [pairK, stK, NestedKey.depth, NestedKey.depthAll]
/-- the rows and what is known of them, behind what stood at H0 -/
structure AI (P : Program) (w : World) (H0 H : Hp) (lr dk : Addr) (rs : List Row) : Prop where
  same : Same H0 H
  n1 : H0 lr = none
  n2 : H0 dk = none
  ne : lr ≠ dk
  rows : ∃ vs, H lr = some (.lst vs) ∧ Paired (RowV H) vs rs
  keys : ∃ xs, H dk = some (ND.ndO P w dk xs) ∧ ND.Keys H xs ∧ xs.map (·.1) = rs.map fun r => pairK r.2
theorem getN_mem {xs : List ND.Ent} {rows : List Row} (e : xs.map (·.1) = rows.map fun r => pairK r.2) (q : Stt × Stt) : (ND.getN xs (pairK q)).isSome = decide (q ∈ rows.map (·.2)) := by
  by_cases h : q ∈ rows.map (·.2)
  · rw [decide_eq_true h]
    cases e1 : ND.getN xs (pairK q) with
    | some _ => rfl
    | none =>
      obtain ⟨r, hr, e2⟩ := List.mem_map.mp h
      have : pairK q ∈ xs.map (·.1) := by rw [e, ← e2]; exact List.mem_map_of_mem (f := fun r : Row => pairK r.2) hr
      obtain ⟨x, hx, e3⟩ := List.mem_map.mp this
      exact absurd e3 (ND.getN_none.mp e1 x hx)
  · rw [decide_eq_false h]
    have : ND.getN xs (pairK q) = none := by
      rw [ND.getN_none]
      intro x hx e3
      have : pairK q ∈ rows.map fun r => pairK r.2 := by rw [← e, ← e3]; exact List.mem_map_of_mem hx
      obtain ⟨r, hr, e4⟩ := List.mem_map.mp this
      exact h (List.mem_map.mpr ⟨r, hr, pairK_inj e4⟩)
    rw [this]; rfl
theorem AI.tup {P : Program} {w : World} {H0 H H' : Hp} {lr dk : Addr} {rows : List Row} (a : AI P w H0 H lr dk rows) (s : Same H H') : AI P w H0 H' lr dk rows := by
  obtain ⟨h1, h2, h3, h4, ⟨vs, h5, h6⟩, ⟨xs, h7, h8, h9⟩⟩ := a
  exact ⟨h1.trans s, h2, h3, h4, ⟨vs, s _ _ h5, Paired.mapP h6 fun _ _ => RowV.tup (Tup.of s)⟩, ⟨xs, s _ _ h7, h8.mono (Tup.of s), h9⟩⟩
section
variable {P : Program} {w : World} {K : PySem.W.Frag} {mg : Str → Option Value} {base : Heap}
theorem exc_TooMany (T : Txt K mg) : ∃ fd, FnOk P w K mg base C8.CX0 1 (He.ma K (He.ga K "TooMany") "__init__") fd ["self", "most"] (EX.spX (He.ga K "TooMany") "most") ∧ Binds K fd ["self", "most"] [] := by
  obtain ⟨fd, F⟩ := T.f_TooMany___init__
  refine ⟨fd, F.ok sc_TooMany___init__ (fun vs H Q E h => by obtain ⟨_, _, rfl, _⟩ := h; rfl) (fun cdv A outer s H vs Q E hr h => ?_), F.bindsN fun _ _ _ _ _ _ us hl => match us, hl with | [_, _], _ => rfl⟩
  obtain ⟨a, v, rfl, ha, q⟩ := h
  refine ⟨_, PSs.nox ((pss_cons (ps_expr (EX.pe_binit (by rfl) T.g_WaneError T.bin (pa_cons (pv 0) (pa_cons pe_str pa_nil)))) (pss_one (ps_ost (pv 0) (pv 1))))), ?_⟩
  refine ⟨_, rfl, a, He.ga K "TooMany", _, rfl, by show 1 ≤ 1000; decide, T.x_TooMany, ha, ?_⟩
  exact ⟨_, rfl, _, rfl, a, He.ga K "TooMany", rfl, T.x_TooMany, T.n_TooMany_most, .inl ⟨ha, fun dx nd ne => q dx nd ne⟩⟩
def spRow (K : PySem.W.Frag) : Sp := fun vs H Q _ => ∃ l, vs = [.str (rowS l)] ∧ l.length ≤ 200 ∧ ∀ H', Same H H' → Q (.bl true) H'
theorem cal_is_row (T : Txt K mg) : C8.Cal P w K mg base 1 "is_row" (spRow K) [] := by
  refine calD T.f_is_row T.g_is_row sc_is_row (fun fd F => F.bindsN fun _ _ _ _ _ _ us hl => match us, hl with | [_], _ => rfl) (fun vs H Q E h => by obtain ⟨_, rfl, _⟩ := h; rfl) fun cdv A outer s H vs Q E hr h => ?_
  refine ⟨_, (pss_cons (ps_if (PW.pt (pw_or (pt_not (pt_val (pe_callB call_isi (by rfl) T.b_isinstance (by decide +kernel) (pa_cons (pv 0) (pa_cons (pe_bltn (v := .ty "str") (by rfl) T.b_str (by decide +kernel) rfl) pa_nil))))) (pw_or1 (pt_cmpR op_gt (pe_callB call_len (by rfl) T.b_len (by decide +kernel) (pa_cons (pv 0) pa_nil)) (C8.pe_gc rfl T.c_LONGEST_ROW) (nomark _))))) (pss_one (ps_ret pe_bl)) pss_nil) (pss_one (ps_ret (pe_callB (cr_all rfl) (by rfl) T.b_all (by decide +kernel) (pa_cons (pe_lc (own := [("sign", 1)]) (by rfl) sc_is_row.nd (pi_str (pv 0)) (blkOk_by (own := [("sign", 1)]) (N := n_is_row) (sc := defScope s_is_row) (by decide +kernel)) (fun _ _ _ _ _ => (pg_name (i := 1) sc_is_row.nd rfl (by first | exact Or.inl rfl | exact Or.inr rfl))) (fun _ _ _ _ _ => pts_nil) (fun _ _ _ _ _ => (pe_cmpR op_in_sign (pv 1) pe_str rfl))) pa_nil))))), ?_⟩
  obtain ⟨l, rfl, hl, q⟩ := h
  have hlen := rowS_len l
  refine ⟨_, rfl, _, _, .type "str", _, _, rfl, .ty _, .base (.str _), T.kit (by simp [tys]) (by simp [cls]), _, rfl, ?_⟩
  refine iteF ⟨_, rfl, _, _, rfl, ⟨small1000 (by omega) |> Nat.le_of_lt, rfl⟩, _, _, rfl, rfl, _, rfl, ?_⟩
  rw [hlen, show decide ((200 : Int) < (l.length : Nat)) = false from decide_eq_false (by omega)]
  refine iteF ⟨_, rfl, _, rfl, fun D hD => ?_⟩
  refine lc_it walk_str (fun i H' => Same H H' ∧ H' D = some (.lst ((List.replicate i true).map V.bl))) ⟨same_new hD, upd_same⟩ (fun _ _ _ _ => trivial) ?_ ?_
  · rintro i x H1 H' hi ⟨s, hd⟩ ⟨rfl, c, hc, rfl⟩
    have hi2 : i < l.length := by simpa [rowS, SX.S] using hi
    have hcc : c = 46 ∨ c = 97 := by
      have : (l.map code)[i]? = some c := by simpa [rowS, SX.S] using hc
      rw [List.getElem?_map] at this
      obtain ⟨b, _, rfl⟩ := Option.map_eq_some_iff.mp this
      cases b <;> simp [code]
    refine ⟨rfl, _, rfl, c, _, rfl, rfl, _, hd, ?_, ?_, ?_⟩
    · rw [List.length_map, List.length_replicate]
      exact small1000 (by omega)
    · exact Same.mut s hD
    · have : decide (c ∈ (".a" : Str).cps.toList) = true := by rcases hcc with rfl | rfl <;> decide +kernel
      rw [upd_same, List.replicate_succ', List.map_append, this]; rfl
  · rintro H' ⟨s, hd⟩
    refine ⟨D, _, rfl, SqL.of hd, ?_⟩
    rw [all_true]
    exact q _ s
end
end WH

set_option maxHeartbeats 4000000
namespace WH
open PySem PySem.Spec PyProof.Rows L2
section
variable {P : Program} {w : World} {K : PySem.W.Frag} {mg : Str → Option Value} {base : Heap}
def spNeed (K : PySem.W.Frag) : Sp := fun vs H Q _ => ∃ a1 w1 s a2 w2 f m, vs = [.ref a1, .int s, .ref a2, .int f, .int m] ∧ WaneAt K H a1 w1 ∧ WaneAt K H a2 w2 ∧ 1 ≤ s ∧ s ≤ w1.cap ∧ 1 ≤ f ∧ f ≤ w2.cap ∧ 1 ≤ m ∧ m ≤ 400 ∧ ∀ H', Same H H' → Q .non H'
theorem cal_need_asked (T : Txt K mg) : C8.Cal P w K mg base 4 "need_asked" (spNeed K) [] := by
  refine calD T.f_need_asked T.g_need_asked sc_need_asked (fun fd F => F.bindsN fun _ _ _ _ _ _ us hl => match us, hl with | [_, _, _, _, _], _ => rfl) (fun vs H Q E h => by obtain ⟨_, _, _, _, _, _, _, rfl, _⟩ := h; rfl) fun cdv A outer s H vs Q E hr h => ?_
  refine ⟨_, (pss_cons (ps_for PassesOwn.never rfl (pi_list (pe_lst (pa_cons (pe_tup (pa_cons pe_int (pa_cons (pv 0) (pa_cons (pv 1) pa_nil)))) (pa_cons (pe_tup (pa_cons pe_int (pa_cons (pv 2) (pa_cons (pv 3) pa_nil)))) pa_nil)))) (pg_tup rfl (pgs_cons (pg_name (i := 5) sc_need_asked.nd rfl (by first | exact Or.inl rfl | exact Or.inr rfl)) (pgs_cons (pg_name (i := 6) sc_need_asked.nd rfl (by first | exact Or.inl rfl | exact Or.inr rfl)) (pgs_cons (pg_name (i := 7) sc_need_asked.nd rfl (by first | exact Or.inl rfl | exact Or.inr rfl)) pgs_nil)))) (pss_cons (ps_if (pt_not (pt_val (pe_callB call_isi (by rfl) T.b_isinstance (by decide +kernel) (pa_cons (pv 6) (pa_cons (C8.pe_gc (v := .ref (He.ga K "Wane")) rfl ⟨_, T.g_Wane, rfl⟩) pa_nil))))) (pss_one ps_never) pss_nil) (pss_one (ps_if (PW.pt (pw_or (pt_not (pt_val (C8.pe_c (cal_is_strength T) hr (by decide) rfl (pa_cons (pv 7) pa_nil)))) (pw_or1 (pt_cmpR op_gt (pv 7) (C8.pe_mt0 (met_Wane_cap T) hr (by decide) (pv 6)) (nomark _))))) (pss_one ps_never) pss_nil)))) (pss_one (ps_if (PW.pt (pw_or (pt_not (pt_val (C8.pe_c (cal_is_whole T) hr (by decide) rfl (pa_cons (pv 4) pa_nil)))) (pw_or1 (pt_not (pt_chain op_le op_le pe_int (pv 4) (C8.pe_gc rfl T.c_MOST_PAIRS)))))) (pss_one ps_never) pss_nil))), ?_⟩
  obtain ⟨a1, w1, s, a2, w2, f, m, rfl, hw1, hw2, s1, s2, f1, f2, m1, m2, q⟩ := h
  have c1 := hw1.ok.c2
  have c2 := hw2.ok.c2
  refine ⟨_, rfl, _, rfl, by show 3 ≤ sizeLine; decide, fun t1 n1 => ?_⟩
  refine ⟨_, rfl, _, rfl, by show 3 ≤ sizeLine; decide, fun t2 n2 => ?_⟩
  refine ⟨by show 2 ≤ sizeLine; decide, fun l nl => ⟨l, rfl, ⟨_, SqL.of upd_same⟩, ?_⟩⟩
  have S0 : Same H (upd (upd (upd H t1 (.tup [.int 0, .ref a1, .int s])) t2 (.tup [.int 2, .ref a2, .int f])) l (.lst [.ref t1, .ref t2])) := ((same_new n1).trans (same_new n2)).trans (same_new nl)
  generalize hG : upd (upd (upd H t1 (.tup [.int 0, .ref a1, .int s])) t2 (.tup [.int 2, .ref a2, .int f])) l (.lst [.ref t1, .ref t2]) = G at S0 ⊢
  have g1 : G t1 = some (.tup [.int 0, .ref a1, .int s]) := by rw [← hG]; exact same_new nl _ _ (same_new n2 _ _ upd_same)
  have g2 : G t2 = some (.tup [.int 2, .ref a2, .int f]) := by rw [← hG]; exact same_new nl _ _ upd_same
  have g3 : G l = some (.lst [.ref t1, .ref t2]) := by rw [← hG]; exact upd_same
  refine for_list (K := K) (a := l) (xs := [.ref t1, .ref t2]) (fun i σ H' => H' = G ∧ ∃ o5 o6 o7, σ = [some (.ref a1), some (.int s), some (.ref a2), some (.int f), some (.int m), o5, o6, o7]) ⟨rfl, _, _, _, rfl⟩ (fun i σ H' _ p => by rw [p.1]; exact SqL.of g3) ?_ ?_
  · rintro i x σ H' hi ⟨rfl, o5, o6, o7, rfl⟩
    have key : ∃ t pl a w n, x = .ref t ∧ H' t = some (.tup [.int pl, .ref a, .int n]) ∧ WaneAt K H' a w ∧ 1 ≤ n ∧ n ≤ w.cap := by
      match i, hi with
      | 0, hi => exact ⟨t1, 0, a1, w1, s, by simpa using hi.symm, g1, hw1.mono S0, s1, s2⟩
      | 1, hi => exact ⟨t2, 2, a2, w2, f, by simpa using hi.symm, g2, hw2.mono S0, f1, f2⟩
      | n + 2, hi => simp at hi
    obtain ⟨t, pl, a, w, n, rfl, ht, hw, k1, k2⟩ := key
    have c := hw.ok.c2
    obtain ⟨dx, h, t', e, _⟩ := id hw
    refine ⟨t, _, rfl, SqT.of ht, rfl, _, _, rfl, _, _, rfl, _, _, rfl, rfl, ?_⟩
    refine ⟨_, rfl, _, _, .ref (cW K), _, _, rfl, .own _, knw_wane T hw, T.kit (by simp [tys]) (by simp [cls]), _, rfl, ?_⟩
    rw [show isk (.ref (cW K)) (.ref (cW K)) = true by simp [isk]]
    refine iteF ⟨_, rfl, _, rfl, knw_int _, _, rfl, ?_⟩
    rw [wi_int k1 (by omega)]
    refine iteF ⟨_, rfl, _, rfl, a, dx, _, rfl, e, by kernel_rfl, a, w, rfl, hw, _, _, rfl, rfl, _, rfl, ?_⟩
    rw [show decide (w.cap < n) = false from decide_eq_false (by omega)]
    exact iteF ⟨rfl, _, _, _, rfl⟩
  · rintro σ H' ⟨rfl, o5, o6, o7, rfl⟩
    refine ⟨_, rfl, _, rfl, knw_int _, _, rfl, iteF ?_⟩
    refine ⟨_, rfl, _, _, rfl, rfl, _, rfl, ?_⟩
    rw [show decide ((1 : Int) ≤ m) = true from decide_eq_true m1]
    refine iteT ⟨_, _, rfl, rfl, _, rfl, ?_⟩
    rw [show decide (m ≤ (400 : Int)) = true from decide_eq_true m2]
    exact iteF (q _ S0)
/-- strength and since behind a row -/
def stepA (w : WN) (p : Int × Nat) (b : Bool) : Int × Nat := (if b then w.turn p.1 p.2 else w.ask p.1, w.nxt b p.2)
def stA (w : WN) (p : Int × Nat) (l : List Bool) : Int × Nat := l.foldl (stepA w) p
def PairV (H : Hp) (v : V) (x : Int × Nat) : Prop := ∃ b, v = .ref b ∧ H b = some (.tup [.int x.1, .int (x.2 : Nat)])
theorem PairV.tup {H H' : Hp} (s : Tup H H') {v : V} {x : Int × Nat} : PairV H v x → PairV H' v x := fun ⟨b, e, h⟩ => ⟨b, e, s _ _ h⟩
def alongS (w : WN) (p : Int × Nat) (l : List Bool) (k : Nat) : List (Int × Nat) := (List.range k).map fun j => stA w p (l.take j)
def spAlong (K : PySem.W.Frag) : Sp := fun vs H Q _ => ∃ a w s l n, vs = [.ref a, .int s, .str (rowS l), .int (n : Nat)] ∧ WaneAt K H a w ∧ 0 ≤ s ∧ s ≤ w.cap ∧ l.length ≤ 200 ∧ (n : Int) ≤ 1000000000000000000000000000000 ∧
  ∀ H' p vs, Same H H' → H' p = some (.lst vs) → Paired (PairV H') vs (alongS w (s, n) l (l.length + 1)) → Q (.ref p) H'
theorem take_snoc {α : Type} {l : List α} {i : Nat} {b : α} (h : l[i]? = some b) : l.take (i + 1) = l.take i ++ [b] := by
  rw [List.take_add_one, h]; rfl
theorem paired_snoc {α β : Type} {F : α → β → Prop} {a : List α} {b : List β} {x : α} {y : β} (p : Paired F a b) (r : F x y) : Paired F (a ++ [x]) (b ++ [y]) := ND.paired_app p (.cons r .nil)
theorem fn_along (T : Txt K mg) {fd : FuncData} (F : FD K d_along fd) : FnOk P w K mg base C8.CX0 4 (He.fAd K d_along.at_) fd ["wane", "strength", "row", "since"] (spAlong K) := by
  refine F.ok sc_along (fun vs H Q E h => by obtain ⟨_, _, _, _, _, rfl, _⟩ := h; rfl) fun cdv A outer s H vs Q E hr h => ?_
  obtain ⟨a, w, s, l, n, rfl, hw, h1, h2, hl, hn, q⟩ := h
  refine ⟨_, PSs.nox ((pss_cons (ps_expr (C8.pe_c (cal_check_part T) hr (by decide) rfl (pa_cons (pv 0) (pa_cons (pv 1) (pa_cons pe_int (pa_cons pe_int pa_nil)))))) (pss_cons (ps_if (pt_not (pt_val (C8.pe_c (cal_is_row T) hr (by decide) rfl (pa_cons (pv 2) pa_nil)))) (pss_one ps_never) pss_nil) (pss_cons (ps_if (pt_not (pt_val (C8.pe_c (cal_is_moment T) hr (by decide) rfl (pa_cons (pv 3) pa_nil)))) (pss_one ps_never) pss_nil) (pss_cons (ps_set (i := 4) sc_along.nd rfl (by first | exact Or.inl rfl | exact Or.inr rfl) (pe_lst (pa_cons (pe_tup (pa_cons (pv 1) (pa_cons (pv 3) pa_nil))) pa_nil))) (pss_cons (ps_for PassesOwn.never rfl (pi_str (pv 2)) (pg_name (i := 5) sc_along.nd rfl (by first | exact Or.inl rfl | exact Or.inr rfl)) (pss_cons (ps_if (pt_cmpR op_eq (pv 5) pe_str (nomark _)) (pss_one (ps_set (i := 1) sc_along.nd rfl (by first | exact Or.inl rfl | exact Or.inr rfl) (C8.pe_c (cal_turned T) hr (by decide) rfl (pa_cons (pv 0) (pa_cons (pv 1) (pa_cons (pv 3) pa_nil)))))) (pss_one (ps_set (i := 1) sc_along.nd rfl (by first | exact Or.inl rfl | exact Or.inr rfl) (C8.pe_c (cal_asked T) hr (by decide) rfl (pa_cons (pv 0) (pa_cons (pv 1) pa_nil)))))) (pss_cons (ps_set (i := 3) sc_along.nd rfl (by first | exact Or.inl rfl | exact Or.inr rfl) (C8.pe_c (cal_since_behind_sign T) hr (by decide) rfl (pa_cons (pv 0) (pa_cons (pv 5) (pa_cons (pv 3) pa_nil))))) (pss_one (ps_expr (pe_bm PySem.F.plainAttrs_list PySem.F.slot_list_append PySem.F.type_list_append mt_append (pv 4) (pa_cons (pe_tup (pa_cons (pv 1) (pa_cons (pv 3) pa_nil))) pa_nil))))))) (pss_one (ps_ret (pv 4))))))))), ?_⟩
  refine ⟨_, rfl, _, rfl, a, w, s, 0, 0, rfl, hw, h1, h2, ?_⟩
  refine ⟨_, rfl, l, rfl, hl, fun H1 S1 => ⟨_, rfl, iteF ?_⟩⟩
  refine ⟨_, rfl, _, rfl, knw_int _, _, rfl, ?_⟩
  rw [wi_int (by omega) hn]
  refine iteF ⟨_, rfl, _, rfl, by show 2 ≤ sizeLine; decide, fun t nt => ⟨by show 1 ≤ sizeLine; decide, fun p np => ?_⟩⟩
  have S2 : Same H (upd (upd H1 t (.tup [.int s, .int n])) p (.lst [.ref t])) := (S1.trans (same_new nt)).trans (same_new np)
  have p0 : H p = none := (S1.trans (same_new nt)).free np
  refine ⟨_, rfl, _, rfl, ?_⟩
  refine for_it walk_str (fun i σ H' => Same H H' ∧ (∃ vs, H' p = some (.lst vs) ∧ Paired (PairV H') vs (alongS w (s, n) l (i + 1))) ∧ ∃ o, σ = [some (.ref a), some (.int (stA w (s, n) (l.take i)).1), some (.str (rowS l)), some (.int ((stA w (s, n) (l.take i)).2 : Nat)), some (.ref p), o])
    ⟨S2, ⟨_, upd_same, .cons ⟨t, rfl, same_new np _ _ upd_same⟩ .nil⟩, _, rfl⟩ (fun _ _ _ _ _ => trivial) ?_ ?_
  · rintro i x σ H1 H' hi ⟨S, ⟨vs, hv, hp⟩, o, rfl⟩ ⟨rfl, c, hc, rfl⟩
    have hi2 : i < l.length := by simpa [rowS, SX.S] using hi
    have hb : l[i]? = some l[i] := List.getElem?_eq_getElem hi2
    generalize l[i] = b at hb
    have ec : c = code b := by
      have : (l.map code)[i]? = some c := by simpa [rowS, SX.S] using hc
      rw [List.getElem?_map, hb] at this
      exact (Option.some.inj this).symm
    have es : V.str ⟨#[c]⟩ = V.str (sgn b) := by rw [ec]; cases b <;> decide +kernel
    have hvl : vs.length = i + 1 := by have := paired_len hp; rw [this, alongS, List.length_map, List.length_range]
    have nx : stA w (s, n) (l.take (i + 1)) = stepA w (stA w (s, n) (l.take i)) b := by rw [take_snoc hb, stA, List.foldl_append]; rfl
    show tSeq _ _ _ (List.set _ 5 _) _
    rw [es]
    have fin : ∀ s' : Int, s' = (stepA w (stA w (s, n) (l.take i)) b).1 → ∀ (R : L2.St → Hp → Prop), (∀ σ' H'', (Same H H'' ∧ (∃ vs, H'' p = some (.lst vs) ∧ Paired (PairV H'') vs (alongS w (s, n) l (i + 1 + 1))) ∧ ∃ o, σ' = [some (.ref a), some (.int (stA w (s, n) (l.take (i + 1))).1), some (.str (rowS l)), some (.int ((stA w (s, n) (l.take (i + 1))).2 : Nat)), some (.ref p), o]) → R σ' H'') →
        ∀ t, H' t = none → ∀ H'', H'' = upd H' t (.tup [.int s', .int (w.nxt b (stA w (s, n) (l.take i)).2 : Nat)]) →
          H'' p = some (.lst vs) ∧ R [some (.ref a), some (.int s'), some (.str (rowS l)), some (.int (w.nxt b (stA w (s, n) (l.take i)).2 : Nat)), some (.ref p), some (.str (sgn b))] (upd H'' p (.lst (vs ++ [.ref t]))) := by
      intro s' es' R hR t nt H'' eH
      have S3 : Same H' H'' := by rw [eH]; exact same_new nt
      have hv3 := S3 _ _ hv
      refine ⟨hv3, hR _ _ ⟨Same.mut (S.trans S3) p0, ⟨_, upd_same, ?_⟩, some (.str (sgn b)), ?_⟩⟩
      · have T3 : Tup H' (upd H'' p (.lst (vs ++ [.ref t]))) := (Tup.of S3).trans (Tup.upd fun vs' e => by rw [hv3] at e; cases e)
        rw [alongS, List.range_succ, List.map_append]
        refine paired_snoc (Paired.mapP hp fun _ _ => PairV.tup T3) ⟨t, rfl, ?_⟩
        have tp : t ≠ p := fun z => by rw [z, hv] at nt; cases nt
        rw [upd_ne tp, eH, upd_same]
        dsimp only
        rw [nx, es']; rfl
      · rw [nx, es']; rfl
    refine ⟨_, rfl, rfl, _, rfl, ?_⟩
    rw [sgn_dot]
    cases b with
    | true =>
      refine iteT ⟨_, rfl, _, rfl, _, rfl, a, w, _, _, rfl, hw.mono S, ?_⟩
      refine ⟨_, rfl, _, rfl, _, rfl, a, w, true, _, rfl, hw.mono S, ?_⟩
      refine ⟨_, rfl, .inl ⟨rfl, _, SqL.of hv⟩, _, rfl, _, rfl, by show 2 ≤ sizeLine; decide, fun t nt => ?_⟩
      have := fin _ rfl _ (fun σ' H'' z => z) t nt _ rfl
      exact ⟨p, vs, _, rfl, rfl, this.1, by rw [hvl]; exact small1000 (by omega), this.2⟩
    | false =>
      refine iteF ⟨_, rfl, _, rfl, a, w, _, rfl, hw.mono S, ?_⟩
      refine ⟨_, rfl, _, rfl, _, rfl, a, w, false, _, rfl, hw.mono S, ?_⟩
      refine ⟨_, rfl, .inl ⟨rfl, _, SqL.of hv⟩, _, rfl, _, rfl, by show 2 ≤ sizeLine; decide, fun t nt => ?_⟩
      have := fin _ rfl _ (fun σ' H'' z => z) t nt _ rfl
      exact ⟨p, vs, _, rfl, rfl, this.1, by rw [hvl]; exact small1000 (by omega), this.2⟩
  · rintro σ H' ⟨S, ⟨vs, hv, hp⟩, o, rfl⟩
    have e : (rowS l).cps.size = l.length := by simp [rowS, SX.S]
    rw [e] at hp
    exact ⟨_, rfl, q _ p vs S hv hp⟩
end
end WH

set_option maxHeartbeats 4000000
namespace WH
open PySem PySem.Spec PyProof.Rows L2
section
variable {P : Program} {w : World} {K : PySem.W.Frag} {mg : Str → Option Value} {base : Heap}
abbrev cTM (K : PySem.W.Frag) : Addr := He.ga K "TooMany"
def spAlike (K : PySem.W.Frag) : Sp := fun vs H Q E => ∃ a1 w1 s a2 w2 f m, vs = [.ref a1, .int s, .ref a2, .int f, .int (m : Nat)] ∧ WaneAt K H a1 w1 ∧ WaneAt K H a2 w2 ∧ 1 ≤ s ∧ s ≤ w1.cap ∧ 1 ≤ f ∧ f ≤ w2.cap ∧ 1 ≤ m ∧ m ≤ 400 ∧
  (∀ k row p H' t, k < m → Clean w1 w2 s f k → (run w1 w2 s f k)[k]? = some (row, p) → parts p = true → Same H H' → H' t = some (.tup [.str "parted", .str (rowS row)]) → Q (.ref t) H') ∧
  (∀ k H' t l vs, Clean w1 w2 s f k → k = (run w1 w2 s f k).length → k ≤ m → Same H H' → H l = none → H' t = some (.tup [.str "alike", .ref l]) → H' l = some (.lst vs) → Paired (RowV H') vs (run w1 w2 s f k) → Q (.ref t) H') ∧
  (∀ d H', Clean w1 w2 s f m → m < (run w1 w2 s f m).length → Same H H' → H' d = some (.xd [("most", .int (m : Nat))]) → E (.ref (cTM K)) (some d) H')
def Ri (R : List Row) (w1 w2 : WN) (r : Row) : Nat → List Row
  | 0 => R
  | 1 => addR R (stp w1 w2 r true)
  | _ => addR (addR R (stp w1 w2 r true)) (stp w1 w2 r false)
theorem sttV_non {H : Hp} {v : V} : ∀ {st : Stt}, SttV H v st → decide (v = .non) = st.isNone
  | none, h => by have h : v = .non := h; subst h; rfl
  | some p, ⟨b, e, h⟩ => by subst e; rfl
theorem paired_at {α β : Type} {F : α → β → Prop} : ∀ {xs : List α} {ys : List β} {i : Nat} {y : β}, Paired F xs ys → ys[i]? = some y → ∃ x, xs[i]? = some x ∧ F x y
  | _, _, _, _, .nil, e => by simp at e
  | _, _, 0, _, .cons r _, e => by simp at e; subst e; exact ⟨_, rfl, r⟩
  | _, _, i + 1, x, .cons _ t, e => by
    obtain ⟨u, h1, h2⟩ := paired_at (i := i) (y := x) t (by simpa using e)
    exact ⟨u, by simpa using h1, h2⟩
theorem parts_eq {H : Hp} {v1 v2 : V} {q : Stt × Stt} (h1 : SttV H v1 q.1) (h2 : SttV H v2 q.2) : (!decide (V.bl (decide (v1 = .non)) = V.bl (decide (v2 = .non)))) = parts q := by
  rw [sttV_non h1, sttV_non h2, parts]
  cases q.1.isNone <;> cases q.2.isNone <;> rfl
/-- the new row stands -/
theorem AI.add {H0 H H1 H2 H3 : Hp} {lr dk p t1 t2 : Addr} {R : List Row} {q : Row} {v1 v2 : V} {vs : List V} {xs : List ND.Ent} (a : AI P w H0 H lr dk R)
    (hv : H lr = some (.lst vs)) (hx : H dk = some (ND.ndO P w dk xs)) (hk : ND.Keys H xs) (ek : xs.map (·.1) = R.map fun r => pairK r.2)
    (hp : H p = some (.tup [v1, v2])) (s1 : SttV H v1 q.2.1) (s2 : SttV H v2 q.2.2) (hn : q.2 ∉ R.map (·.2))
    (e1 : H1 = upd H dk (ND.ndO P w dk (xs ++ [(pairK q.2, p, .bl true)]))) (n1 : H1 t1 = none) (e2 : H2 = upd H1 t1 (.tup [.str (rowS q.1)])) (n2 : H2 t2 = none) (e3 : H3 = upd H2 t2 (.tup [.str (rowS q.1), v1, v2])) :
    H2 lr = some (.lst vs) ∧ H3 lr = some (.lst vs) ∧ AI P w H0 (upd H3 lr (.lst (vs ++ [.ref t2]))) lr dk (addR R q) ∧ Tup H (upd H3 lr (.lst (vs ++ [.ref t2]))) := by
  obtain ⟨h1, k1, k2, k4, ⟨vs', h5, h6⟩, _⟩ := a
  rw [hv] at h5; cases h5
  have T1 : Tup H H1 := by rw [e1]; exact Tup.upd fun vs e => by rw [hx] at e; cases e
  have S2 : Same H1 H2 := by rw [e2]; exact same_new n1
  have S3 : Same H2 H3 := by rw [e3]; exact same_new n2
  have l1 : H1 lr = some (.lst vs) := by rw [e1, upd_ne k4]; exact hv
  have l3 := S3 _ _ (S2 _ _ l1)
  have T4 : Tup H3 (upd H3 lr (.lst (vs ++ [.ref t2]))) := Tup.upd fun vs e => by rw [l3] at e; cases e
  have TT : Tup H (upd H3 lr (.lst (vs ++ [.ref t2]))) := ((T1.trans (Tup.of S2)).trans (Tup.of S3)).trans T4
  have d1 : H1 dk = some (ND.ndO P w dk (xs ++ [(pairK q.2, p, .bl true)])) := by rw [e1, upd_same]
  have sm : Same H0 H1 := by rw [e1]; exact Same.mut h1 k2
  refine ⟨S2 _ _ l1, l3, ⟨Same.mut ((sm.trans S2).trans S3) k1, k1, k2, k4, ⟨_, upd_same, ?_⟩, ⟨_, by rw [upd_ne (Ne.symm k4)]; exact S3 _ _ (S2 _ _ d1), ?_, ?_⟩⟩, TT⟩
  · unfold addR
    rw [if_neg hn]
    have tl : t2 ≠ lr := fun z => by rw [z, S2 _ _ l1] at n2; cases n2
    exact paired_snoc (Paired.mapP h6 fun _ _ => RowV.tup TT) ⟨t2, v1, v2, rfl, by rw [upd_ne tl, e3, upd_same], s1.tup TT, s2.tup TT⟩
  · intro x hx'
    rcases List.mem_append.mp hx' with hx' | hx'
    · exact hk.mono TT x hx'
    · rw [List.mem_singleton.mp hx']
      exact ⟨pairK_nk (TT _ _ hp) (s1.tup TT) (s2.tup TT), pairK_depth _⟩
  · unfold addR
    rw [if_neg hn, List.map_append, List.map_append, ek]; rfl
theorem fn_alike (T : Txt K mg) {fd : FuncData} (F : FD K d_alike fd) : FnOk P w K mg base (L2.CX P w) 6 (He.fAd K d_alike.at_) fd ["one", "strength", "other", "far", "most"] (spAlike K) := by
  refine F.ok sc_alike (fun vs H Q E h => by obtain ⟨_, _, _, _, _, _, _, rfl, _⟩ := h; rfl) fun cdv A outer s H vs Q E hr h => ?_
  obtain ⟨a1, w1, s, a2, w2, f, m, rfl, hw1, hw2, s1, s2, f1, f2, m1, m2, qP, qA, qT⟩ := h
  refine ⟨_, (pss_cons (ps_expr (C8.pe_c (cal_need_asked T) hr (by decide) rfl (pa_cons (pv 0) (pa_cons (pv 1) (pa_cons (pv 2) (pa_cons (pv 3) (pa_cons (pv 4) pa_nil))))))) (pss_cons (ps_set (i := 5) sc_alike.nd rfl (by first | exact Or.inl rfl | exact Or.inr rfl) (pe_lst (pa_cons (pe_tup (pa_cons pe_str (pa_cons (pe_tup (pa_cons (pv 1) (pa_cons pe_int pa_nil))) (pa_cons (pe_tup (pa_cons (pv 3) (pa_cons pe_int pa_nil))) pa_nil)))) pa_nil))) (pss_cons (ps_set (i := 6) sc_alike.nd rfl (by first | exact Or.inl rfl | exact Or.inr rfl) (ND.pe_none hr (pe_slice sl_tup (pe_ix ix_list (pv 5) pe_int (fun _ _ => rfl)) (po_some pe_int) po_none) pe_bl)) (pss_cons (ps_set (i := 7) sc_alike.nd rfl (by first | exact Or.inl rfl | exact Or.inr rfl) pe_int) (pss_cons (ps_while (passes_of rfl) (pt_cmpR op_lt (pv 7) (pe_callB (call_min2 rfl) (by rfl) T.b_min (by decide +kernel) (pa_cons (pv 4) (pa_cons (pe_callB call_len (by rfl) T.b_len (by decide +kernel) (pa_cons (pv 5) pa_nil)) pa_nil))) (nomark _)) (pss_cons (ps_asg (pe_ix ix_list (pv 5) (pv 7) (fun _ _ => rfl)) (pg_tup rfl (pgs_cons (pg_name (i := 8) sc_alike.nd rfl (by first | exact Or.inl rfl | exact Or.inr rfl)) (pgs_cons (pg_name (i := 9) sc_alike.nd rfl (by first | exact Or.inl rfl | exact Or.inr rfl)) (pgs_cons (pg_name (i := 10) sc_alike.nd rfl (by first | exact Or.inl rfl | exact Or.inr rfl)) pgs_nil))))) (pss_cons (ps_if (pt_cmpR op_ne (pe_cmpR op_isN (pv 9) pe_non (nomark _)) (pe_cmpR op_isN (pv 10) pe_non (nomark _)) (nomark _)) (pss_one (ps_ret (pe_tup (pa_cons pe_str (pa_cons (pv 8) pa_nil))))) pss_nil) (pss_cons (ps_for (passes_of rfl) rfl (pi_str (C8.pe_gc rfl T.c_SIGNS)) (pg_name (i := 11) sc_alike.nd rfl (by first | exact Or.inl rfl | exact Or.inr rfl)) (pss_cons (ps_set (i := 12) sc_alike.nd rfl (by first | exact Or.inl rfl | exact Or.inr rfl) (pe_tup (pa_cons (C8.pe_c (cal_led T) hr (by decide) rfl (pa_cons (pv 0) (pa_cons (pv 9) (pa_cons (pv 11) pa_nil)))) (pa_cons (C8.pe_c (cal_led T) hr (by decide) rfl (pa_cons (pv 2) (pa_cons (pv 10) (pa_cons (pv 11) pa_nil)))) pa_nil)))) (pss_one (ps_if (pt_cmp (ND.pc_nnotin hr (pv 12) (pv 6)) (by rfl)) (pss_cons (ND.ps_nput hr (pv 6) (pv 12) pe_bl) (pss_one (ps_expr (pe_bm PySem.F.plainAttrs_list PySem.F.slot_list_append PySem.F.type_list_append mt_append (pv 5) (pa_cons (pe_op op_catT (pe_tup (pa_cons (pe_op op_add_str (pv 8) (pv 11)) pa_nil)) (pv 12)) pa_nil))))) pss_nil)))) (pss_one (ps_aug (i := 7) sc_alike.nd rfl (by first | exact Or.inl rfl | exact Or.inr rfl) pe_int ip_add)))))) (pss_cons (ps_if (pt_cmpR op_gt (pe_callB call_len (by rfl) T.b_len (by decide +kernel) (pa_cons (pv 5) pa_nil)) (pv 4) (nomark _)) (pss_one (ps_raise rfl (takes_of rfl rfl rfl rfl) (EX.pmk_f (fI := He.ma K (He.ga K "TooMany") "__init__") T.x_TooMany T.xi_TooMany (exc_TooMany T) hr (by decide) rfl T.g_TooMany (pa_cons (pv 4) pa_nil)))) pss_nil) (pss_one (ps_ret (pe_tup (pa_cons pe_str (pa_cons (pv 5) pa_nil))))))))))), ?_⟩
  refine ⟨_, rfl, _, rfl, _, rfl, _, rfl, _, rfl, a1, w1, s, a2, w2, f, _, rfl, hw1, hw2, s1, s2, f1, f2, by omega, by omega, fun H1 S1 => ?_⟩
  refine ⟨_, rfl, by show 2 ≤ sizeLine; decide, fun t1 n1 => ?_⟩
  refine ⟨_, rfl, by show 2 ≤ sizeLine; decide, fun t2 n2 => ?_⟩
  refine ⟨by show 3 ≤ sizeLine; decide, fun t3 n3 => ⟨by show 1 ≤ sizeLine; decide, fun lr n4 => ?_⟩⟩
  have E1 : Same H1 (upd (upd (upd H1 t1 (.tup [.int s, .int 0])) t2 (.tup [.int f, .int 0])) t3 (.tup [.str "", .ref t1, .ref t2])) := ((same_new n1).trans (same_new n2)).trans (same_new n3)
  have g1 : (upd (upd (upd H1 t1 (.tup [.int s, .int 0])) t2 (.tup [.int f, .int 0])) t3 (.tup [.str "", .ref t1, .ref t2])) t1 = some (.tup [.int s, .int 0]) := same_new n3 _ _ (same_new n2 _ _ upd_same)
  have g2 : (upd (upd (upd H1 t1 (.tup [.int s, .int 0])) t2 (.tup [.int f, .int 0])) t3 (.tup [.str "", .ref t1, .ref t2])) t2 = some (.tup [.int f, .int 0]) := same_new n3 _ _ upd_same
  have g3 : (upd (upd (upd H1 t1 (.tup [.int s, .int 0])) t2 (.tup [.int f, .int 0])) t3 (.tup [.str "", .ref t1, .ref t2])) t3 = some (.tup [.str "", .ref t1, .ref t2]) := upd_same
  generalize (upd (upd (upd H1 t1 (.tup [.int s, .int 0])) t2 (.tup [.int f, .int 0])) t3 (.tup [.str "", .ref t1, .ref t2])) = G at E1 g1 g2 g3 n4 ⊢
  have S2 : Same H G := S1.trans E1
  have l0 : H lr = none := S2.free n4
  -- known
  intro dk n5
  have g4 : upd G lr (.lst [.ref t3]) dk = none := n5
  have S3 : Same G (upd (upd G lr (.lst [.ref t3])) dk (ND.ndO P w dk [])) := (same_new n4).trans (same_new n5)
  have hl : (upd (upd G lr (.lst [.ref t3])) dk (ND.ndO P w dk [])) lr = some (.lst [.ref t3]) := same_new n5 _ _ upd_same
  have hd : (upd (upd G lr (.lst [.ref t3])) dk (ND.ndO P w dk [])) dk = some (ND.ndO P w dk []) := upd_same
  have d0 : H dk = none := (S2.trans (same_new n4)).free n5
  have ld : lr ≠ dk := fun z => by rw [← z, upd_same] at n5; cases n5
  have g1 := S3 _ _ g1
  have g2 := S3 _ _ g2
  have g3 := S3 _ _ g3
  have S4 := S2.trans S3
  refine ⟨_, rfl, lr, _, _, _, rfl, rfl, SqL.of hl, rfl, ?_⟩
  refine ⟨_, rfl, t3, _, rfl, SqT.of g3, (show ¬ (HT.sIx 3 0 (some 1) = 0 ∧ HT.sIx 3 3 none = 3) by decide), fun p np => ?_⟩
  have S5 : Same (upd (upd G lr (.lst [.ref t3])) dk (ND.ndO P w dk [])) (upd (upd (upd G lr (.lst [.ref t3])) dk (ND.ndO P w dk [])) p (.tup [.ref t1, .ref t2])) := same_new np
  have hp : (upd (upd (upd G lr (.lst [.ref t3])) dk (ND.ndO P w dk [])) p (.tup [.ref t1, .ref t2])) p = some (.tup [.ref t1, .ref t2]) := upd_same
  refine ⟨S5 _ _ hd, p, pairK (some (s, 0), some (f, 0)), rfl, pairK_nk hp ⟨t1, rfl, S5 _ _ g1⟩ ⟨t2, rfl, S5 _ _ g2⟩, pairK_depth _, ?_⟩
  have g1 := S5 _ _ g1
  have g2 := S5 _ _ g2
  have g3 := S5 _ _ g3
  have hl := S5 _ _ hl
  have hd := S5 _ _ hd
  have S6 := S4.trans S5
  have nk := pairK_nk (q := (some (s, 0), some (f, 0))) hp ⟨t1, rfl, g1⟩ ⟨t2, rfl, g2⟩
  have TT : Tup (upd (upd (upd G lr (.lst [.ref t3])) dk (ND.ndO P w dk [])) p (.tup [.ref t1, .ref t2])) (upd (upd (upd (upd G lr (.lst [.ref t3])) dk (ND.ndO P w dk [])) p (.tup [.ref t1, .ref t2])) dk (ND.ndO P w dk [(pairK (some (s, 0), some (f, 0)), p, .bl true)])) := Tup.upd fun vs e => by rw [hd] at e; cases e
  have A0 : AI P w H (upd (upd (upd (upd G lr (.lst [.ref t3])) dk (ND.ndO P w dk [])) p (.tup [.ref t1, .ref t2])) dk (ND.ndO P w dk [(pairK (some (s, 0), some (f, 0)), p, .bl true)])) lr dk (run w1 w2 s f 0) := by
    refine ⟨Same.mut S6 d0, l0, d0, ld, ⟨_, by rw [upd_ne ld]; exact hl, .cons ⟨t3, _, _, rfl, TT _ _ g3, ⟨t1, rfl, TT _ _ g1⟩, ⟨t2, rfl, TT _ _ g2⟩⟩ .nil⟩, ⟨_, upd_same, fun x hx => ?_, rfl⟩⟩
    rw [List.mem_singleton.mp hx]
    exact ⟨ND.NK.mono TT _ _ nk, pairK_depth _⟩
  have o1 := hw1.ok
  have o2 := hw2.ok
  have ok0 : ∀ k, ∀ r ∈ run w1 w2 s f k, okRow w1 w2 k r := run_ok o1 o2 ⟨s1, s2, by have := o1.tpos; omega⟩ ⟨f1, f2, by have := o2.tpos; omega⟩
  -- the loop
  refine ⟨fun n σ H' => ∃ k o8 o9 o10 o11 o12, n = m - k ∧ k ≤ m ∧ k ≤ (run w1 w2 s f k).length ∧ Clean w1 w2 s f k ∧ AI P w H H' lr dk (run w1 w2 s f k) ∧
    σ = [some (.ref a1), some (.int s), some (.ref a2), some (.int f), some (.int (m : Nat)), some (.ref lr), some (.ref dk), some (.int (k : Nat)), o8, o9, o10, o11, o12],
    ⟨m, 0, _, _, _, _, _, rfl, Nat.zero_le _, Nat.zero_le _, fun j hj => absurd hj (Nat.not_lt_zero _), A0, rfl⟩, ?_⟩
  rintro n σ H' ⟨k, o8, o9, o10, o11, o12, rfl, km, kl, cl, A1, rfl⟩
  obtain ⟨vs, hv, hr'⟩ := A1.rows
  have hlen := paired_len hr'
  have hrl := run_len w1 w2 s f k
  refine ⟨_, rfl, _, rfl, _, rfl, _, _, rfl, .inl ⟨_, SqL.of hv, rfl⟩, _, _, rfl, _, _, rfl, rfl, _, rfl, ?_⟩
  refine ite2 (fun c => ?_) (fun c => ?_)
  · -- a turn
    have c := of_decide_eq_true c
    have km' : k < m := by split at c <;> omega
    have kl' : k < (run w1 w2 s f k).length := by split at c <;> omega
    have hk : (run w1 w2 s f k)[k]? = some (run w1 w2 s f k)[k] := List.getElem?_eq_getElem kl'
    generalize (run w1 w2 s f k)[k] = r at hk
    obtain ⟨x, hx, t, v1, v2, rfl, ht, sv1, sv2⟩ := paired_at hr' hk
    have okr := ok0 k r (List.mem_of_getElem? hk)
    refine ⟨fun σ H' => ∃ k' o8 o9 o10 o11 o12, k' = k + 1 ∧ k' ≤ (run w1 w2 s f k').length ∧ Clean w1 w2 s f k' ∧ AI P w H H' lr dk (run w1 w2 s f k') ∧
      σ = [some (.ref a1), some (.int s), some (.ref a2), some (.int f), some (.int (m : Nat)), some (.ref lr), some (.ref dk), some (.int (k' : Nat)), o8, o9, o10, o11, o12],
      fun σ' H'' ⟨k', o8, o9, o10, o11, o12, ek, h1, h2, h3, h4⟩ => ⟨m - k', by omega, k', o8, o9, o10, o11, o12, rfl, by omega, h1, h2, h3, h4⟩, ?_⟩
    refine ⟨_, rfl, _, rfl, lr, vs, _, _, rfl, rfl, SqL.of hv, atI_nat hx, t, _, rfl, SqT.of ht, rfl, _, _, rfl, _, _, rfl, _, _, rfl, rfl, ?_⟩
    refine ⟨_, rfl, rfl, _, rfl, rfl, rfl, _, rfl, ?_⟩
    rw [parts_eq sv1 sv2]
    cases hpq : parts r.2 with
    | true =>
      refine iteT ⟨_, rfl, by show 2 ≤ sizeLine; decide, fun t' nt' => ?_⟩
      exact qP k r.1 r.2 _ t' km' cl hk hpq (A1.same.trans (same_new nt')) upd_same
    | false =>
      refine iteF ?_
      have cl' : Clean w1 w2 s f (k + 1) := fun j hj => by
        by_cases e : j = k
        · rw [e]; exact ⟨r, hk, hpq⟩
        · exact cl j (by omega)
      have er : run w1 w2 s f (k + 1) = Ri (run w1 w2 s f k) w1 w2 r 2 := by
        show (match (run w1 w2 s f k)[k]? with | some r => _ | none => _) = _
        rw [hk]; rfl
      refine ⟨_, rfl, for_it walk_str (fun i σ H'' => ∃ o11 o12, AI P w H H'' lr dk (Ri (run w1 w2 s f k) w1 w2 r i) ∧ SttV H'' v1 r.2.1 ∧ SttV H'' v2 r.2.2 ∧
        σ = [some (.ref a1), some (.int s), some (.ref a2), some (.int f), some (.int (m : Nat)), some (.ref lr), some (.ref dk), some (.int (k : Nat)), some (.str (rowS r.1)), some v1, some v2, o11, o12])
        ⟨_, _, A1, sv1, sv2, rfl⟩ (fun _ _ _ _ _ => trivial) ?_ ?_⟩
      · rintro i x σ Ha Hb hi ⟨o11, o12, A2, u1, u2, rfl⟩ ⟨rfl, c', hc', rfl⟩
        have hi2 : i < 2 := hi
        obtain ⟨b, es, eR⟩ : ∃ b, V.str ⟨#[c']⟩ = V.str (sgn b) ∧ Ri (run w1 w2 s f k) w1 w2 r (i + 1) = addR (Ri (run w1 w2 s f k) w1 w2 r i) (stp w1 w2 r b) := by
          match i, hi2, hc' with
          | 0, _, hc' => exact ⟨true, by have : c' = 46 := (Option.some.inj hc').symm; rw [this]; decide +kernel, rfl⟩
          | 1, _, hc' => exact ⟨false, by have : c' = 97 := (Option.some.inj hc').symm; rw [this]; decide +kernel, rfl⟩
          | n + 2, h, _ => exact absurd h (by omega)
        have hRl : (Ri (run w1 w2 s f k) w1 w2 r i).length ≤ 2 * k + 3 := by
          have a := addR_len (run w1 w2 s f k) (stp w1 w2 r true)
          match i, hi2 with
          | 0, _ => show (run w1 w2 s f k).length ≤ _; omega
          | 1, _ => show (addR (run w1 w2 s f k) (stp w1 w2 r true)).length ≤ _; omega
          | n + 2, h => exact absurd h (by omega)
        rw [eR]
        generalize Ri (run w1 w2 s f k) w1 w2 r i = R at A2 hRl ⊢
        show tSeq _ _ _ (List.set _ 11 _) _
        rw [es]
        obtain ⟨dx1, _, _, e1, _⟩ := id (hw1.mono A2.same)
        refine ⟨_, rfl, _, rfl, _, rfl, a1, w1, v1, _, b, rfl, hw1.mono A2.same, u1, okr.a, fun x1 Hc S7 q1 => ?_⟩
        refine ⟨_, rfl, _, rfl, _, rfl, a2, w2, v2, _, b, rfl, hw2.mono (A2.same.trans S7), u2.mono S7, okr.b, fun x2 Hd S8 q2 => ?_⟩
        refine ⟨by show 2 ≤ sizeLine; decide, fun p np => ?_⟩
        have q1 := (q1.mono S8).mono (same_new np (o := .tup [x1, x2]))
        have q2 := q2.mono (same_new np (o := .tup [x1, x2]))
        have A3 := A2.tup ((S7.trans S8).trans (same_new np (o := .tup [x1, x2])))
        have u1 := u1.mono ((S7.trans S8).trans (same_new np (o := .tup [x1, x2])))
        have u2 := u2.mono ((S7.trans S8).trans (same_new np (o := .tup [x1, x2])))
        have hp : (upd Hd p (.tup [x1, x2])) p = some (.tup [x1, x2]) := upd_same
        generalize upd Hd p (.tup [x1, x2]) = He at q1 q2 A3 u1 u2 hp ⊢
        obtain ⟨vs, hv, hrr⟩ := A3.rows
        obtain ⟨xs, hx, hks, ek⟩ := A3.keys
        have hl1 := paired_len hrr
        have hl2 : xs.length = R.length := by have := congrArg List.length ek; simpa using this
        have nk := pairK_nk (q := (stp w1 w2 r b).2) hp q1 q2
        refine ⟨_, rfl, _, rfl, dk, p, _, xs, rfl, rfl, hx, hks, nk, pairK_depth _, _, rfl, ?_⟩
        show if (!(ND.getN xs (pairK (stp w1 w2 r b).2)).isSome) = true then _ else _
        rw [getN_mem ek]
        by_cases hin : (stp w1 w2 r b).2 ∈ R.map (·.2)
        · rw [decide_eq_true hin]
          refine iteF ⟨_, _, ?_, u1, u2, rfl⟩
          unfold addR
          rw [if_pos hin]; exact A3
        · rw [decide_eq_false hin]
          have gn : ND.getN xs (pairK (stp w1 w2 r b).2) = none := by
            have := getN_mem ek (stp w1 w2 r b).2
            rw [decide_eq_false hin] at this
            cases h : ND.getN xs (pairK (stp w1 w2 r b).2) with
            | none => rfl
            | some _ => rw [h] at this; cases this
          refine iteT ⟨_, rfl, _, rfl, dk, p, _, xs, rfl, rfl, hx, hks, nk, pairK_depth _, small1000 (by omega), gn, ?_⟩
          have hlv : upd He dk (ND.ndO P w dk (xs ++ [(pairK (stp w1 w2 r b).2, p, .bl true)])) lr = some (.lst vs) := by rw [upd_ne A3.ne]; exact hv
          have hpp : upd He dk (ND.ndO P w dk (xs ++ [(pairK (stp w1 w2 r b).2, p, .bl true)])) p = some (.tup [x1, x2]) := by
            rw [upd_ne (fun z => by rw [z, hx] at hp; cases hp)]; exact hp
          have hrow : (rowS r.1).length ≤ 400 := by rw [rowS_len]; have := okr.l; omega
          have esg : (sgn b).length = 1 := by rw [sgn_row, rowS_len]; rfl
          refine ⟨_, rfl, .inl ⟨rfl, _, SqL.of hlv⟩, _, rfl, _, rfl, _, _, rfl, rfl, by rw [esg]; exact Nat.le_of_lt (small1000 (by omega)), by show 1 ≤ sizeLine; decide, fun t1 n1 => ?_⟩
          have er1 : rowS r.1 ++ sgn b = rowS (stp w1 w2 r b).1 := by rw [sgn_row, rowS_app]; rfl
          refine ⟨_, rfl, t1, p, _, _, rfl, rfl, SqT.of upd_same, SqT.of (same_new n1 _ _ hpp), by simp, by show 3 ≤ sizeLine; decide, (fun z => nomatch z), fun _ t2 n2 => ?_⟩
          obtain ⟨m1', m2', m3', m4'⟩ := A3.add (H3 := upd _ t2 (.tup [.str (rowS r.1 ++ sgn b), x1, x2])) hv hx hks ek hp q1 q2 hin rfl n1 (by rw [← er1]; rfl) n2 (by rw [← er1])
          exact ⟨lr, vs, _, rfl, rfl, m2', by rw [hl1]; exact small1000 (by omega), _, _, m3', u1.tup m4', u2.tup m4', rfl⟩
      · rintro σ Ha ⟨o11, o12, A2, u1, u2, rfl⟩
        refine ⟨_, rfl, _, _, rfl, rfl, k + 1, _, _, _, _, _, rfl, ?_, cl', ?_, rfl⟩
        · rw [er]
          have a := addR_len (run w1 w2 s f k) (stp w1 w2 r true)
          have b := addR_len (addR (run w1 w2 s f k) (stp w1 w2 r true)) (stp w1 w2 r false)
          show k + 1 ≤ (addR (addR (run w1 w2 s f k) (stp w1 w2 r true)) (stp w1 w2 r false)).length
          omega
        · rw [er]; exact A2
  · have c : ¬ ((k : Int) < if ((vs.length : Nat) : Int) < (m : Int) then ((vs.length : Nat) : Int) else (m : Int)) := fun z => c (decide_eq_true z)
    have c2 : m ≤ k ∨ (run w1 w2 s f k).length ≤ k := by split at c <;> omega
    refine ⟨_, rfl, _, _, rfl, .inl ⟨_, SqL.of hv, rfl⟩, _, rfl, _, _, rfl, rfl, _, rfl, ?_⟩
    refine ite2 (fun c' => ?_) (fun c' => ?_)
    · have c' := of_decide_eq_true c'
      have ekm : k = m := by omega
      subst ekm
      refine ⟨_, rfl, EX.mkO_use fun d H'' S9 hd9 _ => ?_⟩
      exact qT d H'' cl (by omega) (A1.same.trans S9) hd9
    · have c' : ¬ ((m : Int) < (vs.length : Nat)) := fun z => c' (decide_eq_true z)
      refine ⟨_, rfl, by show 2 ≤ sizeLine; decide, fun t' nt' => ?_⟩
      exact qA k _ t' lr vs cl (by omega) km (A1.same.trans (same_new nt')) l0 upd_same (same_new nt' _ _ hv) (Paired.mapP hr' fun _ _ => RowV.tup (Tup.of (same_new nt')))
end
end WH

set_option maxHeartbeats 4000000
namespace WH
open PySem PySem.Spec PyProof.Rows L2
/-! ### the bag that draws -/
/-- all but what stands at b is as it was -/
def But (b : Addr) (H H' : Hp) : Prop := ∀ q o, q ≠ b → H q = some o → H' q = some o
theorem But.refl (b : Addr) (H : Hp) : But b H H := fun _ _ _ h => h
theorem But.trans {b : Addr} {H H1 H2 : Hp} (x : But b H H1) (y : But b H1 H2) : But b H H2 := fun q o n h => y q o n (x q o n h)
theorem But.of {b : Addr} {H H' : Hp} (s : Same H H') : But b H H' := fun q o _ h => s q o h
theorem But.upd {b : Addr} {H : Hp} {o : HO} : But b H (upd H b o) := fun q u n h => by rw [upd_ne n]; exact h
/-- a bag at b, its cells at c -/
structure BagC (H : Hp) (b : Addr) (cur seed idx : Int) (c : Addr) (ns : List Int) : Prop where
  b : H b = some (.lst [.int cur, .int seed, .int idx, .ref c])
  c : H c = some (.lst (ns.map V.int))
  h1 : 0 ≤ cur
  h2 : 0 ≤ seed
  h3 : 0 ≤ idx
  ns : ∀ n ∈ ns, 0 ≤ n
def Bag (H : Hp) (b c : Addr) : Prop := ∃ cur seed idx ns, BagC H b cur seed idx c ns
theorem BagC.ne {H : Hp} {b : Addr} {cur seed idx : Int} {c : Addr} {ns : List Int} (g : BagC H b cur seed idx c ns) : c ≠ b := fun z => by
  have h := g.c
  rw [z, g.b] at h
  match ns, h with
  | [], h => cases h
  | [_], h => cases h
  | [_, _], h => cases h
  | [_, _, _], h => cases h
  | _ :: _ :: _ :: _ :: _, h => simp at h
theorem BagC.put {H : Hp} {b : Addr} {cur seed idx : Int} {c : Addr} {ns : List Int} (g : BagC H b cur seed idx c ns) {cur' seed' idx' : Int} (h1 : 0 ≤ cur') (h2 : 0 ≤ seed') (h3 : 0 ≤ idx') :
    BagC (upd H b (.lst [.int cur', .int seed', .int idx', .ref c])) b cur' seed' idx' c ns := ⟨upd_same, by rw [upd_ne g.ne]; exact g.c, h1, h2, h3, g.ns⟩
section
variable {P : Program} {w : World} {K : PySem.W.Frag} {mg : Str → Option Value} {base : Heap}
def spTake : Sp := fun vs H Q _ => ∃ b c many, vs = [.ref b, .int many] ∧ Bag H b c ∧ 0 < many ∧ many < 1073741824 ∧ ∀ v H', 0 ≤ v → v < many → But b H H' → Bag H' b c → Q (.int v) H'
theorem cal__law_take (T : Txt K mg) : C8.Cal P w K mg base 1 "_law_take" spTake [] := by
  refine calD T.f__law_take T.g__law_take sc__law_take (fun fd F => F.bindsN fun _ _ _ _ _ _ us hl => match us, hl with | [_, _], _ => rfl) (fun vs H Q E h => by obtain ⟨_, _, _, rfl, _⟩ := h; rfl) fun cdv A outer s H vs Q E hr h => ?_
  refine ⟨_, (C8.pss_cut (ps_if (pt_cmpR op_eq (pe_ix ix_list (pv 0) pe_int (fun _ _ => rfl)) pe_int (nomark _)) (pss_cons (ps_set (i := 2) sc__law_take.nd rfl (by first | exact Or.inl rfl | exact Or.inr rfl) pe_int) (C8.pss_cut (ps_if (pt_cmpR op_lt (pe_ix ix_list (pv 0) pe_int (fun _ _ => rfl)) (pe_callB call_len (by rfl) T.b_len (by decide +kernel) (pa_cons (pe_ix ix_list (pv 0) pe_int (fun _ _ => rfl)) pa_nil)) (nomark _)) (pss_one (ps_set (i := 2) sc__law_take.nd rfl (by first | exact Or.inl rfl | exact Or.inr rfl) (pe_ix ix_list (pe_ix ix_list (pv 0) pe_int (fun _ _ => rfl)) (pe_ix ix_list (pv 0) pe_int (fun _ _ => rfl)) (fun _ _ => rfl)))) pss_nil) (pss_cons (ps_augS (pv 0) pe_int ND.get_list pe_int ip_add set_list) (C8.pss_cut (ps_if (pt_cmpR op_ge (pv 2) pe_int (nomark _)) (pss_one (ps_asg (pv 2) (pg_sub (pv 0) pe_int set_list))) pss_nil) (pss_one (ps_asg (pe_op op_mod (pe_op op_add (pe_op op_add (pe_op op_mul (pe_ix ix_list (pv 0) pe_int (fun _ _ => rfl)) pe_int) (pe_op op_mod (pv 2) pe_int)) (pe_op op_mul pe_int (pe_ix ix_list (pv 0) pe_int (fun _ _ => rfl)))) pe_int) (pg_sub (pv 0) pe_int set_list))))))) pss_nil) (pss_cons (ps_if (pt_cmpR op_gt (pe_ix ix_list (pv 0) pe_int (fun _ _ => rfl)) pe_int (nomark _)) (pss_cons (ps_set (i := 3) sc__law_take.nd rfl (by first | exact Or.inl rfl | exact Or.inr rfl) (pe_op op_mod (pe_ix ix_list (pv 0) pe_int (fun _ _ => rfl)) (pv 1))) (pss_cons (ps_asg (pe_op op_fdiv (pe_ix ix_list (pv 0) pe_int (fun _ _ => rfl)) (pv 1)) (pg_sub (pv 0) pe_int set_list)) (pss_one (ps_ret (pv 3))))) pss_nil) (pss_cons (ps_set (i := 4) sc__law_take.nd rfl (by first | exact Or.inl rfl | exact Or.inr rfl) (pe_op op_mod (pe_op op_mul (pe_op op_add (pe_ix ix_list (pv 0) pe_int (fun _ _ => rfl)) pe_int) pe_int) pe_int)) (pss_cons (ps_set (i := 5) sc__law_take.nd rfl (by first | exact Or.inl rfl | exact Or.inr rfl) (pe_op op_mod (pe_op op_mul (pe_op op_mod (pe_op op_mul (pv 4) (pv 4)) pe_int) pe_int) pe_int)) (pss_cons (ps_if (pt_cmpR op_gt (pv 1) pe_int (nomark _)) (pss_one (ps_ret (pe_op op_mod (pe_op op_add (pe_op op_mul (pv 5) pe_int) (pv 4)) (pv 1)))) pss_nil) (pss_one (ps_ret (pe_op op_mod (pe_op op_fdiv (pv 5) pe_int) (pv 1))))))))), ?_⟩
  obtain ⟨b, c, many, rfl, ⟨cur, seed, idx, ns, g⟩, m1, m2, q⟩ := h
  refine ⟨fun σ H' => ∃ o2, σ = [some (.ref b), some (.int many), o2, none, none, none] ∧ But b H H' ∧ ∃ cur seed idx, BagC H' b cur seed idx c ns, ?_, ?_⟩
  · refine ⟨_, rfl, b, _, _, _, rfl, rfl, SqL.of g.b, rfl, rfl, _, rfl, ite2 (fun z => ?_) fun z => ?_⟩
    · -- a cell
      refine ⟨fun σ H' => ∃ cell, σ = [some (.ref b), some (.int many), some (.int cell), none, none, none] ∧ H' = H ∧ 0 ≤ cell, ?_, ?_⟩
      · refine ⟨_, rfl, b, _, _, _, rfl, rfl, SqL.of g.b, rfl, _, rfl, b, _, _, _, rfl, rfl, SqL.of g.b, rfl, _, _, rfl, .inl ⟨_, SqL.of g.c, rfl⟩, _, _, rfl, rfl, _, rfl, ite2 (fun y => ?_) fun y => ?_⟩
        · have y := of_decide_eq_true y
          have h3 := g.h3
          rw [List.length_map] at y
          obtain ⟨k, rfl⟩ := Int.eq_ofNat_of_zero_le h3
          have hk : k < ns.length := by omega
          refine ⟨_, rfl, b, _, _, _, rfl, rfl, SqL.of g.b, rfl, _, rfl, b, _, _, _, rfl, rfl, SqL.of g.b, rfl, c, _, _, _, rfl, rfl, SqL.of g.c, atI_nat (by rw [List.getElem?_map, List.getElem?_eq_getElem hk]; rfl), _, rfl, rfl, g.ns _ (List.getElem_mem hk)⟩
        · exact ⟨0, rfl, rfl, Int.le_refl _⟩
      · rintro σ H' ⟨cell, rfl, rfl, c0⟩
        have h3 := g.h3
        refine ⟨_, rfl, b, _, _, _, rfl, rfl, by decide, SqL.of g.b, rfl, _, _, rfl, rfl, b, _, _, _, rfl, rfl, g.b, rfl, ?_⟩
        have g2 := g.put g.h1 g.h2 (show 0 ≤ idx + 1 by omega)
        have s2 : But b H' (upd H' b (.lst [.int cur, .int seed, .int (idx + 1), .ref c])) := But.upd
        show C8.tCut _ _ _ _ (upd H' b (.lst [.int cur, .int seed, .int (idx + 1), .ref c]))
        generalize upd H' b (.lst [.int cur, .int seed, .int (idx + 1), .ref c]) = H2 at g2 s2
        refine ⟨fun σ H'' => ∃ cur', σ = [some (.ref b), some (.int many), some (.int cell), none, none, none] ∧ But b H' H'' ∧ BagC H'' b cur' seed (idx + 1) c ns, ?_, ?_⟩
        · refine ⟨_, rfl, _, _, rfl, rfl, _, rfl, ite2 (fun y => ?_) fun y => ?_⟩
          · refine ⟨_, rfl, _, rfl, b, _, _, _, rfl, rfl, g2.b, rfl, cell, rfl, s2.trans But.upd, g2.put c0 g2.h2 g2.h3⟩
          · exact ⟨cur, rfl, s2, g2⟩
        · rintro σ H3 ⟨cur', rfl, s3, g3⟩
          refine ⟨_, rfl, b, _, _, _, rfl, rfl, SqL.of g3.b, rfl, _, _, rfl, rfl, .inr ⟨by decide, by decide⟩, _, rfl, _, _, rfl, rfl, by show (0 : Int) < 2147483647; decide, _, _, rfl, rfl, ?_⟩
          refine ⟨_, rfl, b, _, _, _, rfl, rfl, SqL.of g3.b, rfl, _, _, rfl, rfl, .inl ⟨by decide, by decide⟩, _, _, rfl, rfl, _, _, rfl, rfl, by show (0 : Int) < 2147483647; decide, ?_⟩
          refine ⟨_, rfl, b, _, _, _, rfl, rfl, g3.b, rfl, _, rfl, s3.trans But.upd, cur', _, idx + 1, g3.put g3.h1 (Int.emod_nonneg _ (by decide)) g3.h3⟩
    · exact ⟨_, rfl, But.refl _ _, cur, seed, idx, g⟩
  · rintro σ H' ⟨o2, rfl, s, cur, seed, idx, g⟩
    have hb := g.b
    refine ⟨_, rfl, b, _, _, _, rfl, rfl, SqL.of hb, rfl, _, _, rfl, rfl, _, rfl, ite2 (fun z => ?_) fun z => ?_⟩
    · refine ⟨_, rfl, b, _, _, _, rfl, rfl, SqL.of hb, rfl, _, rfl, _, _, rfl, rfl, m1, ?_⟩
      refine ⟨_, rfl, b, _, _, _, rfl, rfl, SqL.of hb, rfl, _, rfl, _, _, rfl, rfl, ⟨m1, m2⟩, ?_⟩
      refine ⟨_, rfl, b, _, _, _, rfl, rfl, hb, rfl, _, rfl, ?_⟩
      exact q _ _ (Int.emod_nonneg _ (by omega)) (Int.emod_lt_of_pos _ m1) (s.trans But.upd) ⟨_, _, _, ns, g.put (Int.ediv_nonneg g.h1 (by omega)) g.h2 g.h3⟩
    · have hs := g.h2
      refine ⟨_, rfl, b, _, _, _, rfl, rfl, SqL.of hb, rfl, _, _, rfl, rfl, _, _, rfl, rfl, .inr ⟨by decide, by decide⟩, _, _, rfl, rfl, by show (0 : Int) < 1000000007; decide, ?_⟩
      have f1 : 0 ≤ (seed + 1) * 39373 % 1000000007 := Int.emod_nonneg _ (by decide)
      have f2 : (seed + 1) * 39373 % 1000000007 < 1000000007 := Int.emod_lt_of_pos _ (by decide)
      refine ⟨_, rfl, _, rfl, _, _, rfl, rfl, .inl ⟨by omega, by omega⟩, _, _, rfl, rfl, by show (0 : Int) < 998244353; decide, _, _, rfl, rfl, .inr ⟨by decide, by decide⟩, _, _, rfl, rfl, by show (0 : Int) < 998244353; decide, ?_⟩
      refine ⟨_, rfl, _, _, rfl, rfl, _, rfl, ite2 (fun y => ?_) fun y => ?_⟩
      · refine ⟨_, rfl, _, _, rfl, rfl, .inr ⟨by decide, by decide⟩, _, rfl, _, _, rfl, rfl, _, rfl, _, _, rfl, rfl, m1, ?_⟩
        exact q _ _ (Int.emod_nonneg _ (by omega)) (Int.emod_lt_of_pos _ m1) s ⟨_, _, _, ns, g⟩
      · refine ⟨_, rfl, _, _, rfl, rfl, ⟨by decide, by decide⟩, _, rfl, _, _, rfl, rfl, m1, ?_⟩
        exact q _ _ (Int.emod_nonneg _ (by omega)) (Int.emod_lt_of_pos _ m1) s ⟨_, _, _, ns, g⟩
end
end WH

set_option maxHeartbeats 4000000
namespace WH
open PySem PySem.Spec PyProof.Rows L2
section
variable {P : Program} {w : World} {K : PySem.W.Frag} {mg : Str → Option Value} {base : Heap}
theorem But.mut {b p : Addr} {H H' : Hp} {o : HO} (s : But b H H') (n : H p = none) : But b H (L2.upd H' p o) := fun q u nq h => by
  rw [upd_ne (fun z => by rw [z, n] at h; cases h)]; exact s q u nq h
theorem But.same {b : Addr} {H H1 H2 : Hp} (x : But b H H1) (y : Same H1 H2) : But b H H2 := x.trans (But.of y)
theorem Bag.ne {H : Hp} {b c p : Addr} {vs : List V} {xs : List (Int × Int)} (g : Bag H b c) (hv : H p = some (.lst vs)) (hp : Paired (StepV H) vs xs) : p ≠ b := fun z => by
  obtain ⟨_, _, _, _, g⟩ := g
  rw [z, g.b] at hv; cases hv; cases hp with | cons r _ => obtain ⟨q, e, _⟩ := r; cases e
theorem BagC.same {H H' : Hp} {b c : Addr} {cur seed idx : Int} {ns : List Int} (g : BagC H b cur seed idx c ns) (s : Same H H') : BagC H' b cur seed idx c ns := ⟨s _ _ g.b, s _ _ g.c, g.h1, g.h2, g.h3, g.ns⟩
theorem Bag.same {H H' : Hp} {b c : Addr} (g : Bag H b c) (s : Same H H') : Bag H' b c := by
  obtain ⟨x, y, z, ns, g⟩ := g
  exact ⟨_, _, _, _, g.same s⟩
theorem Bag.nb {H : Hp} {b c p : Addr} (g : Bag H b c) (n : H p = none) : p ≠ b := fun z => by
  obtain ⟨_, _, _, _, g⟩ := g
  rw [z, g.b] at n; cases n
theorem Bag.put {H : Hp} {b c p : Addr} {o : HO} (g : Bag H b c) (n : p ≠ b) (m : p ≠ c) : Bag (L2.upd H p o) b c := by
  obtain ⟨x, y, z, ns, g⟩ := g
  exact ⟨x, y, z, ns, by rw [upd_ne (Ne.symm n)]; exact g.b, by rw [upd_ne (Ne.symm m)]; exact g.c, g.h1, g.h2, g.h3, g.ns⟩
theorem StepV.but {H H' : Hp} {b c : Addr} (g : Bag H b c) (s : But b H H') {v : V} {x : Int × Int} (h : StepV H v x) : StepV H' v x := by
  obtain ⟨a, rfl, h⟩ := h
  obtain ⟨_, _, _, _, g⟩ := g
  exact ⟨a, rfl, s _ _ (fun z => by rw [z, g.b] at h; cases h) h⟩
theorem Steps.but {H H' : Hp} {b c : Addr} (g : Bag H b c) (s : But b H H') {a : Addr} {xs : List (Int × Int)} (h : Steps H a xs) : Steps H' a xs := by
  obtain ⟨vs, h, p⟩ := h
  obtain ⟨_, _, _, _, g'⟩ := id g
  refine ⟨vs, s _ _ (fun z => ?_) h, Paired.mapP p fun _ _ => StepV.but g s⟩
  rw [z, g'.b] at h
  cases h
  cases p with
  | cons r _ => obtain ⟨q, e, _⟩ := r; cases e
def okT (x : Int × Int) : Prop := 1 ≤ x.1 ∧ x.1 ≤ 9 ∧ 0 ≤ x.2 ∧ x.2 ≤ 9
theorem okT.s {x : Int × Int} (h : okT x) : okS x := ⟨h.1, h.2.1, h.2.2.1, by have := h.2.2.2; omega⟩
def PlanV (H : Hp) (v : V) (w : WN) : Prop := ∃ p ah at_, v = .ref p ∧ H p = some (.tup [.ref ah, .ref at_, .int w.cap, .int w.lift, .bl w.anew]) ∧ Steps H ah w.head ∧ Steps H at_ w.tail
theorem PlanV.but {H H' : Hp} {b c : Addr} (g : Bag H b c) (s : But b H H') {v : V} {w : WN} (h : PlanV H v w) : PlanV H' v w := by
  obtain ⟨p, ah, at_, rfl, h, s1, s2⟩ := h
  obtain ⟨_, _, _, _, g'⟩ := id g
  exact ⟨p, ah, at_, rfl, s _ _ (fun z => by rw [z, g'.b] at h; cases h) h, s1.but g s, s2.but g s⟩
theorem PlanV.mono {H H' : Hp} (s : Same H H') {v : V} {w : WN} (h : PlanV H v w) : PlanV H' v w := by
  obtain ⟨p, ah, at_, rfl, h, s1, s2⟩ := h
  exact ⟨p, ah, at_, rfl, s _ _ h, s1.mono s, s2.mono s⟩
def spBag (K : PySem.W.Frag) : Sp := fun vs H Q _ => ∃ (a : Addr) (ns : List Int), vs = [.ref a] ∧ SqL K H a (ns.map V.int) ∧ ∀ b c H', Same H H' → H b = none → Bag H' b c → Q (.ref b) H'
theorem cal__law_bag (T : Txt K mg) : C8.Cal P w K mg base 1 "_law_bag" (spBag K) [] := by
  refine calD T.f__law_bag T.g__law_bag sc__law_bag (fun fd F => F.bindsN fun _ _ _ _ _ _ us hl => match us, hl with | [_], _ => rfl) (fun vs H Q E h => by obtain ⟨_, _, rfl, _⟩ := h; rfl) fun cdv A outer s H vs Q E hr h => ?_
  refine ⟨_, (pss_one (ps_ret (pe_lst (pa_cons pe_int (pa_cons pe_int (pa_cons pe_int (pa_cons (pe_lc (own := [("_law_cell", 1)]) (by rfl) sc__law_bag.nd (pi_list (pe_slice sl_list (pv 0) po_none (po_some pe_int))) (blkOk_by (own := [("_law_cell", 1)]) (N := n__law_bag) (sc := defScope s__law_bag) (by decide +kernel)) (fun _ _ _ _ _ => (pg_name (i := 1) sc__law_bag.nd rfl (by first | exact Or.inl rfl | exact Or.inr rfl))) (fun _ _ _ _ _ => pts_nil) (fun _ _ _ _ _ => (pe_callB call_abs (by rfl) T.b_abs (by decide +kernel) (pa_cons (pv 1) pa_nil)))) pa_nil))))))), ?_⟩
  obtain ⟨a, ns, rfl, hs, q⟩ := h
  refine ⟨_, rfl, _, rfl, a, _, rfl, hs, fun l nl => ⟨l, rfl, ⟨_, SqL.of upd_same⟩, fun D nD => ?_⟩⟩
  obtain ⟨ms, ec, el⟩ : ∃ ms : List Int, cutV (ns.map V.int) none (some 63) = ms.map V.int ∧ ms.length ≤ 63 := by
    have e : HT.sIx (ns.map V.int).length (ns.map V.int).length (some 63) = min 63 (ns.map V.int).length := HT.sIx_nat _ _ 63
    refine ⟨(ns.drop 0).take (min 63 (ns.map V.int).length), ?_, ?_⟩
    · unfold cutV
      rw [e, HT.sIx_none, Nat.sub_zero, List.map_take, List.map_drop]
    · rw [List.length_take]; omega
  rw [ec] at nD ⊢
  have s1 : Same H (upd H l (.lst (ms.map V.int))) := same_new nl
  have hl : (upd H l (.lst (ms.map V.int))) l = some (.lst (ms.map V.int)) := upd_same
  generalize (upd H l (.lst (ms.map V.int))) = H1 at s1 hl nD ⊢
  refine lc_list (K := K) (a := l) (xs := ms.map V.int) (fun i H' => Same H1 H' ∧ ∃ ks : List Int, H' D = some (.lst (ks.map V.int)) ∧ ks.length = i ∧ ∀ n ∈ ks, 0 ≤ n) ⟨same_new nD, [], upd_same, rfl, by simp⟩ (fun i H' _ p => SqL.of (p.1 _ _ hl)) ?_ ?_
  · rintro i x H' hi ⟨s2, ks, hk, hkl, hk0⟩
    have hi2 := (List.getElem?_eq_some_iff.mp hi).1
    rw [List.length_map] at hi2
    rw [List.getElem?_map] at hi
    obtain ⟨n, _, rfl⟩ := Option.map_eq_some_iff.mp hi
    refine ⟨rfl, _, rfl, n, rfl, _, hk, ?_, Same.mut s2 nD, ks ++ [if n < 0 then -n else n], ?_, by simp [hkl], ?_⟩
    · rw [List.length_map]; exact small1000 (by omega)
    · rw [upd_same, List.map_append]; rfl
    · intro m hm
      rcases List.mem_append.mp hm with hm | hm
      · exact hk0 m hm
      · rw [List.mem_singleton.mp hm]; split <;> omega
  · rintro H' ⟨s2, ks, hk, hkl, hk0⟩
    refine ⟨by show 4 ≤ sizeLine; decide, fun p np => q p D _ ((s1.trans s2).trans (same_new np)) ((s1.trans s2).free np) ⟨0, 1234567891, 0, ks, upd_same, same_new np _ _ hk, by decide, by decide, by decide, hk0⟩⟩
theorem pick4 {a b c d v : Int} (h0 : 0 ≤ v) (h1 : v < 4) : ∃ y, (y = a ∨ y = b ∨ y = c ∨ y = d) ∧ atI [V.int a, V.int b, V.int c, V.int d] v = some (.int y) := by
  obtain rfl | rfl | rfl | rfl : v = 0 ∨ v = 1 ∨ v = 2 ∨ v = 3 := by omega
  · exact ⟨a, by simp, rfl⟩
  · exact ⟨b, by simp, rfl⟩
  · exact ⟨c, by simp, rfl⟩
  · exact ⟨d, by simp, rfl⟩
def spSteps : Sp := fun vs H Q _ => ∃ b c n, vs = [.ref b, .int (n : Nat)] ∧ n ≤ 24 ∧ Bag H b c ∧ ∀ p xs H', But b H H' → H p = none → Bag H' b c → Steps H' p xs → (∀ x ∈ xs, okT x) → xs.length = n → Q (.ref p) H'
theorem cal__law_steps (T : Txt K mg) : C8.Cal P w K mg base 2 "_law_steps" spSteps [] := by
  refine calD T.f__law_steps T.g__law_steps sc__law_steps (fun fd F => F.bindsN fun _ _ _ _ _ _ us hl => match us, hl with | [_, _], _ => rfl) (fun vs H Q E h => by obtain ⟨_, _, _, rfl, _⟩ := h; rfl) fun cdv A outer s H vs Q E hr h => ?_
  refine ⟨_, (pss_cons (ps_set (i := 2) sc__law_steps.nd rfl (by first | exact Or.inl rfl | exact Or.inr rfl) (pe_lst pa_nil)) (pss_cons (ps_for PassesOwn.never rfl (pi_range1 (by rfl) T.b_range (pa_cons (pv 1) pa_nil)) (pg_name (i := 3) sc__law_steps.nd rfl (by first | exact Or.inl rfl | exact Or.inr rfl)) (pss_cons (ps_set (i := 4) sc__law_steps.nd rfl (by first | exact Or.inl rfl | exact Or.inr rfl) (pe_ix ix_list (pe_lst (pa_cons pe_int (pa_cons pe_int (pa_cons (pe_op op_add pe_int (C8.pe_c (cal__law_take T) hr (by decide) rfl (pa_cons (pv 0) (pa_cons pe_int pa_nil)))) (pa_cons pe_int pa_nil))))) (C8.pe_c (cal__law_take T) hr (by decide) rfl (pa_cons (pv 0) (pa_cons pe_int pa_nil))) (fun _ _ => rfl))) (pss_one (ps_expr (pe_bm PySem.F.plainAttrs_list PySem.F.slot_list_append PySem.F.type_list_append mt_append (pv 2) (pa_cons (pe_tup (pa_cons (pv 4) (pa_cons (C8.pe_c (cal__law_take T) hr (by decide) rfl (pa_cons (pv 0) (pa_cons pe_int pa_nil))) pa_nil))) pa_nil)))))) (pss_one (ps_ret (pv 2))))), ?_⟩
  obtain ⟨b, c, n, rfl, hn, g, q⟩ := h
  have g0 := g
  refine ⟨by decide, fun p np => ?_⟩
  refine ⟨_, rfl, _, rfl, by omega, by omega, for_range (n := n) (fun i σ H' => ∃ vs xs o3 o4, But b H H' ∧ Bag H' b c ∧ H' p = some (.lst vs) ∧ Paired (StepV H') vs xs ∧ (∀ x ∈ xs, okT x) ∧ xs.length = i ∧ σ = [some (.ref b), some (.int (n : Nat)), some (.ref p), o3, o4]) ?_ ?_ ?_⟩
  · exact ⟨[], [], _, _, (But.refl b H).same (same_new np), g.same (same_new np), upd_same, .nil, by simp, rfl, rfl⟩
  · rintro i σ H' hi ⟨vs, xs, o3, o4, s, g, hv, hp, ok, hl, rfl⟩
    have hvl := paired_len hp
    refine ⟨_, rfl, b, c, 3, rfl, g, by decide, by decide, fun v1 H1 a1 a2 s1 g1 => ⟨_, _, rfl, rfl, by show 4 ≤ sizeLine; decide, fun l nl => ?_⟩⟩
    refine ⟨_, rfl, b, c, 4, rfl, g1.same (same_new nl), by decide, by decide, fun v2 H2 r1 r2 s2 g2 => ?_⟩
    have s12 := (s1.same (same_new nl (o := .lst [.int 1, .int 1, .int (1 + v1), .int 9]))).trans s2
    have lb : l ≠ b := fun z => by
      obtain ⟨_, _, _, _, g1⟩ := g1
      rw [z, g1.b] at nl; cases nl
    obtain ⟨by_, hby, e⟩ := pick4 (a := 1) (b := 1) (c := 1 + v1) (d := 9) r1 r2
    refine ⟨l, _, _, _, rfl, rfl, SqL.of (s2 _ _ lb upd_same), e, ?_⟩
    have s3 := s.trans s12
    have pb : p ≠ b := g.ne hv hp
    have pc : p ≠ c := fun z => by rw [z] at np; obtain ⟨_, _, _, _, g⟩ := g0; rw [g.c] at np; cases np
    have hv2 := s12 _ _ pb hv
    refine ⟨_, rfl, .inl ⟨rfl, _, SqL.of hv2⟩, _, rfl, _, rfl, b, c, 3, rfl, g2, by decide, by decide, fun v3 H3 d1 d2 s4 g3 => ⟨by show 2 ≤ sizeLine; decide, fun t nt => ?_⟩⟩
    have s5 := (s12.trans s4).same (same_new nt (o := .tup [.int by_, .int v3]))
    have hv3 := s5 _ _ pb hv
    refine ⟨p, vs, _, rfl, rfl, hv3, small1000 (by omega), ?_⟩
    have s6 := (s.trans s5).mut (o := .lst (vs ++ [.ref t])) np
    have g4 : Bag (upd (upd H3 t (.tup [.int by_, .int v3])) p (.lst (vs ++ [.ref t]))) b c := (g3.same (same_new nt)).put pb pc
    have tp : t ≠ p := fun z => by rw [z, s4 _ _ pb hv2] at nt; cases nt
    refine ⟨_, xs ++ [(by_, v3)], _, _, s6, g4, upd_same, paired_snoc (Paired.mapP hp fun v x h => ?_) ⟨t, rfl, by rw [upd_ne tp, upd_same]⟩, ?_, by simp [hl], rfl⟩
    · obtain ⟨a, rfl, h'⟩ := h.but g s5
      obtain ⟨_, e, h0⟩ := h
      cases e
      exact ⟨a, rfl, by rw [upd_ne (fun z => by rw [z, hv] at h0; cases h0)]; exact h'⟩
    · intro x hx
      rcases List.mem_append.mp hx with hx | hx
      · exact ok x hx
      · rw [List.mem_singleton.mp hx]
        exact ⟨by show 1 ≤ by_; omega, by show by_ ≤ 9; omega, d1, by show v3 ≤ 9; omega⟩
  · rintro σ H' ⟨vs, xs, o3, o4, s, g, hv, hp, ok, hl, rfl⟩
    exact ⟨_, rfl, q p xs H' s np g ⟨vs, hv, hp⟩ ok hl⟩
end
end WH

set_option maxHeartbeats 4000000
namespace WH
open PySem PySem.Spec PyProof.Rows L2
section
variable {P : Program} {w : World} {K : PySem.W.Frag} {mg : Str → Option Value} {base : Heap}
/-- a drawn plan -/
structure okP (w : WN) : Prop where
  h : ∀ x ∈ w.head, okT x
  hl : w.head.length ≤ 3
  t : ∀ x ∈ w.tail, okT x
  tl : w.tail.length = 1 ∨ w.tail.length = 2 ∨ w.tail.length = 3
  c1 : 1 ≤ w.cap
  c2 : w.cap ≤ 1000
  l1 : 0 ≤ w.lift
  l2 : w.lift ≤ w.cap
def spPlan : Sp := fun vs H Q _ => ∃ b c n, vs = [.ref b, .int n] ∧ 1 ≤ n ∧ n ≤ 1000 ∧ Bag H b c ∧ ∀ v w H', But b H H' → Bag H' b c → PlanV H' v w → okP w → Q v H'
theorem cal__law_plan (T : Txt K mg) : C8.Cal P w K mg base 3 "_law_plan" spPlan [] := by
  refine calD T.f__law_plan T.g__law_plan sc__law_plan (fun fd F => F.bindsN fun _ _ _ _ _ _ us hl => match us, hl with | [_, _], _ => rfl) (fun vs H Q E h => by obtain ⟨_, _, _, rfl, _⟩ := h; rfl) fun cdv A outer s H vs Q E hr h => ?_
  refine ⟨_, (pss_cons (ps_set (i := 2) sc__law_plan.nd rfl (by first | exact Or.inl rfl | exact Or.inr rfl) (C8.pe_c (cal__law_steps T) hr (by decide) rfl (pa_cons (pv 0) (pa_cons (pe_ix ix_list (pe_lst (pa_cons pe_int (pa_cons pe_int (pa_cons pe_int (pa_cons pe_int pa_nil))))) (C8.pe_c (cal__law_take T) hr (by decide) rfl (pa_cons (pv 0) (pa_cons pe_int pa_nil))) (fun _ _ => rfl)) pa_nil)))) (pss_cons (ps_set (i := 3) sc__law_plan.nd rfl (by first | exact Or.inl rfl | exact Or.inr rfl) (C8.pe_c (cal__law_steps T) hr (by decide) rfl (pa_cons (pv 0) (pa_cons (pe_ix ix_list (pe_lst (pa_cons pe_int (pa_cons pe_int (pa_cons pe_int (pa_cons pe_int pa_nil))))) (C8.pe_c (cal__law_take T) hr (by decide) rfl (pa_cons (pv 0) (pa_cons pe_int pa_nil))) (fun _ _ => rfl)) pa_nil)))) (pss_cons (ps_set (i := 4) sc__law_plan.nd rfl (by first | exact Or.inl rfl | exact Or.inr rfl) (pe_op op_add pe_int (C8.pe_c (cal__law_take T) hr (by decide) rfl (pa_cons (pv 0) (pa_cons (pv 1) pa_nil))))) (pss_one (ps_ret (pe_tup (pa_cons (pv 2) (pa_cons (pv 3) (pa_cons (pv 4) (pa_cons (C8.pe_c (cal__law_take T) hr (by decide) rfl (pa_cons (pv 0) (pa_cons (pe_op op_add (pv 4) pe_int) pa_nil))) (pa_cons (pe_cmpR op_eq (C8.pe_c (cal__law_take T) hr (by decide) rfl (pa_cons (pv 0) (pa_cons pe_int pa_nil))) pe_int (nomark _)) pa_nil))))))))))), ?_⟩
  obtain ⟨b, c, n, rfl, n1, n2, g, q⟩ := h
  refine ⟨_, rfl, by show 4 ≤ sizeLine; decide, fun l nl => ?_⟩
  refine ⟨_, rfl, b, c, 4, rfl, g.same (same_new nl), by decide, by decide, fun v1 H1 a1 a2 s1 g1 => ?_⟩
  obtain ⟨y, hy, e⟩ := pick4 (a := 0) (b := 0) (c := 1) (d := 3) a1 a2
  refine ⟨l, _, _, _, rfl, rfl, SqL.of (s1 _ _ (g.nb nl) upd_same), e, ?_⟩
  obtain ⟨m, rfl⟩ : ∃ m : Nat, y = m := Int.eq_ofNat_of_zero_le (by omega)
  refine ⟨b, c, m, rfl, by omega, g1, fun p xs H2 s2 np g2 sh okh lh => ?_⟩
  refine ⟨_, rfl, by show 4 ≤ sizeLine; decide, fun l2 nl2 => ?_⟩
  refine ⟨_, rfl, b, c, 4, rfl, g2.same (same_new nl2), by decide, by decide, fun v2 H3 r1 r2 s3 g3 => ?_⟩
  obtain ⟨y2, hy2, e2⟩ := pick4 (a := 1) (b := 1) (c := 2) (d := 3) r1 r2
  refine ⟨l2, _, _, _, rfl, rfl, SqL.of (s3 _ _ (g2.nb nl2) upd_same), e2, ?_⟩
  obtain ⟨m2, rfl⟩ : ∃ m : Nat, y2 = m := Int.eq_ofNat_of_zero_le (by omega)
  refine ⟨b, c, m2, rfl, by omega, g3, fun p2 xs2 H4 s4 np2 g4 st okt lt => ?_⟩
  have sh := ((sh.mono (same_new nl2 (o := .lst [.int 1, .int 1, .int 2, .int 3]))).but (g2.same (same_new nl2)) s3).but g3 s4
  refine ⟨_, rfl, _, rfl, b, c, n, rfl, g4, by omega, by omega, fun v3 H5 c1 c2 s5 g5 => ⟨_, _, rfl, rfl, ?_⟩⟩
  have sh := sh.but g4 s5
  have st := st.but g4 s5
  refine ⟨_, rfl, _, rfl, _, rfl, _, rfl, _, rfl, _, _, rfl, rfl, b, c, _, rfl, g5, by omega, by omega, fun v4 H6 d1 d2 s6 g6 => ?_⟩
  have sh := sh.but g5 s6
  have st := st.but g5 s6
  refine ⟨_, rfl, b, c, 2, rfl, g6, by decide, by decide, fun v5 H7 e1 e2 s7 g7 => ⟨rfl, by show 5 ≤ sizeLine; decide, fun r nr => ?_⟩⟩
  have sh := (sh.but g6 s7).mono (same_new nr (o := .tup [.ref p, .ref p2, .int (1 + v3), .int v4, .bl (decide (V.int v5 = V.int 0))]))
  have st := (st.but g6 s7).mono (same_new nr (o := .tup [.ref p, .ref p2, .int (1 + v3), .int v4, .bl (decide (V.int v5 = V.int 0))]))
  refine q _ ⟨xs, xs2, 1 + v3, v4, decide (V.int v5 = V.int 0)⟩ _ ?_ (g7.same (same_new nr)) ⟨r, p, p2, rfl, upd_same, sh, st⟩ ⟨okh, by show xs.length ≤ 3; omega, okt, by show xs2.length = 1 ∨ xs2.length = 2 ∨ xs2.length = 3; omega, by show 1 ≤ 1 + v3; omega, by show 1 + v3 ≤ 1000; omega, d1, by show v4 ≤ 1 + v3; omega⟩
  exact (((((((But.of (same_new nl)).trans s1).trans s2).same (same_new nl2)).trans s3).trans s4).trans s5).trans ((s6.trans s7).same (same_new nr))
section
variable {X : Cx} {k j n : Nat} {f C : Addr} {ps ks : List Str} {sp : Sp} {x : Str} {p pos : Pos} {e : Expr} {es : List Expr} {kws : List Keyword} {t tk : TA} {gV : List V → List V → List V} 
theorem pe_mkK (M : Mk X.K C f) (c : ∃ fd g, FnOk X.prog X.w X.K X.mg X.base C8.CX0 k f fd ps sp ∧ KBn X.K fd ps (n + 1) ks g gV) (hr : Room j X.A) (hk : k + 1 ≤ j) (hg : Gl X x) (hm : X.mg x = some (.ref C)) (ha : PA X (e :: es) t) (hkw : PK X kws tk)
    (hall : (backToKw pos (keywordEach kws X.env)).all (·.1.isSome) = true := by rfl) (hks : (backToKw pos (keywordEach kws X.env)).filterMap (·.1) = ks := by rfl) (hdb : (x == ("__debug__" : Str)) = false := by decide)
    (he : starEach (e :: es) X.env = (false, eval e X.env) :: starEach es X.env := by rfl) (hpl : ((backTo pos (starEach (e :: es) X.env)).any (·.1) || (backToKw pos (keywordEach kws X.env)).any (·.1.isNone)) = false := by rfl) :
    PE X (.Call (.Name x p) (e :: es) kws pos) (tMakeK C n ks.length sp gV C8.E0 t tk) := by
  obtain ⟨fd, g, F, b⟩ := c
  exact pe_makeK M F (hr.mono hk) hg hm b C8.pass0 ha hkw hall hks hdb he hpl
end
theorem init_Wane (T : Txt K mg) : ∃ fd g, FnOk P w K mg base C8.CX0 6 (He.ma K (He.ga K "Wane") "__init__") fd ["self", "head", "tail", "cap", "lift", "anew"] (spWInit K) ∧ KBn K fd ["self", "head", "tail", "cap", "lift", "anew"] 3 ["cap", "lift", "anew"] g (fun vs zs => vs ++ zs) := by
  obtain ⟨fd, F⟩ := T.f_Wane___init__
  obtain ⟨mv, b⟩ := F.kbinds0 (ps := ["self", "head", "tail", "cap", "lift", "anew"]) 3 ["cap", "lift", "anew"] [] (fun us _ ws => us ++ ws) (by simp [He.DefD.kws, d_Wane___init__]) (by simp) (fun r1 r2 r3 => ND.paired_app r1 r3) (fun D doc pm an cdv ct us mv ws l1 l2 l3 => by
    match us, ws, l1, l3 with
    | [_, _, _], [_, _, _], _, _ => rfl)
  exact ⟨fd, _, fn_Wane_init T F, b⟩
def spMade (K : PySem.W.Frag) : Sp := fun vs H Q _ => ∃ v w, vs = [v] ∧ PlanV H v w ∧ okW w ∧ ∀ a H', Same H H' → WaneAt K H' a w → (∀ D, H D ≠ none → WaneN K D H' a w) → Q (.ref a) H'
theorem cal__law_made (T : Txt K mg) : C8.Cal P w K mg base 8 "_law_made" (spMade K) [] := by
  refine calD T.f__law_made T.g__law_made sc__law_made (fun fd F => F.bindsN fun _ _ _ _ _ _ us hl => match us, hl with | [_], _ => rfl) (fun vs H Q E h => by obtain ⟨_, _, rfl, _⟩ := h; rfl) fun cdv A outer s H vs Q E hr h => ?_
  refine ⟨_, (pss_one (ps_ret (pe_mkK T.mk_Wane (init_Wane T) hr (by decide) rfl T.g_Wane (pa_cons (pe_callTy call_list_of (by rfl) T.b_list (by decide +kernel) (pa_cons (pe_ix ix_tup (pv 0) pe_int (fun _ _ => rfl)) pa_nil)) (pa_cons (pe_callTy call_list_of (by rfl) T.b_list (by decide +kernel) (pa_cons (pe_ix ix_tup (pv 0) pe_int (fun _ _ => rfl)) pa_nil)) pa_nil)) (pk_cons (pe_ix ix_tup (pv 0) pe_int (fun _ _ => rfl)) (pk_cons (pe_ix ix_tup (pv 0) pe_int (fun _ _ => rfl)) (pk_cons (pe_ix ix_tup (pv 0) pe_int (fun _ _ => rfl)) pk_nil)))))), ?_⟩
  obtain ⟨v, w, rfl, ⟨p, ah, at_, rfl, hp, ⟨vh, hh, ph⟩, ⟨vt, ht, pt⟩⟩, ok, q⟩ := h
  refine ⟨_, rfl, p, _, _, _, rfl, rfl, SqT.of hp, rfl, ah, vh, rfl, .inl (SqL.of hh), fun l nl => ?_⟩
  have s1 := same_new nl (o := .lst vh)
  refine ⟨_, rfl, p, _, _, _, rfl, rfl, SqT.of (s1 _ _ hp), rfl, at_, vt, rfl, .inl (SqL.of (s1 _ _ ht)), fun l2 nl2 => ?_⟩
  have s2 := s1.trans (same_new nl2 (o := .lst vt))
  have hp2 := s2 _ _ hp
  refine ⟨_, rfl, p, _, _, _, rfl, rfl, SqT.of hp2, rfl, _, rfl, p, _, _, _, rfl, rfl, SqT.of hp2, rfl, _, rfl, p, _, _, _, rfl, rfl, SqT.of hp2, rfl, rfl, rfl, fun x dx nx nd ne => ?_⟩
  refine ⟨_, x, dx, l, l2, w, rfl, rfl, nx, nd, ne, ⟨vh, ?_, ?_⟩, ⟨vt, ?_, ?_⟩, ok, fun H' s3 hw hn => ⟨rfl, q x H' (s2.trans s3) hw fun D hD => hn D (by cases hh : H D with | none => exact absurd hh hD | some o => intro e; rw [s2 _ _ hh] at e; cases e)⟩⟩
  · exact same_new nl2 _ _ upd_same
  · exact Paired.mapP ph fun _ _ => StepV.mono s2
  · exact upd_same
  · exact Paired.mapP pt fun _ _ => StepV.mono s2
/-- phases by the law's own reckoning -/
theorem at_app {w : WN} (tp : 1 ≤ w.tail.length) (n : Nat) : (w.head ++ w.tail)[w.phase n]? = some (w.at n) := by
  unfold WN.phase WN.at
  have m := Nat.mod_lt (n - w.head.length) tp
  split
  · rename_i c
    by_cases h : n < w.head.length
    · rw [if_pos h, List.getElem?_append_left h, List.getD_eq_getElem?_getD, List.getElem?_eq_getElem h]; rfl
    · rw [if_neg h, List.getElem?_append_right (by omega), Nat.mod_eq_of_lt (by omega), List.getD_eq_getElem?_getD, List.getElem?_eq_getElem (by omega)]; rfl
  · rename_i c
    rw [if_neg (by omega), List.getElem?_append_right (by omega), Nat.add_sub_cancel_left, List.getD_eq_getElem?_getD, List.getElem?_eq_getElem m]; rfl
end
end WH

set_option maxHeartbeats 4000000
namespace WH
open PySem PySem.Spec PyProof.Rows L2
section
variable {P : Program} {w : World} {K : PySem.W.Frag} {mg : Str → Option Value} {base : Heap}
structure okTwo (w1 : WN) (s : Int) (w2 : WN) (f : Int) : Prop where
  a : okW w1
  b : okW w2
  s1 : 1 ≤ s
  s2 : s ≤ w1.cap
  f1 : 1 ≤ f
  f2 : f ≤ w2.cap
def TwoV (H : Hp) (v : V) (w1 : WN) (s : Int) (w2 : WN) (f : Int) : Prop := ∃ p v1 v2, v = .ref p ∧ H p = some (.tup [v1, .int s, v2, .int f]) ∧ PlanV H v1 w1 ∧ PlanV H v2 w2
theorem TwoV.but {H H' : Hp} {b c : Addr} (g : Bag H b c) (s : But b H H') {v : V} {w1 w2 : WN} {x y : Int} (h : TwoV H v w1 x w2 y) : TwoV H' v w1 x w2 y := by
  obtain ⟨p, v1, v2, rfl, h, s1, s2⟩ := h
  obtain ⟨_, _, _, _, g'⟩ := id g
  exact ⟨p, v1, v2, rfl, s _ _ (fun z => by rw [z, g'.b] at h; cases h) h, s1.but g s, s2.but g s⟩
theorem TwoV.mono {H H' : Hp} (s : Same H H') {v : V} {w1 w2 : WN} {x y : Int} (h : TwoV H v w1 x w2 y) : TwoV H' v w1 x w2 y := by
  obtain ⟨p, v1, v2, rfl, h, s1, s2⟩ := h
  exact ⟨p, v1, v2, rfl, s _ _ h, s1.mono s, s2.mono s⟩
theorem tl_of {n : Nat} (h : n = 1 ∨ n = 2 ∨ n = 3 ∨ n = 4 ∨ n = 6 ∨ n = 8 ∨ n = 12 ∨ n = 24) : (n : Int) ∈ tails := by
  simp [tails]; omega
theorem okP.ok {w : WN} (h : okP w) : okW w := ⟨fun x hx => (h.h x hx).s, by have := h.hl; omega, fun x hx => (h.t x hx).s, tl_of (by have := h.tl; omega), h.c1, by have := h.c2; omega, h.l1, by have := h.l2; have := h.c2; omega⟩
theorem tupB {H H' : Hp} {b c p : Addr} {vs : List V} (g : Bag H b c) (s : But b H H') (h : H p = some (.tup vs)) : H' p = some (.tup vs) := by
  obtain ⟨_, _, _, _, g⟩ := g
  exact s _ _ (fun z => by rw [z, g.b] at h; cases h) h
theorem paired_drop {α β : Type} {F : α → β → Prop} : ∀ {xs : List α} {ys : List β} (k : Nat), Paired F xs ys → Paired F (xs.drop k) (ys.drop k)
  | _, _, 0, p => p
  | _, _, _ + 1, .nil => .nil
  | _, _, k + 1, .cons _ t => paired_drop k t
theorem paired_take {α β : Type} {F : α → β → Prop} : ∀ {xs : List α} {ys : List β} (k : Nat), Paired F xs ys → Paired F (xs.take k) (ys.take k)
  | _, _, 0, _ => by simp; exact .nil
  | _, _, _ + 1, .nil => .nil
  | _, _, k + 1, .cons r t => .cons r (paired_take k t)
theorem paired_rep {α β : Type} {F : α → β → Prop} {xs : List α} {ys : List β} (p : Paired F xs ys) : ∀ k : Nat, Paired F (List.replicate k xs).flatten (List.replicate k ys).flatten
  | 0 => .nil
  | k + 1 => by
    rw [List.replicate_succ, List.replicate_succ, List.flatten_cons, List.flatten_cons]
    exact ND.paired_app p (paired_rep p k)
theorem cut_take {xs : List V} {k : Nat} (h : k ≤ xs.length) : cutV xs none (some (k : Int)) = xs.take k := by
  unfold cutV
  rw [HT.sIx_nat, HT.sIx_none, Nat.sub_zero, List.drop_zero, Nat.min_eq_left h]
theorem cut_drop {xs : List V} {k : Nat} (h : k ≤ xs.length) : cutV xs (some (k : Int)) none = xs.drop k := by
  unfold cutV
  rw [HT.sIx_nat, HT.sIx_none, Nat.min_eq_left h, List.take_of_length_le (by rw [List.length_drop]; omega)]
theorem paired_put {F : V → (Int × Int) → Prop} {vt : List V} {ys : List (Int × Int)} {k : Nat} {v : V} {y : Int × Int} (p : Paired F vt ys) (r : F v y) (hk : k < vt.length) :
    Paired F (cutV vt none (some (k : Int)) ++ [v] ++ cutV vt (some ((k : Int) + 1)) none) (ys.take k ++ [y] ++ ys.drop (k + 1)) := by
  rw [cut_take (by omega), show ((k : Int) + 1) = ((k + 1 : Nat) : Int) from rfl, cut_drop (by omega)]
  exact ND.paired_app (ND.paired_app (paired_take k p) (.cons r .nil)) (paired_drop (k + 1) p)
/-- the last step: the tuple of two -/
theorem two_ret {H0 H : Hp} {b c : Addr} {v1 v2 : V} {w1 w2 : WN} {s f : Int} {Q : VK} (q : ∀ v w1 s w2 f H', But b H0 H' → Bag H' b c → TwoV H' v w1 s w2 f → okTwo w1 s w2 f → Q v H') (S : But b H0 H) (g : Bag H b c) (h1 : PlanV H v1 w1) (h2 : PlanV H v2 w2) (ok : okTwo w1 s w2 f) :
    4 ≤ sizeLine ∧ ∀ r, H r = none → Q (.ref r) (upd H r (.tup [v1, .int s, v2, .int f])) :=
  ⟨by decide, fun r nr => q _ w1 s w2 f _ (S.same (same_new nr)) (g.same (same_new nr)) ⟨r, v1, v2, rfl, upd_same, h1.mono (same_new nr), h2.mono (same_new nr)⟩ ok⟩
/-- .. the lift of the other not great -/
theorem two_retL {H0 H : Hp} {b c : Addr} {v1 v2 : V} {w1 w2 : WN} {s f : Int} {Q : VK} (hl : w2.lift ≤ 100000) (q : ∀ v w1 s w2 f H', But b H0 H' → Bag H' b c → TwoV H' v w1 s w2 f → okTwo w1 s w2 f → w2.lift ≤ 100000 → Q v H') (S : But b H0 H) (g : Bag H b c) (h1 : PlanV H v1 w1) (h2 : PlanV H v2 w2) (ok : okTwo w1 s w2 f) :
    4 ≤ sizeLine ∧ ∀ r, H r = none → Q (.ref r) (upd H r (.tup [v1, .int s, v2, .int f])) :=
  ⟨by decide, fun r nr => q _ w1 s w2 f _ (S.same (same_new nr)) (g.same (same_new nr)) ⟨r, v1, v2, rfl, upd_same, h1.mono (same_new nr), h2.mono (same_new nr)⟩ ok hl⟩
def spTwo : Sp := fun vs H Q _ => ∃ b c n, vs = [.ref b, .int n] ∧ 1 ≤ n ∧ n ≤ 100 ∧ Bag H b c ∧ ∀ v w1 s w2 f H', But b H H' → Bag H' b c → TwoV H' v w1 s w2 f → okTwo w1 s w2 f → w2.lift ≤ 100000 → Q v H'
theorem cal__law_two (T : Txt K mg) : C8.Cal P w K mg base 4 "_law_two" spTwo [] := by
  refine calD T.f__law_two T.g__law_two sc__law_two (fun fd F => F.bindsN fun _ _ _ _ _ _ us hl => match us, hl with | [_, _], _ => rfl) (fun vs H Q E h => by obtain ⟨_, _, _, rfl, _⟩ := h; rfl) fun cdv A outer s H vs Q E hr h => ?_
  refine ⟨_, (pss_cons (ps_set (i := 2) sc__law_two.nd rfl (by first | exact Or.inl rfl | exact Or.inr rfl) (C8.pe_c (cal__law_plan T) hr (by decide) rfl (pa_cons (pv 0) (pa_cons (pv 1) pa_nil)))) (pss_cons (ps_set (i := 3) sc__law_two.nd rfl (by first | exact Or.inl rfl | exact Or.inr rfl) (pe_op op_add pe_int (C8.pe_c (cal__law_take T) hr (by decide) rfl (pa_cons (pv 0) (pa_cons (pe_ix ix_tup (pv 2) pe_int (fun _ _ => rfl)) pa_nil))))) (pss_cons (ps_asg (pv 2) (pg_tup rfl (pgs_cons (pg_name (i := 4) sc__law_two.nd rfl (by first | exact Or.inl rfl | exact Or.inr rfl)) (pgs_cons (pg_name (i := 5) sc__law_two.nd rfl (by first | exact Or.inl rfl | exact Or.inr rfl)) (pgs_cons (pg_name (i := 6) sc__law_two.nd rfl (by first | exact Or.inl rfl | exact Or.inr rfl)) (pgs_cons (pg_name (i := 7) sc__law_two.nd rfl (by first | exact Or.inl rfl | exact Or.inr rfl)) (pgs_cons (pg_name (i := 8) sc__law_two.nd rfl (by first | exact Or.inl rfl | exact Or.inr rfl)) pgs_nil))))))) (pss_cons (ps_set (i := 9) sc__law_two.nd rfl (by first | exact Or.inl rfl | exact Or.inr rfl) (C8.pe_c (cal__law_take T) hr (by decide) rfl (pa_cons (pv 0) (pa_cons pe_int pa_nil)))) (pss_cons (ps_if (pt_cmpR op_eq (pv 9) pe_int (nomark _)) (pss_one (ps_ret (pe_tup (pa_cons (pv 2) (pa_cons (pv 3) (pa_cons (pe_tup (pa_cons (pv 4) (pa_cons (pe_op op_rep (pv 5) pe_int) (pa_cons (pv 6) (pa_cons (pv 7) (pa_cons (pv 8) pa_nil)))))) (pa_cons (pv 3) pa_nil))))))) pss_nil) (pss_cons (ps_if (pt_cmpR op_eq (pv 9) pe_int (nomark _)) (pss_one (ps_ret (pe_tup (pa_cons (pv 2) (pa_cons (pv 3) (pa_cons (pe_tup (pa_cons (pe_op op_cat (pv 4) (pv 5)) (pa_cons (pv 5) (pa_cons (pv 6) (pa_cons (pv 7) (pa_cons (pv 8) pa_nil)))))) (pa_cons (pv 3) pa_nil))))))) pss_nil) (pss_cons (ps_if (pt_cmpR op_eq (pv 9) pe_int (nomark _)) (pss_cons (ps_set (i := 2) sc__law_two.nd rfl (by first | exact Or.inl rfl | exact Or.inr rfl) (pe_tup (pa_cons (pv 4) (pa_cons (pe_op op_rep (pv 5) pe_int) (pa_cons (pv 6) (pa_cons (pv 7) (pa_cons (pv 8) pa_nil))))))) (pss_one (ps_ret (pe_tup (pa_cons (pv 2) (pa_cons (pv 3) (pa_cons (pe_tup (pa_cons (pe_op op_cat (pv 4) (pe_op op_rep (pv 5) pe_int)) (pa_cons (pe_op op_rep (pv 5) pe_int) (pa_cons (pv 6) (pa_cons (pv 7) (pa_cons (pv 8) pa_nil)))))) (pa_cons (pv 3) pa_nil)))))))) pss_nil) (pss_cons (ps_if (pt_cmpR op_eq (pv 9) pe_int (nomark _)) (pss_one (ps_ret (pe_tup (pa_cons (pv 2) (pa_cons (pv 3) (pa_cons (pe_tup (pa_cons (pv 4) (pa_cons (pv 5) (pa_cons (pe_op op_add (pe_op op_add (pv 6) pe_int) (C8.pe_c (cal__law_take T) hr (by decide) rfl (pa_cons (pv 0) (pa_cons pe_int pa_nil)))) (pa_cons (pv 7) (pa_cons (pv 8) pa_nil)))))) (pa_cons (pv 3) pa_nil))))))) pss_nil) (pss_cons (ps_if (pt_cmpR op_eq (pv 9) pe_int (nomark _)) (pss_one (ps_ret (pe_tup (pa_cons (pv 2) (pa_cons (pv 3) (pa_cons (pv 2) (pa_cons (pe_op op_add pe_int (C8.pe_c (cal__law_take T) hr (by decide) rfl (pa_cons (pv 0) (pa_cons (pv 6) pa_nil)))) pa_nil))))))) pss_nil) (pss_cons (ps_if (pt_cmpR op_eq (pv 9) pe_int (nomark _)) (pss_one (ps_ret (pe_tup (pa_cons (pv 2) (pa_cons (pv 3) (pa_cons (pe_tup (pa_cons (pv 4) (pa_cons (pv 5) (pa_cons (pv 6) (pa_cons (pe_op op_add (pv 7) pe_int) (pa_cons (pe_not (pv 8)) pa_nil)))))) (pa_cons (pv 3) pa_nil))))))) pss_nil) (pss_cons (ps_if (pt_cmpR op_eq (pv 9) pe_int (nomark _)) (pss_cons (ps_set (i := 10) sc__law_two.nd rfl (by first | exact Or.inl rfl | exact Or.inr rfl) (C8.pe_c (cal__law_take T) hr (by decide) rfl (pa_cons (pv 0) (pa_cons (pe_callB call_len (by rfl) T.b_len (by decide +kernel) (pa_cons (pv 5) pa_nil)) pa_nil)))) (pss_cons (ps_set (i := 11) sc__law_two.nd rfl (by first | exact Or.inl rfl | exact Or.inr rfl) (pe_op op_cat (pe_op op_cat (pe_slice sl_list (pv 5) po_none (po_some (pv 10))) (pe_lst (pa_cons (pe_tup (pa_cons (pe_ix ix_seq (pe_ix ix_list (pv 5) (pv 10) (fun _ _ => rfl)) pe_int (fun _ _ => rfl)) (pa_cons (pe_op op_add (pe_ix ix_seq (pe_ix ix_list (pv 5) (pv 10) (fun _ _ => rfl)) pe_int (fun _ _ => rfl)) pe_int) pa_nil))) pa_nil))) (pe_slice sl_list (pv 5) (po_some (pe_op op_add (pv 10) pe_int)) po_none))) (pss_one (ps_ret (pe_tup (pa_cons (pv 2) (pa_cons (pv 3) (pa_cons (pe_tup (pa_cons (pv 4) (pa_cons (pv 11) (pa_cons (pv 6) (pa_cons (pv 7) (pa_cons (pv 8) pa_nil)))))) (pa_cons (pv 3) pa_nil))))))))) pss_nil) (pss_cons (ps_set (i := 12) sc__law_two.nd rfl (by first | exact Or.inl rfl | exact Or.inr rfl) (C8.pe_c (cal__law_plan T) hr (by decide) rfl (pa_cons (pv 0) (pa_cons (pv 1) pa_nil)))) (pss_one (ps_ret (pe_tup (pa_cons (pv 2) (pa_cons (pv 3) (pa_cons (pv 12) (pa_cons (pe_op op_add pe_int (C8.pe_c (cal__law_take T) hr (by decide) rfl (pa_cons (pv 0) (pa_cons (pe_ix ix_tup (pv 12) pe_int (fun _ _ => rfl)) pa_nil)))) pa_nil))))))))))))))))))), ?_⟩
  obtain ⟨b, c, n, rfl, n1, n2, g, q⟩ := h
  refine ⟨_, rfl, _, rfl, b, c, n, rfl, n1, by omega, g, fun v w1 H1 s1 g1 hv ok => ?_⟩
  obtain ⟨p, ah, at_, rfl, hp, sh, st⟩ := id hv
  refine ⟨_, rfl, _, rfl, p, _, _, _, rfl, rfl, SqT.of hp, rfl, b, c, _, rfl, g1, ok.c1, by have := ok.c2; omega, fun v1 H2 a1 a2 s2 g2 => ⟨_, _, rfl, rfl, ?_⟩⟩
  have hp2 := tupB g1 s2 hp
  have sh2 := sh.but g1 s2
  have st2 := st.but g1 s2
  refine ⟨_, rfl, p, _, rfl, SqT.of hp2, rfl, _, _, rfl, _, _, rfl, _, _, rfl, _, _, rfl, _, _, rfl, rfl, ?_⟩
  refine ⟨_, rfl, b, c, 9, rfl, g2, by decide, by decide, fun v2 H3 r1 r2 s3 g3 => ?_⟩
  have hp := tupB g2 s3 hp2
  have sh := sh2.but g2 s3
  have st := st2.but g2 s3
  have S := (s1.trans s2).trans s3
  have P1 : PlanV H3 (.ref p) w1 := ⟨p, ah, at_, rfl, hp, sh, st⟩
  have hst : 1 ≤ 1 + v1 ∧ 1 + v1 ≤ w1.cap := by omega
  clear hp2 sh2 st2 s1 s2 s3 g1 g2
  obtain ⟨vh, hh, ph⟩ := id sh
  obtain ⟨vt, ht, pt⟩ := id st
  have lh := paired_len ph
  have lt := paired_len pt
  have o1 := ok.hl
  have o2 := ok.tl
  have ok1 := ok.ok
  have oc1 := ok.c1
  have oc2 := ok.c2
  have ol1 := ok.l1
  have ol2 := ok.l2
  refine ⟨_, rfl, rfl, _, rfl, ite2 (fun _ => ?_) fun _ => ?_⟩
  · -- tail * 2
    refine ⟨_, rfl, _, rfl, _, rfl, _, rfl, at_, 2, vt, rfl, rfl, ht, by decide, by decide, Nat.le_of_lt (small1000 (by show vt.length * 2 ≤ 1000; omega)), fun l nl => ?_⟩
    refine ⟨_, rfl, _, rfl, _, rfl, by show 5 ≤ sizeLine; decide, fun p2 np2 => ⟨_, rfl, ?_⟩⟩
    have Z := (same_new nl (o := .lst (List.replicate (2 : Int).toNat vt).flatten)).trans (same_new np2 (o := .tup [.ref ah, .ref l, .int w1.cap, .int w1.lift, .bl w1.anew]))
    refine two_retL (by first | omega | (dsimp only; omega)) q (S.same Z) (g3.same Z) (P1.mono Z) (w2 := ⟨w1.head, (List.replicate 2 w1.tail).flatten, w1.cap, w1.lift, w1.anew⟩) ⟨p2, ah, l, rfl, upd_same, sh.mono Z, ⟨_, same_new np2 _ _ upd_same, Paired.mapP (paired_rep pt 2) fun _ _ => StepV.mono Z⟩⟩ ⟨ok1, ⟨ok1.h, ok1.hl, ?_, tl_of ?_, ok1.c1, ok1.c2, ok1.l1, ok1.l2⟩, hst.1, hst.2, hst.1, hst.2⟩
    · intro x hx
      simp at hx
      exact ok1.t x hx
    · simp; omega
  refine ⟨_, rfl, rfl, _, rfl, ite2 (fun _ => ?_) fun _ => ?_⟩
  · -- head + tail
    refine ⟨_, rfl, _, rfl, _, rfl, _, rfl, ah, at_, vh, vt, rfl, rfl, hh, ht, Nat.le_of_lt (small1000 (by omega)), fun l nl => ?_⟩
    refine ⟨_, rfl, _, rfl, _, rfl, _, rfl, by show 5 ≤ sizeLine; decide, fun p2 np2 => ⟨_, rfl, ?_⟩⟩
    have Z := (same_new nl (o := .lst (vh ++ vt))).trans (same_new np2 (o := .tup [.ref l, .ref at_, .int w1.cap, .int w1.lift, .bl w1.anew]))
    refine two_retL (by first | omega | (dsimp only; omega)) q (S.same Z) (g3.same Z) (P1.mono Z) (w2 := ⟨w1.head ++ w1.tail, w1.tail, w1.cap, w1.lift, w1.anew⟩) ⟨p2, l, at_, rfl, upd_same, ⟨_, same_new np2 _ _ upd_same, Paired.mapP (ND.paired_app ph pt) fun _ _ => StepV.mono Z⟩, st.mono Z⟩ ⟨ok1, ⟨?_, ?_, ok1.t, ok1.tl, ok1.c1, ok1.c2, ok1.l1, ok1.l2⟩, hst.1, hst.2, hst.1, hst.2⟩
    · intro x hx
      rcases List.mem_append.mp hx with hx | hx
      · exact ok1.h x hx
      · exact ok1.t x hx
    · show (w1.head ++ w1.tail).length ≤ 24
      rw [List.length_append]; omega
  refine ⟨_, rfl, rfl, _, rfl, ite2 (fun _ => ?_) fun _ => ?_⟩
  · -- tail * 4; head + tail * 2, tail * 2
    refine ⟨_, rfl, _, rfl, at_, 4, vt, rfl, rfl, ht, by decide, by decide, Nat.le_of_lt (small1000 (by show vt.length * 4 ≤ 1000; omega)), fun l nl => ?_⟩
    refine ⟨_, rfl, _, rfl, _, rfl, by show 5 ≤ sizeLine; decide, fun p2 np2 => ?_⟩
    have Z := (same_new nl (o := .lst (List.replicate (4 : Int).toNat vt).flatten)).trans (same_new np2 (o := .tup [.ref ah, .ref l, .int w1.cap, .int w1.lift, .bl w1.anew]))
    have P2 : PlanV (upd (upd H3 l (.lst (List.replicate (4 : Int).toNat vt).flatten)) p2 (.tup [.ref ah, .ref l, .int w1.cap, .int w1.lift, .bl w1.anew])) (.ref p2) ⟨w1.head, (List.replicate 4 w1.tail).flatten, w1.cap, w1.lift, w1.anew⟩ :=
      ⟨p2, ah, l, rfl, upd_same, sh.mono Z, ⟨_, same_new np2 _ _ upd_same, Paired.mapP (paired_rep pt 4) fun _ _ => StepV.mono Z⟩⟩
    have S := S.same Z
    have g4 := g3.same Z
    have ht := Z _ _ ht
    have hh := Z _ _ hh
    have pt := Paired.mapP pt fun _ _ => StepV.mono Z
    have ph := Paired.mapP ph fun _ _ => StepV.mono Z
    refine ⟨_, rfl, _, rfl, _, rfl, _, rfl, at_, 2, vt, rfl, rfl, ht, by decide, by decide, Nat.le_of_lt (small1000 (by show vt.length * 2 ≤ 1000; omega)), fun l1 nl1 => ?_⟩
    have Z1 := same_new nl1 (o := .lst (List.replicate (2 : Int).toNat vt).flatten)
    refine ⟨ah, l1, vh, _, rfl, rfl, Z1 _ _ hh, upd_same, Nat.le_of_lt (small1000 (by simp; omega)), fun l2 nl2 => ?_⟩
    have Z2 := Z1.trans (same_new nl2 (o := .lst (vh ++ (List.replicate (2 : Int).toNat vt).flatten)))
    refine ⟨_, rfl, at_, 2, vt, rfl, rfl, Z2 _ _ ht, by decide, by decide, Nat.le_of_lt (small1000 (by show vt.length * 2 ≤ 1000; omega)), fun l3 nl3 => ?_⟩
    have Z3 := Z2.trans (same_new nl3 (o := .lst (List.replicate (2 : Int).toNat vt).flatten))
    refine ⟨_, rfl, _, rfl, _, rfl, by show 5 ≤ sizeLine; decide, fun p3 np3 => ⟨_, rfl, ?_⟩⟩
    have Z4 := Z3.trans (same_new np3 (o := .tup [.ref l2, .ref l3, .int w1.cap, .int w1.lift, .bl w1.anew]))
    refine two_retL (by first | omega | (dsimp only; omega)) q (S.same Z4) (g4.same Z4) (P2.mono Z4) (w2 := ⟨w1.head ++ (List.replicate 2 w1.tail).flatten, (List.replicate 2 w1.tail).flatten, w1.cap, w1.lift, w1.anew⟩)
      ⟨p3, l2, l3, rfl, upd_same, ⟨_, same_new np3 _ _ (same_new nl3 _ _ upd_same), Paired.mapP (ND.paired_app ph (paired_rep pt 2)) fun _ _ => StepV.mono Z4⟩, ⟨_, same_new np3 _ _ upd_same, Paired.mapP (paired_rep pt 2) fun _ _ => StepV.mono Z4⟩⟩
      ⟨⟨ok1.h, ok1.hl, ?_, tl_of ?_, ok1.c1, ok1.c2, ok1.l1, ok1.l2⟩, ⟨?_, ?_, ?_, tl_of ?_, ok1.c1, ok1.c2, ok1.l1, ok1.l2⟩, hst.1, hst.2, hst.1, hst.2⟩
    · intro x hx
      simp at hx
      exact ok1.t x hx
    · simp; omega
    · intro x hx
      rcases List.mem_append.mp hx with hx | hx
      · exact ok1.h x hx
      · simp at hx; exact ok1.t x hx
    · simp; omega
    · intro x hx
      simp at hx
      exact ok1.t x hx
    · simp; omega
  refine ⟨_, rfl, rfl, _, rfl, ite2 (fun _ => ?_) fun _ => ?_⟩
  · -- a greater cap
    refine ⟨_, rfl, _, rfl, _, rfl, _, rfl, _, rfl, _, _, rfl, rfl, _, rfl, b, c, 2, rfl, g3, by decide, by decide, fun v4 H4 d1 d2 s4 g4 => ⟨_, _, rfl, rfl, ?_⟩⟩
    refine ⟨_, rfl, _, rfl, by show 5 ≤ sizeLine; decide, fun p2 np2 => ⟨_, rfl, ?_⟩⟩
    have Z := same_new np2 (o := .tup [.ref ah, .ref at_, .int (w1.cap + 1 + v4), .int w1.lift, .bl w1.anew])
    refine two_retL (by first | omega | (dsimp only; omega)) q ((S.trans s4).same Z) (g4.same Z) ((P1.but g3 s4).mono Z) (w2 := ⟨w1.head, w1.tail, w1.cap + 1 + v4, w1.lift, w1.anew⟩) ⟨p2, ah, at_, rfl, upd_same, (sh.but g3 s4).mono Z, (st.but g3 s4).mono Z⟩ ⟨ok1, ⟨ok1.h, ok1.hl, ok1.t, ok1.tl, ?_, ?_, ok1.l1, ok1.l2⟩, hst.1, hst.2, hst.1, ?_⟩
    · show 1 ≤ w1.cap + 1 + v4; omega
    · show w1.cap + 1 + v4 ≤ 1000000000; omega
    · show 1 + v1 ≤ w1.cap + 1 + v4; omega
  refine ⟨_, rfl, rfl, _, rfl, ite2 (fun _ => ?_) fun _ => ?_⟩
  · -- another strength
    refine ⟨_, rfl, _, rfl, _, rfl, _, rfl, _, rfl, b, c, _, rfl, g3, ok.c1, by omega, fun v4 H4 d1 d2 s4 g4 => ⟨_, _, rfl, rfl, ?_⟩⟩
    exact two_retL (by first | omega | (dsimp only; omega)) q (S.trans s4) g4 (P1.but g3 s4) (P1.but g3 s4) ⟨ok1, ok1, hst.1, hst.2, by omega, by omega⟩
  refine ⟨_, rfl, rfl, _, rfl, ite2 (fun _ => ?_) fun _ => ?_⟩
  · -- another lift, anew turned
    refine ⟨_, rfl, _, rfl, _, rfl, _, rfl, _, rfl, _, rfl, _, _, rfl, rfl, _, rfl, ?_⟩
    refine ⟨_, rfl, by show 5 ≤ sizeLine; decide, fun p2 np2 => ⟨_, rfl, ?_⟩⟩
    have Z := same_new np2 (o := .tup [.ref ah, .ref at_, .int w1.cap, .int (w1.lift + 1), .bl (!w1.anew)])
    refine two_retL (by first | omega | (dsimp only; omega)) q (S.same Z) (g3.same Z) (P1.mono Z) (w2 := ⟨w1.head, w1.tail, w1.cap, w1.lift + 1, !w1.anew⟩) ⟨p2, ah, at_, rfl, upd_same, sh.mono Z, st.mono Z⟩ ⟨ok1, ⟨ok1.h, ok1.hl, ok1.t, ok1.tl, ok1.c1, ok1.c2, ?_, ?_⟩, hst.1, hst.2, hst.1, hst.2⟩
    · show 0 ≤ w1.lift + 1; omega
    · show w1.lift + 1 ≤ 1000000000; omega
  refine ⟨_, rfl, rfl, _, rfl, ite2 (fun _ => ?_) fun _ => ?_⟩
  · -- a step put otherwise
    refine ⟨_, rfl, _, rfl, _, _, rfl, .inl ⟨_, SqL.of ht, rfl⟩, b, c, _, rfl, g3, by omega, by omega, fun v4 H4 d1 d2 s4 g4 => ?_⟩
    obtain ⟨k, rfl⟩ := Int.eq_ofNat_of_zero_le d1
    have hk : k < vt.length := by omega
    have ht := (show H4 at_ = some (.lst vt) from s4 _ _ (g3.ne ht pt) ht)
    have sh := sh.but g3 s4
    have pt := Paired.mapP pt fun _ _ => StepV.but g3 s4
    have P1 := P1.but g3 s4
    have S := S.trans s4
    obtain ⟨x, hx, b0, e0, hb0⟩ := paired_get pt (List.getElem?_eq_getElem hk)
    have hx0 : vt[k]? = some (.ref b0) := by rw [List.getElem?_eq_getElem hk, e0]
    have okx := ok.t x (List.mem_of_getElem? hx)
    refine ⟨_, rfl, _, rfl, _, rfl, at_, vt, rfl, SqL.of ht, fun la na => ?_⟩
    have Z1 := same_new na (o := .lst (cutV vt none (some (k : Int))))
    refine ⟨_, rfl, _, rfl, at_, vt, _, _, rfl, rfl, SqL.of (Z1 _ _ ht), atI_nat hx0, .inr (.inl ⟨b0, _, 0, _, rfl, rfl, SqT.of (Z1 _ _ hb0), rfl, ?_⟩)⟩
    refine ⟨_, rfl, _, rfl, at_, vt, _, _, rfl, rfl, SqL.of (Z1 _ _ ht), atI_nat hx0, .inr (.inl ⟨b0, _, 1, _, rfl, rfl, SqT.of (Z1 _ _ hb0), rfl, ?_⟩)⟩
    refine ⟨_, _, rfl, rfl, by show 2 ≤ sizeLine; decide, fun t nt => ⟨by show 1 ≤ sizeLine; decide, fun lb nb => ?_⟩⟩
    have Z2 := (Z1.trans (same_new nt (o := .tup [.int x.1, .int (x.2 + 1)]))).trans (same_new nb (o := .lst [.ref t]))
    refine ⟨la, lb, _, _, rfl, rfl, same_new nb _ _ (same_new nt _ _ upd_same), upd_same, Nat.le_of_lt (small1000 (by have := cutV_length vt none (some (k : Int)); show _ + 1 ≤ 1000; omega)), fun lc nc => ?_⟩
    have Z3 := Z2.trans (same_new nc (o := .lst (cutV vt none (some (k : Int)) ++ [.ref t])))
    refine ⟨_, rfl, _, rfl, _, _, rfl, rfl, _, rfl, at_, vt, rfl, SqL.of (Z3 _ _ ht), fun ld nd => ?_⟩
    have Z4 := Z3.trans (same_new nd (o := .lst (cutV vt (some ((k : Int) + 1)) none)))
    refine ⟨lc, ld, _, _, rfl, rfl, same_new nd _ _ upd_same, upd_same, Nat.le_of_lt (small1000 (by have := cutV_length vt none (some (k : Int)); have := cutV_length vt (some ((k : Int) + 1)) none; rw [List.length_append, List.length_singleton]; omega)), fun le ne => ?_⟩
    have Z5 := Z4.trans (same_new ne (o := .lst (cutV vt none (some (k : Int)) ++ [.ref t] ++ cutV vt (some ((k : Int) + 1)) none)))
    refine ⟨_, rfl, _, rfl, _, rfl, _, rfl, _, rfl, _, rfl, _, rfl, by show 5 ≤ sizeLine; decide, fun p2 np2 => ⟨_, rfl, ?_⟩⟩
    have Z := Z5.trans (same_new np2 (o := .tup [.ref ah, .ref le, .int w1.cap, .int w1.lift, .bl w1.anew]))
    refine two_retL (by first | omega | (dsimp only; omega)) q (S.same Z) (g4.same Z) (P1.mono Z) (w2 := ⟨w1.head, w1.tail.take k ++ [(x.1, x.2 + 1)] ++ w1.tail.drop (k + 1), w1.cap, w1.lift, w1.anew⟩)
      ⟨p2, ah, le, rfl, upd_same, sh.mono Z, ⟨_, same_new np2 _ _ upd_same, ?_⟩⟩ ⟨ok1, ⟨ok1.h, ok1.hl, ?_, tl_of ?_, ok1.c1, ok1.c2, ok1.l1, ok1.l2⟩, hst.1, hst.2, hst.1, hst.2⟩
    · exact paired_put (Paired.mapP pt fun _ _ => StepV.mono Z) ⟨t, rfl, same_new np2 _ _ (same_new ne _ _ (same_new nd _ _ (same_new nc _ _ (same_new nb _ _ upd_same))))⟩ hk
    · intro y hy
      rcases List.mem_append.mp hy with hy | hy
      · rcases List.mem_append.mp hy with hy | hy
        · exact ok1.t y (List.mem_of_mem_take hy)
        · rw [List.mem_singleton.mp hy]
          exact ⟨okx.1, okx.2.1, by have := okx.2.2.1; show 0 ≤ x.2 + 1; omega, by have := okx.2.2.2; show x.2 + 1 ≤ 1000000000; omega⟩
      · exact ok1.t y (List.mem_of_mem_drop hy)
    · show (w1.tail.take k ++ [(x.1, x.2 + 1)] ++ w1.tail.drop (k + 1)).length = 1 ∨ _
      rw [List.length_append, List.length_append, List.length_take, List.length_drop, List.length_singleton]; omega
  · -- drawn alone
    refine ⟨_, rfl, _, rfl, b, c, n, rfl, n1, by omega, g3, fun v w2 H4 s4 g4 hv oko => ?_⟩
    obtain ⟨p2, ah2, at2, rfl, hp2, sh2, st2⟩ := id hv
    have oc3 := oko.c1
    have oc4 := oko.c2
    refine ⟨_, rfl, _, rfl, _, rfl, _, rfl, _, rfl, p2, _, _, _, rfl, rfl, SqT.of hp2, rfl, b, c, _, rfl, g4, oc3, by omega, fun v5 H5 d1 d2 s5 g5 => ⟨_, _, rfl, rfl, ?_⟩⟩
    exact two_retL (by have := oko.l2; omega) q ((S.trans s4).trans s5) g5 ((P1.but g3 s4).but g4 s5) (hv.but g4 s5) ⟨ok1, oko.ok, hst.1, hst.2, by omega, by omega⟩
end
end WH

set_option maxHeartbeats 4000000
namespace WH
open PySem PySem.Spec PyProof.Rows L2
section
variable {P : Program} {w : World} {K : PySem.W.Frag} {mg : Str → Option Value} {base : Heap}
theorem pick2 {a b v : Int} (h0 : 0 ≤ v) (h1 : v < 2) : ∃ y, (y = a ∨ y = b) ∧ atI [V.int a, V.int b] v = some (.int y) := by
  obtain rfl | rfl : v = 0 ∨ v = 1 := by omega
  · exact ⟨a, by simp, rfl⟩
  · exact ⟨b, by simp, rfl⟩
theorem pick3 {a b c v : Int} (h0 : 0 ≤ v) (h1 : v < 3) : ∃ y, (y = a ∨ y = b ∨ y = c) ∧ atI [V.int a, V.int b, V.int c] v = some (.int y) := by
  obtain rfl | rfl | rfl : v = 0 ∨ v = 1 ∨ v = 2 := by omega
  · exact ⟨a, by simp, rfl⟩
  · exact ⟨b, by simp, rfl⟩
  · exact ⟨c, by simp, rfl⟩
theorem paired_set {α β : Type} {F : α → β → Prop} {v : α} {y : β} (r : F v y) : ∀ {xs : List α} {ys : List β} (k : Nat), Paired F xs ys → Paired F (xs.set k v) (ys.set k y)
  | _, _, _, .nil => .nil
  | _, _, 0, .cons _ t => .cons r t
  | _, _, k + 1, .cons q t => .cons q (paired_set r k t)
theorem StepV.updL {H : Hp} {l : Addr} {xs : List V} {o : HO} {v : V} {x : Int × Int} (hl : H l = some (.lst xs)) (h : StepV H v x) : StepV (L2.upd H l o) v x := by
  obtain ⟨a, rfl, h⟩ := h
  exact ⟨a, rfl, by rw [upd_ne (fun z => by rw [z, hl] at h; cases h)]; exact h⟩
/-- a pair of step lists -/
abbrev HT2 := List (Int × Int) × List (Int × Int)
def HTV (H : Hp) (v : V) (x : HT2) : Prop := ∃ p ah at_, v = .ref p ∧ H p = some (.tup [.ref ah, .ref at_]) ∧ Steps H ah x.1 ∧ Steps H at_ x.2
structure okHT (x : HT2) : Prop where
  h : ∀ y ∈ x.1, okS y
  hl : x.1.length ≤ 24
  t : ∀ y ∈ x.2, okS y
  tl : (x.2.length : Int) ∈ tails
theorem HTV.but {H H' : Hp} {b c : Addr} (g : Bag H b c) (s : But b H H') {v : V} {x : HT2} (h : HTV H v x) : HTV H' v x := by
  obtain ⟨p, ah, at_, rfl, h, s1, s2⟩ := h
  exact ⟨p, ah, at_, rfl, tupB g s h, s1.but g s, s2.but g s⟩
theorem HTV.mono {H H' : Hp} (s : Same H H') {v : V} {x : HT2} (h : HTV H v x) : HTV H' v x := by
  obtain ⟨p, ah, at_, rfl, h, s1, s2⟩ := h
  exact ⟨p, ah, at_, rfl, s _ _ h, s1.mono s, s2.mono s⟩
theorem HTV.ne {H : Hp} {l a : Addr} {vs : List V} {ps : List HT2} {xs : List (Int × Int)} (hl : H l = some (.lst vs)) (hp : Paired (HTV H) vs ps) (h0 : ps ≠ []) (h : Steps H a xs) : a ≠ l := fun z => by
  obtain ⟨vs', h, p⟩ := h
  rw [z, hl] at h
  cases h
  cases hp with
  | nil => exact h0 rfl
  | cons r _ =>
    obtain ⟨q, _, _, rfl, e, _⟩ := r
    cases p with
    | cons r' _ =>
      obtain ⟨q', e2, e'⟩ := r'
      cases e2
      rw [e] at e'; cases e'
theorem Steps.updL {H : Hp} {l a : Addr} {vs : List V} {o : HO} {xs : List (Int × Int)} (hl : H l = some (.lst vs)) (n : a ≠ l) (h : Steps H a xs) : Steps (L2.upd H l o) a xs := by
  obtain ⟨us, h, p⟩ := h
  exact ⟨us, by rw [upd_ne n]; exact h, Paired.mapP p fun _ _ => StepV.updL hl⟩
theorem HTV.updL {H : Hp} {l : Addr} {vs : List V} {ps : List HT2} {o : HO} {v : V} {x : HT2} (hl : H l = some (.lst vs)) (hp : Paired (HTV H) vs ps) (h0 : ps ≠ []) (h : HTV H v x) : HTV (L2.upd H l o) v x := by
  obtain ⟨p, ah, at_, rfl, h, s1, s2⟩ := h
  exact ⟨p, ah, at_, rfl, by rw [upd_ne (fun z => by rw [z, hl] at h; cases h)]; exact h, s1.updL hl (HTV.ne hl hp h0 s1), s2.updL hl (HTV.ne hl hp h0 s2)⟩
def spLong : Sp := fun vs H Q _ => ∃ b c, vs = [.ref b] ∧ Bag H b c ∧ ∀ v w1 s w2 f H', But b H H' → Bag H' b c → TwoV H' v w1 s w2 f → okTwo w1 s w2 f → Q v H'
def MidT (H : Hp) (b c : Addr) (σ : L2.St) (H' : Hp) : Prop := ∃ t xs, σ = [some (.ref b), some (.ref t), none, none, none, none] ∧ But b H H' ∧ Bag H' b c ∧ H t = none ∧ Steps H' t xs ∧ (∀ x ∈ xs, okS x) ∧ (xs.length = 8 ∨ xs.length = 12 ∨ xs.length = 24)
def MidH (H : Hp) (b c : Addr) (σ : L2.St) (H' : Hp) : Prop := ∃ t xs h hs, σ = [some (.ref b), some (.ref t), some (.ref h), none, none, none] ∧ But b H H' ∧ Bag H' b c ∧ Steps H' t xs ∧ (∀ x ∈ xs, okS x) ∧ (xs.length = 8 ∨ xs.length = 12 ∨ xs.length = 24) ∧ Steps H' h hs ∧ (∀ x ∈ hs, okS x) ∧ hs.length ≤ 24
def MidS (m : Nat) (H : Hp) (b c : Addr) (σ : L2.St) (H' : Hp) : Prop := ∃ t xs h hs l vs ps, σ = [some (.ref b), some (.ref t), some (.ref h), some (.ref l), none, none] ∧ But b H H' ∧ Bag H' b c ∧ Steps H' t xs ∧ (∀ x ∈ xs, okS x) ∧ (xs.length = 8 ∨ xs.length = 12 ∨ xs.length = 24) ∧ Steps H' h hs ∧ (∀ x ∈ hs, okS x) ∧ hs.length ≤ 24 ∧
  H l = none ∧ H' l = some (.lst vs) ∧ Paired (HTV H') vs ps ∧ (∀ p ∈ ps, okHT p) ∧ ps ≠ [] ∧ ps.length ≤ m
theorem MidS.add {m : Nat} {H H1 H2 : Hp} {b c t h l p : Addr} {xs hs : List (Int × Int)} {vs : List V} {ps : List HT2} {x : HT2} (g0 : Bag H b c) (S : But b H H1) (g : Bag H1 b c) (st : Steps H1 t xs) (okt : ∀ x ∈ xs, okS x) (lt : xs.length = 8 ∨ xs.length = 12 ∨ xs.length = 24) (sh : Steps H1 h hs) (okh : ∀ x ∈ hs, okS x) (lh : hs.length ≤ 24)
    (nl : H l = none) (hl : H1 l = some (.lst vs)) (hp : Paired (HTV H1) vs ps) (okp : ∀ p ∈ ps, okHT p) (h0 : ps ≠ []) (l9 : ps.length < m) (Z : Same H1 H2) (hx : HTV H2 (.ref p) x) (okx : okHT x) :
    MidS m H b c [some (.ref b), some (.ref t), some (.ref h), some (.ref l), none, none] (upd H2 l (.lst (vs ++ [.ref p]))) := by
  have hl2 := Z _ _ hl
  have hp2 := Paired.mapP hp fun _ _ => HTV.mono Z
  have lb : l ≠ b := g0.nb nl
  have lc : l ≠ c := fun z => by obtain ⟨_, _, _, _, g⟩ := g0; rw [z, g.c] at nl; cases nl
  refine ⟨t, xs, h, hs, l, _, ps ++ [x], rfl, (S.same Z).mut nl, (g.same Z).put lb lc, (st.mono Z).updL hl2 (HTV.ne hl2 hp2 h0 (st.mono Z)), okt, lt, (sh.mono Z).updL hl2 (HTV.ne hl2 hp2 h0 (sh.mono Z)), okh, lh, nl, upd_same,
    paired_snoc (Paired.mapP hp2 fun _ _ => HTV.updL hl2 hp2 h0) (HTV.updL hl2 hp2 h0 hx), ?_, by simp, by simp; omega⟩
  intro p hp
  rcases List.mem_append.mp hp with hp | hp
  · exact okp p hp
  · rw [List.mem_singleton.mp hp]; exact okx
theorem cal__law_long (T : Txt K mg) : C8.Cal P w K mg base 2 "_law_long" spLong [] := by
  refine calD T.f__law_long T.g__law_long sc__law_long (fun fd F => F.bindsN fun _ _ _ _ _ _ us hl => match us, hl with | [_], _ => rfl) (fun vs H Q E h => by obtain ⟨_, _, rfl, _⟩ := h; rfl) fun cdv A outer s H vs Q E hr h => ?_
  refine ⟨_, (C8.pss_cut (ps_set (i := 1) sc__law_long.nd rfl (by first | exact Or.inl rfl | exact Or.inr rfl) (pe_op op_rep (pe_lst (pa_cons (pe_tup (pa_cons pe_int (pa_cons pe_int pa_nil))) pa_nil)) (pe_ix ix_list (pe_lst (pa_cons pe_int (pa_cons pe_int (pa_cons pe_int pa_nil)))) (C8.pe_c (cal__law_take T) hr (by decide) rfl (pa_cons (pv 0) (pa_cons pe_int pa_nil))) (fun _ _ => rfl)))) (C8.pss_cut (ps_asg (pe_tup (pa_cons (pe_op op_add pe_int (C8.pe_c (cal__law_take T) hr (by decide) rfl (pa_cons (pv 0) (pa_cons pe_int pa_nil)))) (pa_cons (C8.pe_c (cal__law_take T) hr (by decide) rfl (pa_cons (pv 0) (pa_cons pe_int pa_nil))) pa_nil))) (pg_sub (pv 1) (C8.pe_c (cal__law_take T) hr (by decide) rfl (pa_cons (pv 0) (pa_cons (pe_callB call_len (by rfl) T.b_len (by decide +kernel) (pa_cons (pv 1) pa_nil)) pa_nil))) set_list)) (C8.pss_cut (ps_set (i := 2) sc__law_long.nd rfl (by first | exact Or.inl rfl | exact Or.inr rfl) (pe_op op_rep (pe_lst (pa_cons (pe_tup (pa_cons pe_int (pa_cons pe_int pa_nil))) pa_nil)) (pe_ix ix_list (pe_lst (pa_cons pe_int (pa_cons (C8.pe_c (cal__law_take T) hr (by decide) rfl (pa_cons (pv 0) (pa_cons pe_int pa_nil))) pa_nil))) (C8.pe_c (cal__law_take T) hr (by decide) rfl (pa_cons (pv 0) (pa_cons pe_int pa_nil))) (fun _ _ => rfl)))) (C8.pss_cut (ps_set (i := 3) sc__law_long.nd rfl (by first | exact Or.inl rfl | exact Or.inr rfl) (pe_lst (pa_cons (pe_tup (pa_cons (pv 2) (pa_cons (pv 1) pa_nil))) (pa_cons (pe_tup (pa_cons (pv 2) (pa_cons (pe_op op_cat (pe_slice sl_list (pv 1) (po_some pe_int) po_none) (pe_slice sl_list (pv 1) po_none (po_some pe_int))) pa_nil))) pa_nil)))) (C8.pss_cut (ps_if (pt_cmpR op_eq (pe_callB call_len (by rfl) T.b_len (by decide +kernel) (pa_cons (pv 1) pa_nil)) pe_int (nomark _)) (pss_one (ps_expr (pe_bm PySem.F.plainAttrs_list PySem.F.slot_list_append PySem.F.type_list_append mt_append (pv 3) (pa_cons (pe_tup (pa_cons (pv 2) (pa_cons (pe_op op_rep (pv 1) pe_int) pa_nil))) pa_nil)))) pss_nil) (C8.pss_cut (ps_if (pt_cmpR op_lt (pe_callB call_len (by rfl) T.b_len (by decide +kernel) (pa_cons (pe_op op_cat (pv 2) (pv 1)) pa_nil)) pe_int (nomark _)) (pss_one (ps_expr (pe_bm PySem.F.plainAttrs_list PySem.F.slot_list_append PySem.F.type_list_append mt_append (pv 3) (pa_cons (pe_tup (pa_cons (pe_op op_cat (pv 2) (pv 1)) (pa_cons (pv 1) pa_nil))) pa_nil)))) pss_nil) (pss_cons (ps_set (i := 4) sc__law_long.nd rfl (by first | exact Or.inl rfl | exact Or.inr rfl) (pe_op op_add pe_int (C8.pe_c (cal__law_take T) hr (by decide) rfl (pa_cons (pv 0) (pa_cons pe_int pa_nil))))) (C8.pss_cut (ps_set (i := 5) sc__law_long.nd rfl (by first | exact Or.inl rfl | exact Or.inr rfl) (pe_tup (pa_cons (pv 4) (pa_cons (C8.pe_c (cal__law_take T) hr (by decide) rfl (pa_cons (pv 0) (pa_cons (pe_op op_add (pv 4) pe_int) pa_nil))) (pa_cons (pe_cmpR op_eq (C8.pe_c (cal__law_take T) hr (by decide) rfl (pa_cons (pv 0) (pa_cons pe_int pa_nil))) pe_int (nomark _)) pa_nil))))) (pss_one (ps_ret (pe_tup (pa_cons (pe_op op_catT (pe_ix ix_list (pv 3) pe_int (fun _ _ => rfl)) (pv 5)) (pa_cons (pe_op op_add pe_int (C8.pe_c (cal__law_take T) hr (by decide) rfl (pa_cons (pv 0) (pa_cons (pv 4) pa_nil)))) (pa_cons (pe_op op_catT (pe_ix ix_list (pv 3) (C8.pe_c (cal__law_take T) hr (by decide) rfl (pa_cons (pv 0) (pa_cons (pe_callB call_len (by rfl) T.b_len (by decide +kernel) (pa_cons (pv 3) pa_nil)) pa_nil))) (fun _ _ => rfl)) (pv 5)) (pa_cons (pe_op op_add pe_int (C8.pe_c (cal__law_take T) hr (by decide) rfl (pa_cons (pv 0) (pa_cons (pv 4) pa_nil)))) pa_nil))))))))))))))), ?_⟩
  obtain ⟨b, c, rfl, g, q⟩ := h
  have one : okS (1, 0) := ⟨by decide, by decide, by decide, by decide⟩
  have rep : ∀ {H' : Hp} {t l : Addr} {k : Nat}, H' t = some (.tup [.int 1, .int 0]) → H' l = some (.lst (List.replicate k [V.ref t]).flatten) → Steps H' l (List.replicate k [((1 : Int), (0 : Int))]).flatten := fun h1 h2 => ⟨_, h2, paired_rep (.cons ⟨_, rfl, h1⟩ .nil) _⟩
  have repl : ∀ {k : Nat}, (List.replicate k [((1 : Int), (0 : Int))]).flatten.length = k := by simp
  have repo : ∀ {k : Nat}, ∀ x ∈ (List.replicate k [((1 : Int), (0 : Int))]).flatten, okS x := by
    intro k x hx
    simp at hx
    rw [hx.2]; exact one
  refine ⟨MidT H b c, ?_, ?_⟩
  · -- the tail
    refine ⟨by show 2 ≤ sizeLine; decide, fun t nt => ⟨by show 1 ≤ sizeLine; decide, fun l0 n0 => ⟨by show 3 ≤ sizeLine; decide, fun l1 n1 => ?_⟩⟩⟩
    have Z := ((same_new nt (o := .tup [.int 1, .int 0])).trans (same_new n0 (o := .lst [.ref t]))).trans (same_new n1 (o := .lst [.int 8, .int 12, .int 24]))
    have e1 := same_new n1 (o := .lst [.int 8, .int 12, .int 24]) _ _ (same_new n0 (o := .lst [.ref t]) _ _ (upd_same (H := H) (a := t) (o := .tup [.int 1, .int 0])))
    have e2 := same_new n1 (o := .lst [.int 8, .int 12, .int 24]) _ _ (upd_same (H := upd H t (.tup [.int 1, .int 0])) (a := l0) (o := .lst [.ref t]))
    have e3 := upd_same (H := upd (upd H t (.tup [.int 1, .int 0])) l0 (.lst [.ref t])) (a := l1) (o := .lst [.int 8, .int 12, .int 24])
    have g1 := g.same Z
    refine ⟨_, rfl, b, c, 3, rfl, g1, by decide, by decide, fun v1 H2 r1 r2 s2 g2 => ?_⟩
    obtain ⟨y, hy, ey⟩ := pick3 (a := 8) (b := 12) (c := 24) r1 r2
    refine ⟨l1, _, _, _, rfl, rfl, SqL.of (s2 _ _ (fun z => by rw [z] at n1; exact (g.same ((same_new nt).trans (same_new n0))).nb n1 rfl) e3), ey, ?_⟩
    have e1 := tupB g1 s2 e1
    have e2 := s2 _ _ (fun z => by rw [z] at n0; exact (g.same (same_new nt)).nb n0 rfl) e2
    refine ⟨l0, y, _, rfl, rfl, e2, by omega, by omega, Nat.le_of_lt (small1000 (by show 1 * y.toNat ≤ 1000; omega)), fun l nl => ?_⟩
    have S := (But.of Z).trans s2
    have nl0 : H l = none := by
      cases e : H l with
      | none => rfl
      | some o => 
        by_cases z : l = b
        · exact absurd z (g2.nb nl)
        · rw [S _ _ z e] at nl; cases nl
    refine ⟨l, _, rfl, S.same (same_new nl), g2.same (same_new nl), nl0, rep (same_new nl _ _ e1) upd_same, repo, ?_⟩
    rw [repl]; omega
  rintro σ H1 ⟨t, xs, rfl, S1, g1, nt, st, okt, lt⟩
  refine ⟨MidT H b c, ?_, ?_⟩
  · -- one step of it
    refine ⟨_, rfl, b, c, 2, rfl, g1, by decide, by decide, fun v1 H2 a1 a2 s2 g2 => ⟨_, _, rfl, rfl, ?_⟩⟩
    refine ⟨_, rfl, b, c, 2, rfl, g2, by decide, by decide, fun v2 H3 b1 b2 s3 g3 => ⟨by show 2 ≤ sizeLine; decide, fun p np => ?_⟩⟩
    have st3 := ((st.but g1 s2).but g2 s3).mono (same_new np (o := .tup [.int (1 + v1), .int v2]))
    obtain ⟨vt, ht, pt⟩ := id st3
    have lv := paired_len pt
    have g4 := g3.same (same_new np (o := .tup [.int (1 + v1), .int v2]))
    have S4 := ((S1.trans s2).trans s3).same (same_new np (o := .tup [.int (1 + v1), .int v2]))
    refine ⟨_, rfl, _, rfl, _, rfl, _, _, rfl, .inl ⟨_, SqL.of ht, rfl⟩, b, c, _, rfl, g4, by omega, by omega, fun v4 H5 c1 c2 s5 g5 => ?_⟩
    obtain ⟨k, rfl⟩ := Int.eq_ofNat_of_zero_le c1
    have ht5 := s5 _ _ (g4.ne ht pt) ht
    have hp5 := tupB g4 s5 (upd_same (H := H3) (a := p) (o := .tup [.int (1 + v1), .int v2]))
    have tb : t ≠ b := g.nb nt
    have tc : t ≠ c := fun z => by obtain ⟨_, _, _, _, g⟩ := g; rw [z, g.c] at nt; cases nt
    refine ⟨t, vt, k, k, rfl, rfl, ht5, ?_, t, xs.set k (1 + v1, v2), rfl, (S4.trans s5).mut nt, g5.put tb tc, nt, ⟨_, upd_same, paired_set (StepV.updL ht5 ⟨p, rfl, hp5⟩) k (Paired.mapP pt fun _ _ h => StepV.updL ht5 (StepV.but g4 s5 h))⟩, ?_, by rw [List.length_set]; exact lt⟩
    · unfold ixN
      rw [if_pos (by omega), if_pos (by omega)]; simp
    · intro x hx
      rcases List.mem_or_eq_of_mem_set hx with hx | hx
      · exact okt x hx
      · rw [hx]
        exact ⟨by show 1 ≤ 1 + v1; omega, by show 1 + v1 ≤ 9; omega, b1, by show v2 ≤ 1000000000; omega⟩
  rintro σ H1 ⟨t, xs, rfl, S1, g1, nt, st, okt, lt⟩
  refine ⟨MidH H b c, ?_, ?_⟩
  · -- the head
    refine ⟨by show 2 ≤ sizeLine; decide, fun t1 nt1 => ⟨by show 1 ≤ sizeLine; decide, fun l0 n0 => ?_⟩⟩
    have Z := (same_new nt1 (o := .tup [.int 1, .int 0])).trans (same_new n0 (o := .lst [.ref t1]))
    have e1 := same_new n0 (o := .lst [.ref t1]) _ _ (upd_same (H := H1) (a := t1) (o := .tup [.int 1, .int 0]))
    have e2 := (upd_same (H := upd H1 t1 (.tup [.int 1, .int 0])) (a := l0) (o := .lst [.ref t1]))
    have g2 := g1.same Z
    refine ⟨_, rfl, b, c, 25, rfl, g2, by decide, by decide, fun v1 H2 a1 a2 s2 g3 => ⟨by show 2 ≤ sizeLine; decide, fun l1 n1 => ?_⟩⟩
    refine ⟨_, rfl, b, c, 2, rfl, g3.same (same_new n1), by decide, by decide, fun v2 H3 r1 r2 s3 g4 => ?_⟩
    obtain ⟨y, hy, ey⟩ := pick2 (a := 0) (b := v1) r1 r2
    have l1b : l1 ≠ b := g3.nb n1
    have l0b : l0 ≠ b := (g1.same (same_new nt1)).nb n0
    refine ⟨l1, _, _, _, rfl, rfl, SqL.of (s3 _ _ l1b upd_same), ey, ?_⟩
    have s23 := (s2.same (same_new n1 (o := .lst [.int 0, .int v1]))).trans s3
    have e1 := tupB g2 s23 e1
    have e2 := s23 _ _ l0b e2
    refine ⟨l0, y, _, rfl, rfl, e2, by omega, by omega, Nat.le_of_lt (small1000 (by show 1 * y.toNat ≤ 1000; omega)), fun l nl => ?_⟩
    refine ⟨t, xs, l, _, rfl, ((S1.same Z).trans s23).same (same_new nl), g4.same (same_new nl), ((st.mono Z).but g2 s23).mono (same_new nl), okt, lt, rep (same_new nl _ _ e1) upd_same, repo, ?_⟩
    rw [repl]; omega
  rintro σ H1 ⟨t, xs, h, hs, rfl, S1, g1, st, okt, lt, sh, okh, lh⟩
  obtain ⟨vt, ht, pt⟩ := id st
  have lv := paired_len pt
  have tlx : (xs.length : Int) ∈ tails := tl_of (by omega)
  refine ⟨MidS 2 H b c, ?_, ?_⟩
  · -- some
    refine ⟨_, rfl, _, rfl, by show 2 ≤ sizeLine; decide, fun p1 np1 => ?_⟩
    have Z1 := same_new np1 (o := .tup [.ref h, .ref t])
    refine ⟨_, rfl, _, rfl, _, rfl, t, vt, rfl, SqL.of (Z1 _ _ ht), fun la na => ?_⟩
    have Z2 := Z1.trans (same_new na (o := .lst (cutV vt (some 1) none)))
    refine ⟨_, rfl, _, rfl, t, vt, rfl, SqL.of (Z2 _ _ ht), fun lb nb => ?_⟩
    have Z3 := Z2.trans (same_new nb (o := .lst (cutV vt none (some 1))))
    refine ⟨la, lb, _, _, rfl, rfl, same_new nb _ _ upd_same, upd_same, Nat.le_of_lt (small1000 (by have := cutV_length vt none (some 1); have := cutV_length vt (some 1) none; omega)), fun lc nc => ?_⟩
    have Z4 := Z3.trans (same_new nc (o := .lst (cutV vt (some 1) none ++ cutV vt none (some 1))))
    refine ⟨by show 2 ≤ sizeLine; decide, fun p2 np2 => ⟨by show 2 ≤ sizeLine; decide, fun l nl => ?_⟩⟩
    have Z5 := Z4.trans (same_new np2 (o := .tup [.ref h, .ref lc]))
    have Z6 := Z5.trans (same_new nl (o := .lst [.ref p1, .ref p2]))
    have S := S1.same Z6
    have hc := same_new nl (o := .lst [.ref p1, .ref p2]) _ _ (same_new np2 (o := .tup [.ref h, .ref lc]) _ _ (upd_same (a := lc) (H := upd (upd (upd H1 p1 (.tup [.ref h, .ref t])) la (.lst (cutV vt (some 1) none))) lb (.lst (cutV vt none (some 1)))) (o := .lst (cutV vt (some 1) none ++ cutV vt none (some 1)))))
    have h1 := same_new nl (o := .lst [.ref p1, .ref p2]) _ _ (same_new np2 (o := .tup [.ref h, .ref lc]) _ _ (same_new nc (o := .lst (cutV vt (some 1) none ++ cutV vt none (some 1))) _ _ (same_new nb (o := .lst (cutV vt none (some 1))) _ _ (same_new na (o := .lst (cutV vt (some 1) none)) _ _ (upd_same (a := p1) (H := H1) (o := .tup [.ref h, .ref t]))))))
    have h2 := same_new nl (o := .lst [.ref p1, .ref p2]) _ _ (upd_same (a := p2) (H := upd (upd (upd (upd H1 p1 (.tup [.ref h, .ref t])) la (.lst (cutV vt (some 1) none))) lb (.lst (cutV vt none (some 1)))) lc (.lst (cutV vt (some 1) none ++ cutV vt none (some 1)))) (o := .tup [.ref h, .ref lc]))
    have h3 := upd_same (a := l) (H := upd (upd (upd (upd (upd H1 p1 (.tup [.ref h, .ref t])) la (.lst (cutV vt (some 1) none))) lb (.lst (cutV vt none (some 1)))) lc (.lst (cutV vt (some 1) none ++ cutV vt none (some 1)))) p2 (.tup [.ref h, .ref lc])) (o := .lst [.ref p1, .ref p2])
    have nl0 : H l = none := by
      cases e : H l with
      | none => rfl
      | some o =>
        have lb : l ≠ b := (g1.same Z5).nb nl
        rw [(S1.same Z5) _ _ lb e] at nl; cases nl
    have g2 := g1.same Z6
    have st := st.mono Z6
    have sh := sh.mono Z6
    have ptz := Paired.mapP pt fun _ _ => StepV.mono Z6
    show MidS 2 H b c _ (upd (upd (upd (upd (upd (upd H1 p1 (.tup [.ref h, .ref t])) la (.lst (cutV vt (some 1) none))) lb (.lst (cutV vt none (some 1)))) lc (.lst (cutV vt (some 1) none ++ cutV vt none (some 1)))) p2 (.tup [.ref h, .ref lc])) l (.lst [.ref p1, .ref p2]))
    generalize upd (upd (upd (upd (upd (upd H1 p1 (.tup [.ref h, .ref t])) la (.lst (cutV vt (some 1) none))) lb (.lst (cutV vt none (some 1)))) lc (.lst (cutV vt (some 1) none ++ cutV vt none (some 1)))) p2 (.tup [.ref h, .ref lc])) l (.lst [.ref p1, .ref p2]) = H2 at S g2 st sh ptz hc h1 h2 h3 ⊢
    rw [show (some (1 : Int)) = some ((1 : Nat) : Int) from rfl, cut_drop (by omega), cut_take (by omega)] at hc
    refine ⟨t, xs, h, hs, l, _, [(hs, xs), (hs, xs.drop 1 ++ xs.take 1)], rfl, S, g2, st, okt, lt, sh, okh, lh, nl0, h3, .cons ⟨p1, h, t, rfl, h1, sh, st⟩ (.cons ⟨p2, h, lc, rfl, h2, sh, ⟨_, hc, ND.paired_app (paired_drop 1 ptz) (paired_take 1 ptz)⟩⟩ .nil), ?_, by simp, Nat.le_refl 2⟩
    intro p hp
    rcases List.mem_cons.mp hp with hp | hp
    · rw [hp]; exact ⟨okh, lh, okt, tlx⟩
    · rw [List.mem_singleton.mp hp]
      refine ⟨okh, lh, fun y hy => ?_, ?_⟩
      · rcases List.mem_append.mp hy with hy | hy
        · exact okt y (List.mem_of_mem_drop hy)
        · exact okt y (List.mem_of_mem_take hy)
      · have : (xs.drop 1 ++ xs.take 1).length = xs.length := by rw [List.length_append, List.length_drop, List.length_take]; omega
        show ((xs.drop 1 ++ xs.take 1).length : Int) ∈ tails
        rw [this]; exact tlx
  clear ht pt lv vt
  rintro σ H1 ⟨t, xs, h, hs, l, vs, ps, rfl, S1, g1, st, okt, lt, sh, okh, lh, nl, hl, hp, okp, h0, l9⟩
  refine ⟨MidS 3 H b c, ?_, ?_⟩
  · -- the tail twice
    obtain ⟨vt, ht, pt⟩ := id st
    have lv := paired_len pt
    refine ⟨_, rfl, _, _, rfl, .inl ⟨_, SqL.of ht, rfl⟩, rfl, _, rfl, ite2 (fun z => ?_) fun _ => ?_⟩
    · have z : (vt.length : Int) = 12 := by simpa using z
      refine ⟨_, rfl, .inl ⟨rfl, _, SqL.of hl⟩, _, rfl, _, rfl, t, 2, vt, rfl, rfl, ht, by decide, by decide, Nat.le_of_lt (small1000 (by show vt.length * 2 ≤ 1000; omega)), fun la na => ?_⟩
      refine ⟨by show 2 ≤ sizeLine; decide, fun p np => ?_⟩
      have Z := (same_new na (o := .lst (List.replicate (2 : Int).toNat vt).flatten)).trans (same_new np (o := .tup [.ref h, .ref la]))
      have lvp := paired_len hp
      refine ⟨l, vs, _, rfl, rfl, Z _ _ hl, small1000 (by omega), ?_⟩
      refine MidS.add g S1 g1 st okt lt sh okh lh nl hl hp okp h0 (Nat.lt_succ_of_le l9) Z (x := (hs, (List.replicate 2 xs).flatten)) ⟨p, h, la, rfl, upd_same, sh.mono Z, ⟨_, same_new np _ _ upd_same, Paired.mapP (paired_rep pt 2) fun _ _ => StepV.mono Z⟩⟩ ⟨okh, lh, ?_, tl_of ?_⟩
      · intro x hx
        simp at hx
        exact okt x hx
      · simp; omega
    · exact ⟨t, xs, h, hs, l, vs, ps, rfl, S1, g1, st, okt, lt, sh, okh, lh, nl, hl, hp, okp, h0, Nat.le_succ_of_le l9⟩
  clear S1 g1 st okt lt sh okh lh nl hl hp okp h0 l9
  rintro σ H1 ⟨t, xs, h, hs, l, vs, ps, rfl, S1, g1, st, okt, lt, sh, okh, lh, nl, hl, hp, okp, h0, l9⟩
  refine ⟨MidS 4 H b c, ?_, ?_⟩
  · -- the tail as a head
    have tlx : (xs.length : Int) ∈ tails := tl_of (by omega)
    obtain ⟨vt, ht, pt⟩ := id st
    obtain ⟨vh, hh, ph⟩ := id sh
    have lv := paired_len pt
    have lvh := paired_len ph
    refine ⟨_, rfl, _, rfl, h, t, vh, vt, rfl, rfl, hh, ht, Nat.le_of_lt (small1000 (by omega)), fun la na => ?_⟩
    have Z1 := same_new na (o := .lst (vh ++ vt))
    refine ⟨_, _, rfl, .inl ⟨_, SqL.of upd_same, rfl⟩, _, _, rfl, rfl, _, rfl, ite2 (fun z => ?_) fun _ => ?_⟩
    · have z : ((vh ++ vt).length : Int) < 25 := by simpa using z
      rw [List.length_append] at z
      refine ⟨_, rfl, .inl ⟨rfl, _, SqL.of (Z1 _ _ hl)⟩, _, rfl, _, rfl, h, t, vh, vt, rfl, rfl, Z1 _ _ hh, Z1 _ _ ht, Nat.le_of_lt (small1000 (by omega)), fun lb nb => ?_⟩
      have Z2 := Z1.trans (same_new nb (o := .lst (vh ++ vt)))
      refine ⟨_, rfl, by show 2 ≤ sizeLine; decide, fun p np => ?_⟩
      have Z := Z2.trans (same_new np (o := .tup [.ref lb, .ref t]))
      have lvp := paired_len hp
      refine ⟨l, vs, _, rfl, rfl, Z _ _ hl, small1000 (by omega), ?_⟩
      refine MidS.add g S1 g1 st okt lt sh okh lh nl hl hp okp h0 (Nat.lt_succ_of_le l9) Z (x := (hs ++ xs, xs)) ⟨p, lb, t, rfl, upd_same, ⟨_, same_new np _ _ upd_same, Paired.mapP (ND.paired_app ph pt) fun _ _ => StepV.mono Z⟩, st.mono Z⟩ ⟨?_, ?_, okt, tlx⟩
      · intro x hx
        rcases List.mem_append.mp hx with hx | hx
        · exact okh x hx
        · exact okt x hx
      · show (hs ++ xs).length ≤ 24
        rw [List.length_append]; omega
    · exact ⟨t, xs, h, hs, l, vs, ps, rfl, S1.same Z1, g1.same Z1, st.mono Z1, okt, lt, sh.mono Z1, okh, lh, nl, Z1 _ _ hl, Paired.mapP hp fun _ _ => HTV.mono Z1, okp, h0, Nat.le_succ_of_le l9⟩
  clear S1 g1 st okt lt sh okh lh nl hl hp okp h0 l9
  rintro σ H1 ⟨t, xs, h, hs, l, vs, ps, rfl, S1, g1, st, okt, lt, sh, okh, lh, nl, hl, hp, okp, h0, l9⟩
  have lb : l ≠ b := g.nb nl
  have lvp := paired_len hp
  refine ⟨_, rfl, b, c, 3, rfl, g1, by decide, by decide, fun v1 H2 a1 a2 s2 g2 => ⟨_, _, rfl, rfl, ?_⟩⟩
  refine ⟨fun σ H5 => ∃ pr v2 v3, 0 ≤ v2 ∧ v2 ≤ 1000 ∧ σ = [some (.ref b), some (.ref t), some (.ref h), some (.ref l), some (.int (1 + v1)), some (.ref pr)] ∧ But b H1 H5 ∧ Bag H5 b c ∧ H5 pr = some (.tup [.int (1 + v1), .int v2, .bl (decide (V.int v3 = V.int 0))]), ?_, ?_⟩
  · refine ⟨_, rfl, _, rfl, _, rfl, _, _, rfl, rfl, b, c, _, rfl, g2, by omega, by omega, fun v2 H3 b1 b2 s3 g3 => ?_⟩
    refine ⟨_, rfl, b, c, 2, rfl, g3, by decide, by decide, fun v3 H4 c1 c2 s4 g4 => ⟨rfl, by show 3 ≤ sizeLine; decide, fun pr nr => ?_⟩⟩
    exact ⟨pr, v2, v3, b1, by omega, rfl, ((s2.trans s3).trans s4).same (same_new nr), g4.same (same_new nr), upd_same⟩
  rintro σ H5 ⟨pr, v2, v3, b1, b2, rfl, S5, g5, hr⟩
  have hl5 := S5 _ _ lb hl
  have hp5 := Paired.mapP hp fun _ _ => HTV.but g1 S5
  have S1 := S1.trans S5
  -- one of some, with the rest
  have one_of : ∀ {H6 : Hp} {k : Nat} {v : V}, But b H5 H6 → vs[k]? = some v → ∃ q0 ah at_ x, v = .ref q0 ∧ H6 q0 = some (.tup [.ref ah, .ref at_]) ∧ Steps H6 ah x.1 ∧ Steps H6 at_ x.2 ∧ okHT x := by
    intro H6 k v s hk
    obtain ⟨x, hx, q0, ah, at_, e, e1, e2, e3⟩ := paired_get hp5 hk
    exact ⟨q0, ah, at_, x, e, tupB g5 s e1, e2.but g5 s, e3.but g5 s, okp x (List.mem_of_getElem? hx)⟩
  have okv : ∀ {x : HT2}, okHT x → okW ⟨x.1, x.2, 1 + v1, v2, decide (V.int v3 = V.int 0)⟩ := fun {x} o => ⟨o.h, o.hl, o.t, o.tl, by show 1 ≤ 1 + v1; omega, by show 1 + v1 ≤ 1000000000; omega, b1, by show v2 ≤ 1000000000; omega⟩
  have l0 : 0 < ps.length := List.length_pos_iff.mpr h0
  obtain ⟨q1, ah1, at1, x1, e1, h1, sh1, st1, ok1⟩ := one_of (But.refl b H5) (List.getElem?_eq_getElem (show 0 < vs.length by omega))
  have e1' : vs[0]? = some (.ref q1) := by rw [List.getElem?_eq_getElem (show 0 < vs.length by omega), e1]
  refine ⟨_, rfl, l, vs, 0, _, rfl, rfl, SqL.of hl5, atI_nat (j := 0) e1', _, rfl, q1, pr, _, _, rfl, rfl, SqT.of h1, SqT.of hr, by simp, by show 5 ≤ sizeLine; decide, fun e => (by cases e), fun _ p1 np1 => ?_⟩
  have Z6 := same_new np1 (o := .tup ([V.ref ah1, V.ref at1] ++ [V.int (1 + v1), V.int v2, .bl (decide (V.int v3 = V.int 0))]))
  have P1 : PlanV (upd H5 p1 (.tup ([V.ref ah1, V.ref at1] ++ [V.int (1 + v1), V.int v2, .bl (decide (V.int v3 = V.int 0))]))) (.ref p1) ⟨x1.1, x1.2, 1 + v1, v2, decide (V.int v3 = V.int 0)⟩ := ⟨p1, ah1, at1, rfl, upd_same, sh1.mono Z6, st1.mono Z6⟩
  refine ⟨_, rfl, _, rfl, b, c, _, rfl, g5.same Z6, by omega, by omega, fun v4 H7 d1 d2 s7 g7 => ⟨_, _, rfl, rfl, ?_⟩⟩
  have P1 := P1.but (g5.same Z6) s7
  have S7 := (But.of (b := b) Z6).trans s7
  have hl7 := S7 _ _ lb hl5
  refine ⟨_, rfl, _, rfl, _, rfl, _, _, rfl, .inl ⟨_, SqL.of hl7, rfl⟩, b, c, _, rfl, g7, by omega, by omega, fun v5 H8 i1 i2 s8 g8 => ?_⟩
  obtain ⟨k, rfl⟩ := Int.eq_ofNat_of_zero_le i1
  have S8 := S7.trans s8
  obtain ⟨q2, ah2, at2, x2, e2, h2, sh2, st2, ok2⟩ := one_of S8 (List.getElem?_eq_getElem (show k < vs.length by omega))
  have e2' : vs[k]? = some (.ref q2) := by rw [List.getElem?_eq_getElem (show k < vs.length by omega), e2]
  have hr8 := tupB g5 S8 hr
  have P1 := P1.but g7 s8
  refine ⟨l, vs, k, _, rfl, rfl, SqL.of (s8 _ _ lb hl7), atI_nat e2', _, rfl, q2, pr, _, _, rfl, rfl, SqT.of h2, SqT.of hr8, by simp, by show 5 ≤ sizeLine; decide, fun e => (by cases e), fun _ p2 np2 => ?_⟩
  have Z9 := same_new np2 (o := .tup ([V.ref ah2, V.ref at2] ++ [V.int (1 + v1), V.int v2, .bl (decide (V.int v3 = V.int 0))]))
  have P2 : PlanV (upd H8 p2 (.tup ([V.ref ah2, V.ref at2] ++ [V.int (1 + v1), V.int v2, .bl (decide (V.int v3 = V.int 0))]))) (.ref p2) ⟨x2.1, x2.2, 1 + v1, v2, decide (V.int v3 = V.int 0)⟩ := ⟨p2, ah2, at2, rfl, upd_same, sh2.mono Z9, st2.mono Z9⟩
  have g9 := g8.same Z9
  refine ⟨_, rfl, _, rfl, b, c, _, rfl, g9, by omega, by omega, fun v6 H10 j1 j2 s10 g10 => ⟨_, _, rfl, rfl, ?_⟩⟩
  exact two_ret q (((S1.trans S8).same Z9).trans s10) g10 ((P1.mono Z9).but g9 s10) (P2.but g9 s10) ⟨okv ok1, okv ok2, by omega, by show 1 + v4 ≤ 1 + v1; omega, by omega, by show 1 + v6 ≤ 1 + v1; omega⟩
end
end WH

set_option maxHeartbeats 4000000
/-! displays whose new object is told by what stands there, the heap behind it by no more -/
namespace NW
open PySem PySem.Spec PyProof.Rows L2
theorem same_fresh {H : Hp} {p : Addr} {o : HO} (h : H p = none) : Same H (upd H p o) := fun b u e => by rw [upd_ne (ne_of_none e h)]; exact e
def tTupN (t : TA) : TE := fun σ H Q => t σ H fun xs H1 => xs.length ≤ sizeLine ∧ ∀ p H2, H1 p = none → Same H1 H2 → H2 p = some (.tup xs) → Q (.ref p) H2
def tLstN (t : TA) : TE := fun σ H Q => t σ H fun xs H1 => xs.length ≤ sizeLine ∧ ∀ p H2, H1 p = none → Same H1 H2 → H2 p = some (.lst xs) → Q (.ref p) H2
section
variable {X : Cx} {es : List Expr} {t : TA} {pos : Pos}
theorem pe_tupN {x1} (h : PA X es t) : PE X (.Tuple es x1 pos) (tTupN t) := by
  refine ⟨fun pins s σ H Q I hq => ?_⟩
  refine wpAny_Tuple_spliced (thn (h.run pos pins s σ H _ I hq) fun us s1 ⟨xs, H1, I1, r, z, q⟩ => ⟨by rw [← r.length]; exact z, ?_⟩)
  have hf : H1 s1.heap.objs.size = none := I1.hok.fresh (Nat.le_refl _)
  exact ⟨.ref s1.heap.objs.size, upd H1 s1.heap.objs.size (.tup xs), I1.laid (t' := s1.toks) (fun b u e => Heap.get?_push_of_some _ e) (Nat.le_refl _) ⟨z, us, r, ⟨_, Heap.get?_push_size _ rfl, rfl, _, rfl⟩⟩, rfl, q _ _ hf (same_fresh hf) upd_same⟩
theorem pe_lstN (h : PA X es t) : PE X (.List es pos) (tLstN t) := by
  refine ⟨fun pins s σ H Q I hq => ?_⟩
  refine wpAny_List_spliced (thn (h.run pos pins s σ H _ I hq) fun us s1 ⟨xs, H1, I1, r, z, q⟩ => ⟨by rw [← r.length]; exact z, ?_⟩)
  have hf : H1 s1.heap.objs.size = none := I1.hok.fresh (Nat.le_refl _)
  exact ⟨.ref s1.heap.objs.size, upd H1 s1.heap.objs.size (.lst xs), I1.laid (t' := s1.toks) (fun b u e => Heap.get?_push_of_some _ e) (Nat.le_refl _) ⟨z, us, 0, r, Heap.get?_push_size _ rfl⟩, rfl, q _ _ hf (same_fresh hf) upd_same⟩
def rCatN : R2 := fun x y H Q => ∃ l b xs zs, x = .ref l ∧ y = .ref b ∧ H l = some (.lst xs) ∧ H b = some (.lst zs) ∧ xs.length + zs.length ≤ sizeLine ∧ ∀ p H2, H p = none → Same H H2 → H2 p = some (.lst (xs ++ zs)) → Q (.ref p) H2
theorem op_catN : OpR X (binaryOp .Add) rCatN := by
  intro pins s σ H x y v u Q I rx ry h
  obtain ⟨l, b, xs, zs, e1, e2, h1, h2, hz, q⟩ := h
  exact op_cat pins s σ H x y v u Q I rx ry ⟨l, b, xs, zs, e1, e2, h1, h2, hz, fun p np => q p _ np (same_fresh np) upd_same⟩
def rRepN : R2 := fun x y H Q => ∃ l k xs, x = .ref l ∧ y = .int k ∧ H l = some (.lst xs) ∧ -(2 ^ 63) ≤ k ∧ k < 2 ^ 63 ∧ xs.length * k.toNat ≤ sizeLine ∧ ∀ p H2, H p = none → Same H H2 → H2 p = some (.lst (List.replicate k.toNat xs).flatten) → Q (.ref p) H2
theorem op_repN : OpR X (binaryOp .Mult) rRepN := by
  intro pins s σ H x y v u Q I rx ry h
  obtain ⟨l, k, xs, e1, e2, h1, h2, h3, hz, q⟩ := h
  exact op_rep pins s σ H x y v u Q I rx ry ⟨l, k, xs, e1, e2, h1, h2, h3, hz, fun p np => q p _ np (same_fresh np) upd_same⟩
def rCatTN (K : PySem.W.Frag) : R2 := fun x y H Q => ∃ a b xs ys, x = .ref a ∧ y = .ref b ∧ SqT K H a xs ∧ SqT K H b ys ∧ xs ≠ [] ∧ xs.length + ys.length ≤ sizeLine ∧
  (ys = [] → Q (.ref a) H) ∧ (ys ≠ [] → ∀ p H2, H p = none → Same H H2 → H2 p = some (.tup (xs ++ ys)) → Q (.ref p) H2)
theorem op_catTN : OpR X (binaryOp .Add) (rCatTN X.K) := by
  intro pins s σ H x y v u Q I rx ry h
  obtain ⟨l, b, xs, zs, e1, e2, h1, h2, h3, hz, q1, q⟩ := h
  exact op_catT pins s σ H x y v u Q I rx ry ⟨l, b, xs, zs, e1, e2, h1, h2, h3, hz, q1, fun n p np => q n p _ np (same_fresh np) upd_same⟩
def rSlLN (K : PySem.W.Frag) : V → Option Int → Option Int → Hp → VK → Prop := fun x lo hi H Q => ∃ a xs, x = .ref a ∧ SqL K H a xs ∧ ∀ p H2, H p = none → Same H H2 → H2 p = some (.lst (cutV xs lo hi)) → Q (.ref p) H2
theorem sl_listN : SlR X (rSlLN X.K) := by
  intro pins s σ H x v vl vu lo hi sl Q I rx hs pl pu h
  obtain ⟨a, xs, e, hx, q⟩ := h
  exact sl_list pins s σ H x v vl vu lo hi sl Q I rx hs pl pu ⟨a, xs, e, hx, fun p np => q p _ np (same_fresh np) upd_same⟩
def rSlTN (K : PySem.W.Frag) : V → Option Int → Option Int → Hp → VK → Prop := fun x lo hi H Q => ∃ a xs, x = .ref a ∧ SqT K H a xs ∧ ¬ (HT.sIx xs.length 0 lo = 0 ∧ HT.sIx xs.length xs.length hi = xs.length) ∧ ∀ p H2, H p = none → Same H H2 → H2 p = some (.tup (cutV xs lo hi)) → Q (.ref p) H2
theorem sl_tupN : SlR X (rSlTN X.K) := by
  intro pins s σ H x v vl vu lo hi sl Q I rx hs pl pu h
  obtain ⟨a, xs, e, hx, hw, q⟩ := h
  exact sl_tup pins s σ H x v vl vu lo hi sl Q I rx hs pl pu ⟨a, xs, e, hx, hw, fun p np => q p _ np (same_fresh np) upd_same⟩
theorem call_list_ofN : CallR X (.type "list") (fun xs H Q => ∃ p ys, xs = [.ref p] ∧ (SqL X.K H p ys ∨ SqT X.K H p ys) ∧ ∀ l H2, H l = none → Same H H2 → H2 l = some (.lst ys) → Q (.ref l) H2) := by
  intro pins s σ H xs us Q I r h
  obtain ⟨p, ys, e, hq, q⟩ := h
  exact call_list_of pins s σ H xs us Q I r ⟨p, ys, e, hq, fun p np => q p _ np (same_fresh np) upd_same⟩
end
end NW

/-! rules within a comprehension's block, K told -/
namespace KX
open PySem PySem.Spec PyProof.Rows L2
variable {X : Cx} {K : PySem.W.Frag}
theorem ix_tup (h : X.K = K) : IxR X (rIxT K) := by subst h; exact L2.ix_tup
theorem ix_list (h : X.K = K) : IxR X (rIxL K) := by subst h; exact L2.ix_list
theorem ix_seq (h : X.K = K) : IxR X (rIx K) := by subst h; exact L2.ix_seq
theorem call_len (h : X.K = K) : CallR X (.builtin "len") (fun xs H Q => ∃ x n, xs = [x] ∧ LenV K x H n ∧ Q (.int n) H) := by subst h; exact L2.call_len
theorem op_in_seq (h : X.K = K) : OpR X (compareOp .In) (rIn K false) := by subst h; exact L2.op_in_seq
theorem op_notIn_seq (h : X.K = K) : OpR X (compareOp .NotIn) (rIn K true) := by subst h; exact L2.op_notIn_seq
end KX

set_option maxHeartbeats 4000000
namespace ND
open PySem PySem.Spec PyProof.Rows L2
def tNEmp (P : Program) (w : World) : TE := fun _ H Q => ∀ d H2, H d = none → Same H H2 → H2 d = some (ndO P w d []) → Q (.ref d) H2
/-- an empty dict for such keys -/
theorem pe_emp {X : Cx} {pos : Pos} : PE X (.Dict [] [] pos) (tNEmp X.prog X.w) := by
  refine ⟨fun pins s σ H Q I q => ?_⟩
  have nf := I.hok.fresh (Nat.le_refl s.heap.objs.size)
  have I1 := I.laid (a := s.heap.objs.size) (o := ndO X.prog X.w s.heap.objs.size []) (h' := s.heap.push { cls := .type "dict", data := .dict #[] }) (t' := s.toks) (fun _ _ z => Heap.get?_push_of_some _ z) (Nat.le_refl _) (ndO_ok (nd_empty s.heap I.big))
  exact wpAny_Dict_empty ⟨.ref s.heap.objs.size, _, I1, rfl, q _ _ nf (NW.same_fresh nf) upd_same⟩
end ND

set_option maxHeartbeats 4000000
/-! defs that are called where no repr is under way (no guards): what repr of data wants -/
namespace GL
open PySem PySem.Spec PyProof.Rows L2
/-- a def's promise, called where no guard is up -/
structure FnG (P : Program) (w : World) (K : PySem.W.Frag) (mg : Str → Option Value) (base : Heap) (CX : CXT) (k : Nat) (f : Addr) (fd : FuncData) (ps : List Str) (sp : Sp) : Prop where
  lens : ∀ vs H Q E, sp vs H Q E → vs.length = ps.length
  runs : ∀ (B : Around) (fr : List Env) (s : Shared) (H : Hp) (ar : Args) (us : List Value) (vs : List V) (Q : VK) (E : XK), Room k B → B.guards = some [] → Env0 P w K mg base B fr s H → BindsTo s fd ar (ps.zip us) → Vals vs us → sp vs H Q E →
    codeAny (model P w) B (.call (.ref f) ar) (CR CX fr P w H s Q E) s
section
variable {P : Program} {w : World} {K : PySem.W.Frag} {mg : Str → Option Value} {base : Heap} {CX : CXT} {k : Nat} {f : Addr} {fd : FuncData} {ps N : List Str} {sp : Sp}
theorem FnG.of (F : FnOk P w K mg base CX k f fd ps sp) : FnG P w K mg base CX k f fd ps sp := ⟨F.len, fun B fr s H ar us vs Q E hr _ => F.run B fr s H ar us vs Q E hr⟩
theorem FnG.up {j : Nat} (F : FnG P w K mg base CX j f fd ps sp) (h : j ≤ k) : FnG P w K mg base CX k f fd ps sp := ⟨F.lens, fun B fr s H ar us vs Q E hr => F.runs B fr s H ar us vs Q E (hr.mono h)⟩
/-- the rule for a def by its body, guards known -/
theorem okG {x qual : Str} {params : Arguments} {body : List Stmt} {scope : Scope} {dvs : List V} {kws : List (Str × V)} (F : FunD K x qual params body scope dvs kws f fd) (S : FnScope N ps scope) (len : ∀ vs H Q E, sp vs H Q E → vs.length = ps.length)
    (go : ∀ (cdv : Value) (A : Around) (outer : List Env) (s : Shared) (H : Hp) (vs : List V) (Q : VK) (E : XK), Room k (A.deeper (envOfC qual scope s.heap.objs.size f cdv)) → A.guards = some [] → sp vs H Q E →
      ∃ t, PSs (cxOf CX P w K mg base N qual scope f cdv A outer s H E) body t ∧ t { nx := fun _ H' => Q .non H', rt := Q } (start N vs) H) : FnG P w K mg base CX (k + 1) f fd ps sp := by
  obtain ⟨c0, c1, c2, c3, c4, c5, c6, cdv, c8, c9, rfl, look, code, _, _⟩ := F.ex
  refine ⟨len, fun B fr s H ar us vs Q E room gd env0 bnd rel want => ?_⟩
  have nv := len vs H Q E want
  have kin : K.In s.heap := env0.mod.kin.keeps fun b o e => (env0.bs b o e).1
  have nolim : s.heap.NoLimit := env0.mod.nolimit.keeps fun b o e => (env0.bs b o e).1
  have kinds : ∀ y ∈ ps.zip us, scope.names.lookup y.1 = some .local ∨ (scope.names.lookup y.1 = some .cell ∧ ((cellsFrom (s.heap.objs.size + 1) scope.names []).lookup y.1).isSome = true) := by
    rintro ⟨n, v⟩ mem
    exact (S.par n (List.of_mem_zip mem).1).imp id fun q => ⟨q, PySem.W.cellsFrom_some _ _ _ (.inl q)⟩
  refine codeAny_call_function room.depth (kin _ _ look) rfl S.co S.gen rfl (PySem.W.codeRec_of kin code) (bnd _ _ _ _ (wpAny_newFunctionEnv_cells S.kind kinds fun ev he t1 inC => ?_))
  subst he
  obtain ⟨t, der, now⟩ := go cdv B fr s H vs Q E (room.deeper _) gd want
  have inv := inv_start (CX := CX) (E := E) S room.hd env0 nv rel inC
  refine ⟨nolim.keeps inC.toInCall.keep, codeAny_func (wpAny_mono (der.run [] t1 (start N vs) H _ inv now) (fun fl z hz => ?_) fun _ _ hz => hz)⟩
  have done : ∀ {σ' : L2.St} {H' : Hp} {v : V} {u : Value}, L2.Inv (cxOf CX P w K mg base N qual scope f cdv B fr s H E) [] σ' H' z → RelV v u → Q v H' → CE fr P w H s Q u z := fun {_ H' v _} J rv q => ⟨v, H', J.os, J.bare, J.base, J.hok, rv, q⟩
  match fl, hz with
  | .ret _, ⟨_, _, _, J, rv, q⟩ => exact done J rv q
  | .next, ⟨_, _, J, q⟩ => exact done (v := V.non) (u := Value.none) J rfl q
  | .brk, ⟨_, _, _, q⟩ => exact q.elim
  | .cont, ⟨_, _, _, q⟩ => exact q.elim
/-- a def called by its name -/
structure CalG (P : Program) (w : World) (K : PySem.W.Frag) (mg : Str → Option Value) (base : Heap) (k : Nat) (x : Str) (sp : Sp) (dvs : List V) : Prop where
  exg : ∃ (f : Addr) (fd : FuncData) (ps : List Str) (ds : List Value), FnG P w K mg base C8.CX0 k f fd ps sp ∧ mg x = some (.ref f) ∧ PySem.W.keepIn K (.ref f) = true ∧ Binds K fd ps ds ∧ Vals dvs ds
end
section
variable {X : Cx} {k j : Nat} {f : Addr} {sp : Sp} {dvs : List V} {x : Str} {p pos : Pos} {e : Expr} {es : List Expr} {t : TA}
theorem pe_cG (c : CalG X.prog X.w X.K X.mg X.base k x sp dvs) (hr : Room j X.A) (hk : k ≤ j) (gd : X.A.guards = some []) (hg : Gl X x) (ha : PA X (e :: es) t)
    (hd : (x == ("__debug__" : Str)) = false := by decide) (he : starEach (e :: es) X.env = (false, eval e X.env) :: starEach es X.env := by rfl) (hp : (backTo pos (starEach es X.env)).any (·.1) = false := by rfl) :
    PE X (.Call (.Name x p) (e :: es) [] pos) (tCall sp dvs C8.E0 t) := by
  obtain ⟨f, fd, ps, ds, F, hm, kp, b, dv⟩ := c.exg
  refine ⟨fun pins s σ H Q I h => wpAny_Call_Name_kw (ld_glob I hg hm (PySem.W.callWith_K (h₀ := X.base) I.ok.mod.kin kp (thn (ha.run pos pins s σ H _ I h) fun us s1 ⟨vs, H1, I1, r, q⟩ => ⟨I1.kIn, ?_⟩) he hp) hd)⟩
  have rr : Vals (vs ++ dvs) (us ++ ds) := r.append dv
  refine wpAny_call (codeAny_mono (F.runs X.A X.stack s1 H1 ⟨us, []⟩ (us ++ ds) (vs ++ dvs) Q C8.E0 (hr.mono hk) gd I1.env0 (b s1 us I1.kIn (rr.length.symm.trans (F.lens _ _ _ _ q))) rr q) fun z s' hz => ?_)
  match z, hz with
  | .error e, hz => exact (C8.pass0 (E := C8.E0) pins σ H1 s1 e s' I1 hz)
  | .ok (.ret u), hz => exact I1.after hz
  | .ok .next, hz => exact hz.elim
  | .ok .brk, hz => exact hz.elim
  | .ok .cont, hz => exact hz.elim
theorem pe_c0G (c : CalG X.prog X.w X.K X.mg X.base k x sp dvs) (hr : Room j X.A) (hk : k ≤ j) (gd : X.A.guards = some []) (hg : Gl X x) (hd : (x == ("__debug__" : Str)) = false := by decide) : PE X (.Call (.Name x p) [] [] pos) (tCall sp dvs C8.E0 tNil) := by
  obtain ⟨f, fd, ps, ds, F, hm, kp, b, dv⟩ := c.exg
  refine ⟨fun pins s σ H Q I h => wpAny_Call_Name_kw (ld_glob I hg hm (PySem.W.callWith_K0 I.kIn kp ?_) hd)⟩
  refine wpAny_call (codeAny_mono (F.runs X.A X.stack s H ⟨[], []⟩ ds dvs Q C8.E0 (hr.mono hk) gd I.env0 (b s [] I.kIn (dv.length.symm.trans (F.lens _ _ _ _ h))) dv h) fun z s' hz => ?_)
  match z, hz with
  | .error e, hz => exact (C8.pass0 (E := C8.E0) pins σ H s e s' I hz)
  | .ok (.ret u), hz => exact I.after hz
  | .ok .next, hz => exact hz.elim
  | .ok .brk, hz => exact hz.elim
  | .ok .cont, hz => exact hz.elim
/-- repr of data -/
theorem call_reprD (gd : X.A.guards = some []) (hu : X.A.units + 64 < cLine) : CallR X (.builtin "repr") (fun xs H Q => ∃ a d, xs = [.ref a] ∧ Dp X.K H (.ref a) d ∧ d.showable = true ∧ d.hasDict = false ∧ d.depth ≤ 60 ∧ d.shown.length ≤ sizeLine ∧ Q (.str d.shown) H) := by
  intro pins s σ H xs us Q I r h
  obtain ⟨a, d, rfl, hd, h1, h2, h3, h4, q⟩ := h
  obtain ⟨u, rfl, ru⟩ := vals1 r
  obtain rfl : u = Value.ref a := ru
  obtain ⟨as, rd⟩ := Dp.reads I d _ _ hd rfl
  exact repr_of_reads' rd h1 (fun z => by rw [h2] at z; cases z) gd (by omega) (fun _ _ e => e) (fun h' v tk hk => ⟨.str _, H, I.kept hk, ⟨_, rfl⟩, q⟩) h4
end
/-! ### the end -/
section
variable {P : Program} {w : World} {K : PySem.W.Frag} {mg mb : Str → Option Value} {CX : CXT} {k : Nat} {fa a : Addr} {fd : FuncData} {x : Str} {sp : Sp} {s₁ : Shared} {vs : List Value} {ns : List Int}
theorem law_callG (kin : K.In s₁.heap) (nsm : s₁.heap.Ns mainGlobals mg) (nsb : s₁.heap.Ns builtinsNs mb) (boot : ∀ x : Str, x ≠ "__name__" → mb x = bootBuiltins x) (lim : s₁.heap.NoLimit) (gens : s₁.gens = #[])
    (obj : s₁.heap.get? a = some { cls := .type "list", data := .seq vs.toArray }) (intz : IntsAre vs ns) (few : ns.length ≤ sizeLine) (room : Room k callerA)
    (F : ∀ base : Heap, K.In base → base.Ns mainGlobals mg → FnG P w K mg base CX k fa fd [x] sp) (bind : ∀ (s : Shared) (u : Value), BindsTo s fd ⟨[u], []⟩ [(x, u)])
    (want : ∀ H : Hp, Only H → SqL K H a (ns.map V.int) → sp [.ref a] H (fun v _ => v = .bl true) fun _ _ _ => False) (noX : ∀ H e s', CX [] H s₁ (fun _ _ _ => False) e s' → False) :
    codeAny (model P w) callerA (.call (.ref fa) ⟨[.ref a], []⟩) (fun r s' => r = .ok (.ret (.bool true)) ∧ OldK s₁.heap s'.heap ∧ s'.os = s₁.os ∧ AllBare s'.gens) s₁ := by
  have rel := vals_ints intz
  have nlen := intz.length
  have core : ∀ H : Hp, Only H → SqL K H a (ns.map V.int) → HOk P w H s₁.heap → (∀ b, H b ≠ none → b = a) → (H a ≠ none → K.lookup a = none) →
      codeAny (model P w) callerA (.call (.ref fa) ⟨[.ref a], []⟩) (fun r s' => r = .ok (.ret (.bool true)) ∧ OldK s₁.heap s'.heap ∧ s'.os = s₁.os ∧ AllBare s'.gens) s₁ := by
    intro H only sq hok at_a out
    have fst : ∀ {b : Addr} {o : Obj}, s₁.heap.get? b = some o → H b = none → (hidT s₁.heap H).get? b = some o := fun e n => hidT_get e n
    have dictless : ∀ {b : Addr} {o : Obj} {es : Array DictEntry} {ep : Nat}, s₁.heap.get? b = some o → o.data = .dict es ep → H b = none := by
      intro b o es ep e d
      match q : H b with
      | none => rfl
      | some u =>
        obtain rfl : b = a := at_a b (fun z => by rw [z] at q; cases q)
        have e2 := obj.symm.trans e
        cases e2
        exact nomatch (show Data.seq vs.toArray _ = Data.dict es ep from d)
    have names : ∀ {b : Addr} {m : Str → Option Value}, s₁.heap.Ns b m → (hidT s₁.heap H).Ns b m := by
      rintro b m ⟨o, es, ep, e, d, r⟩
      exact ⟨o, es, ep, fst e (dictless e d), d, r⟩
    have kb : K.In (hidT s₁.heap H) := by
      intro b o e
      refine fst (kin b o e) ?_
      match q : H b with
      | none => rfl
      | some u =>
        obtain rfl : b = a := at_a b (fun z => by rw [z] at q; cases q)
        have z := out (fun z => by rw [z] at q; cases q)
        exact nomatch (z.symm.trans e)
    obtain ⟨mc, l1, l2⟩ := lim
    have md : Mod K mg (hidT s₁.heap H) := ⟨kb, names nsm, ⟨mb, names nsb, boot⟩, mc, names l1, l2⟩
    have nil : ∀ {b : Addr}, b ∈ ([] : List Addr) → False := fun z => by simp at z
    have env0 : Env0 P w K mg (hidT s₁.heap H) callerA [] s₁ H := ⟨rfl, md, fun b o e => of_hidT e, Nat.le_of_eq (hidT_size _ _), trivial, fun b hb => (nil hb).elim, hok, .of_eq gens⟩
    refine codeAny_mono ((F _ kb (names nsm)).runs callerA [] s₁ H ⟨[.ref a], []⟩ [.ref a] [.ref a] _ _ room rfl env0 (bind s₁ (.ref a)) (.cons rfl .nil) (want H only sq)) fun r s' h => ?_
    match r, h with
    | .error e, h => exact (noX H e s' h).elim
    | .ok .next, h => exact h.elim
    | .ok .brk, h => exact h.elim
    | .ok .cont, h => exact h.elim
    | .ok (.ret u), ⟨v, H', os, bare, un, hok', r', q⟩ =>
      obtain rfl : v = .bl true := q
      obtain rfl : u = Value.bool true := r'
      refine ⟨rfl, OldK.of_keep fun b o e => ?_, os, bare⟩
      match q : H b with
      | none => exact un.keep b o e q (fun z => nil z) (by simp)
      | some u =>
        rcases only b with z | ⟨ob, xs, z⟩
        · exact nomatch (q.symm.trans z)
        · obtain ⟨f1, _⟩ := hok b _ z
          obtain ⟨f2, _⟩ := hok' b _ (un.frzs b ob _ z)
          have e2 := f1.symm.trans e
          cases e2
          exact f2
  match lk : K.lookup a with
  | some o =>
    have e2 := obj.symm.trans (kin a o lk)
    cases e2
    exact core (fun _ => none) (fun _ => .inl rfl) (.inr ⟨_, vs.toArray, _, lk, rfl, rfl, rfl, by rw [List.size_toArray, nlen]; exact few, by simpa using rel⟩) (fun _ _ z => nomatch (show (none : Option HO) = some _ from z)) (fun _ z => (z rfl).elim) fun z => (z rfl).elim
  | none =>
    refine core (fun b => if b = a then some (.frz { cls := .type "list", data := .seq vs.toArray } (.lst (ns.map V.int))) else none) (fun b => ?_) (.inl (.inr ⟨_, if_pos rfl⟩)) (fun b u z => ?_) (fun b z => ?_) fun _ => lk
    · by_cases q : b = a
      · exact .inr ⟨_, _, if_pos q⟩
      · exact .inl (if_neg q)
    · by_cases q : b = a
      · have z2 := (if_pos q).symm.trans z
        cases z2
        subst q
        exact ⟨obj, by rw [List.length_map]; exact few, vs, _, rel, obj⟩
      · exact nomatch (if_neg q).symm.trans z
    · exact Classical.byContradiction fun q => z (if_neg q)
end
theorem walk_G {l : PySem.W.OpenLaw} {n k : Nat} {q : Program} {loose : List Str} {XP : (Str → Option Value) → Heap → Prop} {YP : World → Heap → Prop} {d : DefRec} {CX : CXT} {x : Str} (most : l.most = some n) (few : n ≤ sizeLine) (hdf : d.params.defaults = []) (room : Room k callerA)
    (F : ∀ (w : World) (mg : Str → Option Value) (fa : Addr) (h : Heap), YP w h → h.Ns mainGlobals mg → mg d.name = some (.ref fa) → ∃ (K : PySem.W.Frag) (fd : FuncData) (sp : Sp), K.In h ∧ (∀ (s : Shared) (u : Value), BindsTo s fd ⟨[u], []⟩ [(x, u)]) ∧
        (∀ (H : Hp) (a : Addr) (ns : List Int), ns.length ≤ n → Only H → SqL K H a (ns.map V.int) → sp [.ref a] H (fun v _ => v = .bl true) fun _ _ _ => False) ∧ ∀ base : Heap, K.In base → base.Ns mainGlobals mg → FnG l.prog w K mg base CX k fa fd [x] sp)
    (noX : ∀ (H : Hp) (s : Shared) (e : Value) (s' : Shared), CX [] H s (fun _ _ _ => False) e s' → False) : PySem.W.WalkO q loose XP YP l.row.toRowW d [] (fun f vs => PySem.call f vs) := by
  refine Att.attach_call most hdf fun w s₀ s₁ mg mb fa o pm cd doc a vs ns G Y ho fun_ code name obj intz len gens => ?_
  obtain ⟨K, fd, sp, kin, b, want, ok⟩ := F w mg fa _ Y G.T.g name
  exact law_callG kin G.T.g G.T.b G.T.builtins G.T.nolimit gens obj intz (Nat.le_trans len few) room ok b (fun H o sq => want H a ns len o sq) fun H e s' => noX H s₁ e s'
end GL

set_option maxHeartbeats 4000000
/-! order of data that are alike: >, sorted of what is sorted -/
namespace DL
open PySem PySem.Spec PyProof.Rows L2
theorem zipR : ∀ {xs : List V} {us : List Value} {ds : List PyData}, Vals xs us → ds.length = xs.length → PySem.W.EachIs (fun v (b : PyData × V) => RelV b.2 v) us (ds.zip xs)
  | _, _, [], .nil, _ => .nil
  | _, _, _ :: _, .nil, h => by cases h
  | _, _, [], .cons _ _, h => by cases h
  | _, _, d :: ds, .cons r t, h => .cons r (zipR t (by simpa using h))
theorem zipE {X : Cx} {pins : List (Addr × Obj)} {σ : L2.St} {H : Hp} {s : Shared} (I : L2.Inv X pins σ H s) : ∀ {xs : List V} {us : List Value} {ds : List PyData}, Vals xs us → DpAll X.K H xs ds → PySem.W.EachIs (fun v (b : PyData × V) => ∃ as, Reads s.heap v b.1 as) us (ds.zip xs)
  | _, _, _, .nil, .nil => .nil
  | _, _, _, .cons r t, .cons d e => .cons (Dp.reads I _ _ _ d r) (zipE I t e)
theorem dpl {K : PySem.W.Frag} {H : Hp} : ∀ {xs : List V} {ds : List PyData}, DpAll K H xs ds → ds.length = xs.length
  | _, _, .nil => rfl
  | _, _, .cons _ t => congrArg Nat.succ (dpl t)
theorem outR : ∀ {xs : List V} {out : List Value} {ds : List PyData}, ds.length = xs.length → PySem.W.EachIs (fun v (b : PyData × V) => RelV b.2 v) out (ds.zip xs) → Vals xs out
  | [], _, [], _, .nil => .nil
  | _ :: _, _, _ :: _, h, .cons r t => .cons r (outR (by simpa using h) t)
theorem zip1 : ∀ {xs : List V} {ds : List PyData}, ds.length = xs.length → (ds.zip xs).map (·.1) = ds
  | [], [], _ => rfl
  | _ :: _, d :: ds, h => by
    show d :: (ds.zip _).map (·.1) = _
    rw [zip1 (by simpa using h)]
section
variable {X : Cx}
/-- sorted(list), of data that stand in their order -/
theorem call_sortedD (hu : X.A.units + 64 < cLine) : CallR X (.builtin "sorted") (fun vs H Q => ∃ (a : Addr) (xs : List V) (ds : List PyData), vs = [.ref a] ∧ SqL X.K H a xs ∧ DpAll X.K H xs ds ∧ (∀ d ∈ ds, ∀ e ∈ ds, PySem.W.alike d e = true) ∧
    (∀ d ∈ ds, ∃ x r, d = .tuple (x :: r)) ∧ (∀ d ∈ ds, d.depth ≤ 50) ∧ ds.Pairwise (fun d e => PySem.W.dataLt e d = false) ∧ xs.length ≤ sizeLine ∧ ∀ p H2, H p = none → Same H H2 → H2 p = some (.lst xs) → Q (.ref p) H2) := by
  intro pins s σ H vs us Q I r h
  obtain ⟨a, xs, ds, rfl, hs, hd, hal, hso, hdp, hpw, hz, q⟩ := h
  obtain ⟨its, rv, hl, _⟩ := I.list hs
  rw [Vals.ref1 r]
  have ll := dpl hd
  have e1 := zip1 ll
  have sor : (ds.zip xs).mergeSort (PySem.W.dataLe false fun b : PyData × V => b.1) = ds.zip xs := by
    refine List.mergeSort_of_pairwise ?_
    have : ((ds.zip xs).map (·.1)).Pairwise (fun d e => PySem.W.dataLt e d = false) := by rw [e1]; exact hpw
    rw [List.pairwise_map] at this
    refine this.imp fun {x y} h => ?_
    rw [PySem.W.dataLe_eq]
    show (!PySem.W.dataLt y.1 x.1) = true
    rw [h]; rfl
  refine PySem.W.sorted_data (enc := fun b : PyData × V => b.1) (bs := ds.zip xs) hl.isList (zipR rv ll) (zipE I rv hd) ?_ (.inl fun d hd => ?_) (by rw [List.length_zip]; omega) (fun b hb => ?_) fun out _ eo => ?_
  · rw [e1]; exact hal
  · rw [e1] at hd; exact hso d hd
  · have := hdp b.1 (by rw [← e1]; exact List.mem_map_of_mem hb)
    omega
  · rw [sor] at eo
    have vo := outR ll eo
    obtain ⟨ep, he⟩ := PyProof.Rows.sortedAll_at s.heap its out.toArray
    have nf := I.hok.fresh (Nat.le_succ s.heap.objs.size)
    exact ⟨.ref _, upd H (s.heap.objs.size + 1) (.lst xs), I.laid (t' := s.toks) (fun _ _ => PyProof.Rows.sortedAll_old) (Nat.le_succ _) ⟨hz, out, ep, vo, he⟩, rfl, q _ _ nf (fun b u e => by rw [upd_ne (ne_of_none e nf)]; exact e) upd_same⟩
/-- x > y, of data -/
theorem op_gtD (hu : X.A.units + 64 < cLine) : OpR X (compareOp .Gt) (fun x y H Q => ∃ d e, Dp X.K H x d ∧ Dp X.K H y e ∧ PySem.W.alike d e = true ∧ d ≠ .none ∧ d.depth ≤ 50 ∧ Q (.bl (PySem.W.dataLt e d)) H) := by
  intro pins s σ H x y v u Q I rx ry h
  obtain ⟨d, e, hd, he, al, nn, dp, q⟩ := h
  obtain ⟨as, r1⟩ := Dp.reads I d x v hd rx
  obtain ⟨bs, r2⟩ := Dp.reads I e y u he ry
  exact PySem.W.gt_data r1 r2 al nn (by omega) ⟨.bl _, H, I, rfl, q⟩
end
end DL

set_option maxHeartbeats 4000000
namespace WH
open PySem PySem.Spec PyProof.Rows L2
/-! ### the plain law -/
/-- l' stands ahead of l in the order of rows -/
def Ahead (l' l : List Bool) : Prop := l'.length < l.length ∨ (l'.length = l.length ∧ ∃ k, l'.take k = l.take k ∧ l'[k]? = some true ∧ l[k]? = some false)
theorem stA_ok {w : WN} (ok : okW w) {s : Int} (h1 : 0 ≤ s) (h2 : s ≤ w.cap) (n : Nat) : ∀ (l : List Bool), 0 ≤ (stA w (s, n) l).1 ∧ (stA w (s, n) l).1 ≤ w.cap := by
  intro l
  unfold stA
  induction l generalizing s n with
  | nil => exact ⟨h1, h2⟩
  | cons b l ih =>
    have c := ok.c1
    show 0 ≤ (List.foldl (stepA w) (stepA w (s, n) b) l).1 ∧ _
    have hs : 0 ≤ (stepA w (s, n) b).1 ∧ (stepA w (s, n) b).1 ≤ w.cap := by
      cases b with
      | true =>
        have := turn_le ok h1 n
        exact ⟨this.2, by show w.turn s n ≤ w.cap; omega⟩
      | false =>
        show 0 ≤ w.ask s ∧ w.ask s ≤ w.cap
        by_cases z : s = 0
        · unfold WN.ask; rw [if_pos z]; omega
        · have := ask_ok ok (show 1 ≤ s by omega) h2; omega
    exact ih hs.1 hs.2 _
def stOf (w : WN) (s : Int) (l : List Bool) : Stt := l.foldl (fun st b => w.led b st) (some (s, 0))
theorem stOf_snoc (w : WN) (s : Int) (l : List Bool) (b : Bool) : stOf w s (l ++ [b]) = w.led b (stOf w s l) := by
  unfold stOf; rw [List.foldl_append]; rfl
theorem stA_snoc (w : WN) (p : Int × Nat) (l : List Bool) (b : Bool) : stA w p (l ++ [b]) = stepA w (stA w p l) b := by
  unfold stA; rw [List.foldl_append]; rfl
theorem at_phase {w : WN} (ok : okW w) (n : Nat) : w.at (w.phase n) = w.at n := by
  have tp := ok.tpos
  unfold WN.at WN.phase
  by_cases h : n < w.head.length + w.tail.length
  · rw [if_pos h]
  · rw [if_neg h]
    have m := Nat.mod_lt (n - w.head.length) tp
    rw [if_neg (show ¬ w.head.length + (n - w.head.length) % w.tail.length < w.head.length by omega), if_neg (show ¬ n < w.head.length by omega), Nat.add_sub_cancel_left, Nat.mod_mod]
theorem turn_phase {w : WN} (ok : okW w) (s : Int) (n : Nat) : w.turn s (w.phase n) = w.turn s n := by
  unfold WN.turn; rw [at_phase ok]
theorem phase_zero {w : WN} (ok : okW w) : w.phase 0 = 0 := by
  unfold WN.phase
  have := ok.tpos
  rw [if_pos (by omega)]
theorem phase_succ {w : WN} (ok : okW w) (n : Nat) : w.phase (w.phase n + 1) = w.phase (n + 1) := by
  have tp := ok.tpos
  by_cases h : n < w.head.length + w.tail.length
  · rw [show w.phase n = n by unfold WN.phase; rw [if_pos h]]
  · have m := Nat.mod_lt (n - w.head.length) tp
    have e : w.phase n = w.head.length + (n - w.head.length) % w.tail.length := by unfold WN.phase; rw [if_neg h]
    have e2 : w.phase (n + 1) = w.head.length + (n + 1 - w.head.length) % w.tail.length := by unfold WN.phase; rw [if_neg (by omega)]
    have e3 : (n + 1 - w.head.length) % w.tail.length = ((n - w.head.length) % w.tail.length + 1) % w.tail.length := by
      rw [show n + 1 - w.head.length = n - w.head.length + 1 by omega, Nat.mod_add_mod]
    rw [e2, e3, e]
    generalize (n - w.head.length) % w.tail.length = a at m
    unfold WN.phase
    by_cases h2 : a + 1 < w.tail.length
    · rw [if_pos (by omega), Nat.mod_eq_of_lt h2]; omega
    · have : a + 1 = w.tail.length := by omega
      rw [if_neg (by omega), show w.head.length + a + 1 - w.head.length = a + 1 by omega]
theorem turn_zero {w : WN} (ok : okW w) (n : Nat) : w.turn 0 n = 0 := by
  have := turn_le ok (Int.le_refl 0) n; omega
theorem rev_ind {P : List Bool → Prop} (h0 : P []) (hs : ∀ l b, P l → P (l ++ [b])) (l : List Bool) : P l := by
  rw [← List.reverse_reverse l]
  induction l.reverse with
  | nil => exact h0
  | cons b m ih => rw [List.reverse_cons]; exact hs _ _ ih
theorem stOf_eq {w : WN} (ok : okW w) {s : Int} (h1 : 1 ≤ s) (h2 : s ≤ w.cap) (l : List Bool) : stOf w s l = if (stA w (s, 0) l).1 = 0 then none else some ((stA w (s, 0) l).1, w.phase (stA w (s, 0) l).2) := by
  refine rev_ind (P := fun l => stOf w s l = if (stA w (s, 0) l).1 = 0 then none else some ((stA w (s, 0) l).1, w.phase (stA w (s, 0) l).2)) ?_ ?_ l
  · show some (s, 0) = if s = 0 then none else some (s, w.phase 0)
    rw [if_neg (by omega), phase_zero ok]
  · intro l b ih
    have hb := stA_ok ok (show 0 ≤ s by omega) h2 0 l
    rw [stOf_snoc, stA_snoc, ih]
    generalize stA w (s, 0) l = p at hb
    obtain ⟨a, n⟩ := p
    dsimp only at hb ⊢
    by_cases z : a = 0
    · rw [if_pos z]
      have e : (stepA w (a, n) b).1 = 0 := by
        rw [z]
        cases b with
        | true => exact turn_zero ok n
        | false => show w.ask 0 = 0; unfold WN.ask; rw [if_pos rfl]
      rw [if_pos e]; rfl
    · rw [if_neg z]
      cases b with
      | true =>
        show (if w.turn a (w.phase n) = 0 then none else some (w.turn a (w.phase n), w.phase (w.phase n + 1))) = if w.turn a n = 0 then none else some (w.turn a n, w.phase (n + 1))
        rw [turn_phase ok, phase_succ ok]
      | false =>
        have := ask_ok ok (show 1 ≤ a by omega) hb.2
        show some (w.ask a, if w.anew = true then 0 else w.phase n) = if w.ask a = 0 then none else some (w.ask a, w.phase (if w.anew = true then 0 else n))
        rw [if_neg (show ¬ w.ask a = 0 by omega)]
        cases w.anew
        · rfl
        · show some (w.ask a, 0) = some (w.ask a, w.phase 0)
          rw [phase_zero ok]
/-! the order of rows -/
theorem Ahead.nil {y : List Bool} (h : y ≠ []) : Ahead [] y := .inl (List.length_pos_iff.mpr h)
theorem Ahead.irr {x : List Bool} : ¬ Ahead x x := by
  rintro (h | ⟨_, k, _, h1, h2⟩)
  · omega
  · rw [h1] at h2; cases h2
theorem Ahead.trans {x y z : List Bool} (a : Ahead x y) (b : Ahead y z) : Ahead x z := by
  rcases a with a | ⟨a, k, a1, a2, a3⟩
  · rcases b with b | ⟨b, _⟩
    · exact .inl (by omega)
    · exact .inl (by omega)
  · rcases b with b | ⟨b, m, b1, b2, b3⟩
    · exact .inl (by omega)
    · refine .inr ⟨by omega, ?_⟩
      rcases Nat.lt_trichotomy k m with h | h | h
      · refine ⟨k, ?_, a2, ?_⟩
        · rw [a1]
          have := congrArg (List.take k) b1
          rw [List.take_take, List.take_take, Nat.min_eq_left (by omega)] at this
          exact this
        · have := congrArg (fun l => l[k]?) b1
          simp only [List.getElem?_take, if_pos h] at this
          rw [← this]; exact a3
      · subst h; rw [a3] at b2; cases b2
      · refine ⟨m, ?_, ?_, b3⟩
        · have := congrArg (List.take m) a1
          rw [List.take_take, List.take_take, Nat.min_eq_left (by omega)] at this
          rw [this, b1]
        · have := congrArg (fun l => l[m]?) a1
          simp only [List.getElem?_take, if_pos h] at this
          rw [this]; exact b2
theorem Ahead.snoc {x y : List Bool} (a : Ahead x y) (b c : Bool) : Ahead (x ++ [b]) (y ++ [c]) := by
  rcases a with a | ⟨a, k, a1, a2, a3⟩
  · exact .inl (by simp; exact a)
  · have l1 := (List.getElem?_eq_some_iff.mp a2).1
    have l2 := (List.getElem?_eq_some_iff.mp a3).1
    refine .inr ⟨by simp; exact a, k, ?_, ?_, ?_⟩
    · rw [List.take_append_of_le_length (by omega), List.take_append_of_le_length (by omega), a1]
    · rw [List.getElem?_append_left l1, a2]
    · rw [List.getElem?_append_left l2, a3]
theorem Ahead.tf (r : List Bool) : Ahead (r ++ [true]) (r ++ [false]) := .inr ⟨by simp, r.length, by simp, by simp, by simp⟩
theorem Ahead.longer (r : List Bool) (b : Bool) : Ahead r (r ++ [b]) := .inl (by simp)
/-! the search -/
section
variable {w1 w2 : WN} {s f : Int}
theorem addR_pre (rows : List Row) (q : Row) : ∃ m, addR rows q = rows ++ m := by
  unfold addR
  split
  · exact ⟨[], by simp⟩
  · exact ⟨[q], rfl⟩
theorem run_succ (k : Nat) : run w1 w2 s f (k + 1) = match (run w1 w2 s f k)[k]? with
    | some r => addR (addR (run w1 w2 s f k) (stp w1 w2 r true)) (stp w1 w2 r false)
    | none => run w1 w2 s f k := rfl
theorem run_pre (k : Nat) : ∃ m, run w1 w2 s f (k + 1) = run w1 w2 s f k ++ m := by
  rw [run_succ]
  split
  · rename_i r _
    obtain ⟨a, ha⟩ := addR_pre (run w1 w2 s f k) (stp w1 w2 r true)
    obtain ⟨b, hb⟩ := addR_pre (addR (run w1 w2 s f k) (stp w1 w2 r true)) (stp w1 w2 r false)
    exact ⟨a ++ b, by rw [hb, ha, List.append_assoc]⟩
  · exact ⟨[], by simp⟩
theorem run_mono {j k : Nat} (h : j ≤ k) : ∃ m, run w1 w2 s f k = run w1 w2 s f j ++ m := by
  induction k with
  | zero => obtain rfl : j = 0 := by omega
            exact ⟨[], by simp⟩
  | succ k ih =>
    by_cases e : j = k + 1
    · subst e; exact ⟨[], by simp⟩
    · obtain ⟨m, hm⟩ := ih (by omega)
      obtain ⟨n, hn⟩ := run_pre (w1 := w1) (w2 := w2) (s := s) (f := f) k
      exact ⟨m ++ n, by rw [hn, hm, List.append_assoc]⟩
theorem run_get {j k i : Nat} {r : Row} (h : j ≤ k) (e : (run w1 w2 s f j)[i]? = some r) : (run w1 w2 s f k)[i]? = some r := by
  obtain ⟨m, hm⟩ := run_mono (w1 := w1) (w2 := w2) (s := s) (f := f) h
  rw [hm, List.getElem?_append_left (List.getElem?_eq_some_iff.mp e).1, e]
/-- what stands in the rows -/
structure RI (w1 w2 : WN) (s f : Int) (k : Nat) (R : List Row) : Prop where
  val : ∀ r ∈ R, r.2 = (stOf w1 s r.1, stOf w2 f r.1)
  srt : R.Pairwise fun a b => Ahead a.1 b.1
  src : ∀ r ∈ R, r.1 = [] ∨ ∃ j, j < k ∧ ∃ q c, R[j]? = some q ∧ r.1 = q.1 ++ [c]
theorem RI.add {k : Nat} {R : List Row} {r : Row} (h : RI w1 w2 s f (k + 1) R) (hr : R[k]? = some r) (b : Bool) (hb : ∀ q ∈ R, q.1 = [] ∨ Ahead q.1 (r.1 ++ [b])) : RI w1 w2 s f (k + 1) (addR R (stp w1 w2 r b)) := by
  have vr := h.val r (List.mem_of_getElem? hr)
  unfold addR
  split
  · exact h
  · refine ⟨fun q hq => ?_, ?_, fun q hq => ?_⟩
    · rcases List.mem_append.mp hq with hq | hq
      · exact h.val q hq
      · rw [List.mem_singleton.mp hq]
        show (w1.led b r.2.1, w2.led b r.2.2) = (stOf w1 s (r.1 ++ [b]), stOf w2 f (r.1 ++ [b]))
        rw [stOf_snoc, stOf_snoc, vr]
    · rw [List.pairwise_append]
      refine ⟨h.srt, List.pairwise_singleton _ _, fun x hx y hy => ?_⟩
      rw [List.mem_singleton.mp hy]
      rcases hb x hx with e | e
      · rw [e]; exact Ahead.nil (by show r.1 ++ [b] ≠ []; simp)
      · exact e
    · rcases List.mem_append.mp hq with hq | hq
      · rcases h.src q hq with e | ⟨j, hj, p, c, e1, e2⟩
        · exact .inl e
        · exact .inr ⟨j, hj, p, c, by rw [List.getElem?_append_left (List.getElem?_eq_some_iff.mp e1).1, e1], e2⟩
      · rw [List.mem_singleton.mp hq]
        exact .inr ⟨k, by omega, r, b, by rw [List.getElem?_append_left (List.getElem?_eq_some_iff.mp hr).1, hr], rfl⟩
theorem RI.up {k : Nat} {R : List Row} (h : RI w1 w2 s f k R) : RI w1 w2 s f (k + 1) R :=
  ⟨h.val, h.srt, fun r hr => (h.src r hr).imp id fun ⟨j, hj, x⟩ => ⟨j, by omega, x⟩⟩
theorem RI.lt {k i j : Nat} {R : List Row} {p q : Row} (h : RI w1 w2 s f k R) (hi : R[i]? = some p) (hj : R[j]? = some q) (l : i < j) : Ahead p.1 q.1 := by
  obtain ⟨h1, e1⟩ := List.getElem?_eq_some_iff.mp hi
  obtain ⟨h2, e2⟩ := List.getElem?_eq_some_iff.mp hj
  have := List.pairwise_iff_getElem.mp h.srt i j h1 h2 l
  rw [e1, e2] at this; exact this
theorem run_RI : ∀ k, RI w1 w2 s f k (run w1 w2 s f k)
  | 0 => by
    refine ⟨fun r hr => ?_, List.pairwise_singleton _ _, fun r hr => ?_⟩
    · rw [List.mem_singleton.mp hr]; rfl
    · rw [List.mem_singleton.mp hr]; exact .inl rfl
  | k + 1 => by
    have ih := run_RI k
    unfold run
    split
    · rename_i r hr
      have bel : ∀ (q : Row), q ∈ run w1 w2 s f k → q.1 = [] ∨ ∀ b, Ahead q.1 (r.1 ++ [b]) := fun q hq => by
        rcases ih.src q hq with e | ⟨j, hj, p, c, e1, e2⟩
        · exact .inl e
        · refine .inr fun b => ?_
          rw [e2]
          exact (ih.lt e1 hr hj).snoc c b
      have s1 := ih.up.add hr true fun q hq => (bel q hq).imp id fun h => h true
      refine s1.add ?_ false fun q hq => ?_
      · obtain ⟨m, hm⟩ := addR_pre (run w1 w2 s f k) (stp w1 w2 r true)
        rw [hm, List.getElem?_append_left (List.getElem?_eq_some_iff.mp hr).1, hr]
      · rcases mem_addR hq with hq | hq
        · exact (bel q hq).imp id fun h => h false
        · rw [hq]; exact .inr (Ahead.tf r.1)
    · exact ih.up
theorem run_bel {k : Nat} {r : Row} (hr : (run w1 w2 s f k)[k]? = some r) (b : Bool) : ∀ q ∈ run w1 w2 s f k, Ahead q.1 (r.1 ++ [b]) := fun q hq => by
  have h := run_RI (w1 := w1) (w2 := w2) (s := s) (f := f) k
  rcases h.src q hq with e | ⟨j, hj, p, c, e1, e2⟩
  · rw [e]; exact Ahead.nil (by simp)
  · rw [e2]; exact (h.lt e1 hr hj).snoc c b
theorem addR_has (R : List Row) (x : Row) : ∃ q ∈ addR R x, q.2 = x.2 ∧ (q ∈ R ∨ q = x) := by
  unfold addR
  split
  · rename_i h
    obtain ⟨q, hq, e⟩ := List.mem_map.mp h
    exact ⟨q, hq, e, .inl hq⟩
  · exact ⟨x, by simp, rfl, .inr rfl⟩
/-- behind the turn at j the pair of a child stands in the rows, under a row not behind the child's -/
theorem run_child {j k : Nat} {r : Row} (b : Bool) (hr : (run w1 w2 s f j)[j]? = some r) (hk : j < k) : ∃ (i : Nat) (q : Row), (run w1 w2 s f k)[i]? = some q ∧ q.2 = (stp w1 w2 r b).2 ∧ (q.1 = r.1 ++ [b] ∨ Ahead q.1 (r.1 ++ [b])) := by
  have key : ∃ q ∈ run w1 w2 s f (j + 1), q.2 = (stp w1 w2 r b).2 ∧ (q.1 = r.1 ++ [b] ∨ Ahead q.1 (r.1 ++ [b])) := by
    rw [run_succ, hr]
    dsimp only
    cases b with
    | false =>
      obtain ⟨q, hq, e, h⟩ := addR_has (addR (run w1 w2 s f j) (stp w1 w2 r true)) (stp w1 w2 r false)
      refine ⟨q, hq, e, ?_⟩
      rcases h with h | h
      · rcases mem_addR h with h | h
        · exact .inr (run_bel hr false q h)
        · rw [h]; exact .inr (Ahead.tf r.1)
      · rw [h]; exact .inl rfl
    | true =>
      obtain ⟨q, hq, e, h⟩ := addR_has (run w1 w2 s f j) (stp w1 w2 r true)
      obtain ⟨m, hm⟩ := addR_pre (addR (run w1 w2 s f j) (stp w1 w2 r true)) (stp w1 w2 r false)
      refine ⟨q, by rw [hm]; exact List.mem_append_left _ hq, e, ?_⟩
      rcases h with h | h
      · exact .inr (run_bel hr true q h)
      · rw [h]; exact .inl rfl
  obtain ⟨q, hq, e⟩ := key
  obtain ⟨i, hi, ei⟩ := List.mem_iff_getElem.mp hq
  exact ⟨i, q, run_get hk (by rw [List.getElem?_eq_getElem hi, ei]), e⟩
theorem run_back {j k : Nat} {r : Row} (hk : j ≤ k) (hc : Clean w1 w2 s f k) (h : j < k) (e : (run w1 w2 s f k)[j]? = some r) : (run w1 w2 s f j)[j]? = some r ∧ parts r.2 = false := by
  obtain ⟨q, hq, hp⟩ := hc j h
  have := run_get hk hq
  rw [e] at this
  cases this
  exact ⟨hq, hp⟩
/-- an entry for each row ahead -/
theorem run_all {k : Nat} {row : List Bool} {p : Stt × Stt} (hc : Clean w1 w2 s f k) (hk : (run w1 w2 s f k)[k]? = some (row, p)) : ∀ l, Ahead l row → ∃ j q, j < k ∧ (run w1 w2 s f k)[j]? = some q ∧ q.2 = (stOf w1 s l, stOf w2 f l) ∧ (q.1 = l ∨ Ahead q.1 l) := by
  have I := run_RI (w1 := w1) (w2 := w2) (s := s) (f := f) k
  have idx : ∀ {i : Nat} {q : Row}, (run w1 w2 s f k)[i]? = some q → Ahead q.1 row → i < k := fun {i q} hi ha => by
    rcases Nat.lt_trichotomy i k with h | h | h
    · exact h
    · subst h; rw [hk] at hi; cases hi; exact absurd ha Ahead.irr
    · exact absurd ((I.lt hk hi h).trans ha) Ahead.irr
  refine rev_ind ?_ ?_
  · intro ha
    have h0 : (run w1 w2 s f k)[0]? = some ([], (some (s, 0), some (f, 0))) := run_get (Nat.zero_le k) rfl
    exact ⟨0, _, idx h0 ha, h0, rfl, .inl rfl⟩
  · intro l b ih ha
    obtain ⟨j, q, hj, hq, e, hl⟩ := ih ((Ahead.longer l b).trans ha)
    have hb := (run_back (Nat.le_of_lt hj) hc hj hq).1
    obtain ⟨i, q', hi, e', hl'⟩ := run_child b hb hj
    have hle : q.1 ++ [b] = l ++ [b] ∨ Ahead (q.1 ++ [b]) (l ++ [b]) := by
      rcases hl with h | h
      · exact .inl (by rw [h])
      · exact .inr (h.snoc b b)
    have hq' : q'.1 = l ++ [b] ∨ Ahead q'.1 (l ++ [b]) := by
      rcases hl' with h | h <;> rcases hle with g | g
      · exact .inl (h.trans g)
      · rw [h]; exact .inr g
      · rw [← g]; exact .inr h
      · exact .inr (h.trans g)
    have hr : Ahead q'.1 row := by
      rcases hq' with h | h
      · rw [h]; exact ha
      · exact h.trans ha
    refine ⟨i, q', idx hi hr, hi, ?_, hq'⟩
    rw [e', stOf_snoc, stOf_snoc]
    show (w1.led b q.2.1, w2.led b q.2.2) = _
    rw [e]
theorem addR_nd {R : List Row} (h : (R.map (·.2)).Nodup) (q : Row) : ((addR R q).map (·.2)).Nodup := by
  unfold addR
  split
  · exact h
  · rename_i n
    rw [List.map_append, List.nodup_append]
    refine ⟨h, by simp, fun a ha b hb e => ?_⟩
    rw [List.map_singleton, List.mem_singleton] at hb
    exact n (by rw [← hb, ← e]; exact ha)
theorem run_nd : ∀ k, ((run w1 w2 s f k).map (·.2)).Nodup
  | 0 => by simp [run]
  | k + 1 => by
    rw [run_succ]
    split
    · exact addR_nd (addR_nd (run_nd k) _) _
    · exact run_nd k
theorem run_val {k : Nat} {r : Row} (h : r ∈ run w1 w2 s f k) : r.2 = (stOf w1 s r.1, stOf w2 f r.1) := (run_RI k).val r h
/-- a closed list: each further pair stands in it, under a row not behind -/
theorem run_closed {k j : Nat} {r : Row} (hc : Clean w1 w2 s f k) (hk : k = (run w1 w2 s f k).length) (hj : (run w1 w2 s f k)[j]? = some r) (b : Bool) :
    ∃ (i : Nat) (q : Row), (run w1 w2 s f k)[i]? = some q ∧ q.2 = (stp w1 w2 r b).2 ∧ (q.1 = r.1 ++ [b] ∨ Ahead q.1 (r.1 ++ [b])) := by
  have lt : j < k := by rw [hk]; exact (List.getElem?_eq_some_iff.mp hj).1
  exact run_child b (run_back (Nat.le_of_lt lt) hc lt hj).1 lt
end
/-! alike by form -/
theorem stA_same {w1 w2 : WN} (h : ∀ n, w1.at n = w2.at n) (c : w1.cap = w2.cap) (l : w1.lift = w2.lift) (a : w1.anew = w2.anew) (p : Int × Nat) (r : List Bool) : stA w1 p r = stA w2 p r := by
  have e : stepA w1 = stepA w2 := by
    funext p b
    unfold stepA WN.turn WN.ask WN.nxt
    rw [h, c, l, a]
  unfold stA
  rw [e]
theorem form_none {w1 w2 : WN} (o1 : okW w1) (o2 : okW w2) (h : ∀ n, w1.at n = w2.at n) (c : w1.cap = w2.cap) (l : w1.lift = w2.lift) (a : w1.anew = w2.anew) {s : Int} (h1 : 1 ≤ s) (h2 : s ≤ w1.cap) (r : List Bool) : parts (stOf w1 s r, stOf w2 s r) = false := by
  rw [stOf_eq o1 h1 h2, stOf_eq o2 h1 (by rw [← c]; exact h2), stA_same h c l a]
  unfold parts
  by_cases z : (stA w2 (s, 0) r).1 = 0
  · rw [if_pos z, if_pos z]; rfl
  · rw [if_neg z, if_neg z]; rfl
/-- a wane whose steps are all idle -/
def Idle (w : WN) : Prop := ∀ n, w.at n = (1, 0)
theorem idle_some {w : WN} (ok : okW w) (h : Idle w) {s : Int} (h1 : 1 ≤ s) (h2 : s ≤ w.cap) (r : List Bool) : (stOf w s r).isNone = false := by
  have key : ∀ l, 1 ≤ (stA w (s, 0) l).1 ∧ (stA w (s, 0) l).1 ≤ w.cap := by
    refine rev_ind ⟨h1, h2⟩ fun l b ih => ?_
    rw [stA_snoc]
    cases b with
    | true =>
      show 1 ≤ w.turn _ _ ∧ w.turn _ _ ≤ _
      unfold WN.turn
      rw [h, Int.ediv_one, Int.sub_zero, if_pos (by omega)]
      exact ih
    | false => exact ask_ok ok ih.1 ih.2
  rw [stOf_eq ok h1 h2, if_neg (by have := (key r).1; omega)]; rfl
theorem idle_none {w1 w2 : WN} (o1 : okW w1) (o2 : okW w2) (i1 : Idle w1) (i2 : Idle w2) {s f : Int} (h1 : 1 ≤ s) (h2 : s ≤ w1.cap) (h3 : 1 ≤ f) (h4 : f ≤ w2.cap) (r : List Bool) : parts (stOf w1 s r, stOf w2 f r) = false := by
  unfold parts
  rw [idle_some o1 i1 h1 h2, idle_some o2 i2 h3 h4]; rfl
theorem idle_of {w : WN} (tp : 1 ≤ w.tail.length) (h : ∀ x ∈ w.head, x = (1, 0)) (t : ∀ x ∈ w.tail, x = (1, 0)) : Idle w := fun n => by
  unfold WN.at
  split
  · rename_i c
    exact h _ (getD_mem c)
  · exact t _ (getD_mem (Nat.mod_lt _ tp))
theorem rep_get (t : List (Int × Int)) (tp : 1 ≤ t.length) : ∀ (a i : Nat), i < a * t.length → (List.replicate a t).flatten.getD i (1, 0) = t.getD (i % t.length) (1, 0)
  | 0, i, h => by simp at h
  | a + 1, i, h => by
    rw [List.replicate_succ, List.flatten_cons]
    by_cases c : i < t.length
    · rw [Nat.mod_eq_of_lt c, List.getD_eq_getElem?_getD, List.getElem?_append_left c, List.getD_eq_getElem?_getD]
    · rw [List.getD_eq_getElem?_getD, List.getElem?_append_right (by omega), ← List.getD_eq_getElem?_getD, rep_get t tp a (i - t.length) (by rw [Nat.add_one_mul] at h; omega)]
      rw [Nat.mod_eq_sub_mod (show i ≥ t.length by omega)]
theorem rep_len (t : List (Int × Int)) (a : Nat) : (List.replicate a t).flatten.length = a * t.length := by simp
/-- head and tail, the tail put a times behind the head, b times over -/
theorem at_form (h t : List (Int × Int)) (tp : 1 ≤ t.length) (a b : Nat) (hb : 1 ≤ b) (c l c' l' : Int) (an an' : Bool) (n : Nat) :
    WN.at ⟨h ++ (List.replicate a t).flatten, (List.replicate b t).flatten, c, l, an⟩ n = WN.at ⟨h, t, c', l', an'⟩ n := by
  unfold WN.at
  dsimp only
  rw [List.length_append, rep_len, rep_len]
  by_cases c1 : n < h.length
  · rw [if_pos (by omega), if_pos c1, List.getD_eq_getElem?_getD, List.getElem?_append_left c1, List.getD_eq_getElem?_getD]
  · rw [if_neg c1]
    by_cases c2 : n < h.length + a * t.length
    · rw [if_pos c2, List.getD_eq_getElem?_getD, List.getElem?_append_right (by omega), ← List.getD_eq_getElem?_getD, rep_get t tp a _ (by omega)]
    · have bt : 0 < b * t.length := Nat.mul_pos (by omega) (by omega)
      rw [if_neg c2, rep_get t tp b _ (Nat.mod_lt _ bt), Nat.mod_mul_left_mod, show n - (h.length + a * t.length) = n - h.length - a * t.length by omega]
      congr 1
      have : n - h.length = n - h.length - a * t.length + t.length * a := by rw [Nat.mul_comm t.length a]; omega
      rw [this, Nat.add_mul_mod_self_left, ← this]
end WH

set_option maxHeartbeats 2000000
/-! a Hook whose heap begins at the module's names and at the table of statics -/
namespace HS
open PySem PySem.Spec PyProof.Rows L2
def asS (g : Addr → Option Obj) : Nat → List Addr
  | 0 => [mainGlobals, cStatics]
  | n + 1 => He.growD g (asS g n)
abbrev AlS : Type := He.AlD × Bool
def obsS (n : Nat) (fa : List He.Fa) (fn : List He.DefD) (ex : PySem.W.Frag → Bool) (g : Addr → Option Obj) : AlS := (He.obsD fa fn (He.frG g (asS g n)), ex (He.frG g (asS g n)))
def SaysS (fa : List He.Fa) (fn : List He.DefD) (ex : PySem.W.Frag → Bool) (K : PySem.W.Frag) : Prop := He.SaysD fa fn K ∧ ex K = true
def hookS (n : Nat) (fa : List He.Fa) (fn : List He.DefD) (ex : PySem.W.Frag → Bool) : PySem.W.Hook where
  α := AlS
  obs := fun s => obsS n fa fn ex s.heap.get?
  val := fun _ => (He.valD fn, true)
  says := fun _ h => ∃ K : PySem.W.Frag, K.In h ∧ SaysS fa fn ex K
  of := fun _ _ e => ⟨_, He.frG_in, congrArg (fun z : AlS => z.1) e, congrArg (fun z : AlS => z.2) e⟩
  keeps := fun _ _ _ ⟨K, hK, c⟩ k => ⟨K, PySem.W.Frag.In.keeps hK k, c⟩
theorem obsS_eq {n : Nat} {fa : List He.Fa} {fn : List He.DefD} {ex : PySem.W.Frag → Bool} {g : Addr → Option Obj} {s : Shared} (h : ∀ a, g a = s.heap.get? a) : obsS n fa fn ex g = (hookS n fa fn ex).obs s := by
  have e : g = s.heap.get? := funext h
  rw [e] <;> rfl
end HS

set_option maxHeartbeats 4000000
namespace WH
open PySem PySem.Spec PyProof.Rows L2
section
variable {P : Program} {w : World} {K : PySem.W.Frag} {mg : Str → Option Value} {base : Heap}
theorem cm_bool {i : Int} (k : Bool) : CMul i (if k = true then 1 else 0) := by
  cases k
  · exact .inr ⟨by decide, by decide⟩
  · exact .inr ⟨by decide, by decide⟩
theorem sgn_of {l : List Bool} {i c : Nat} (hc : (rowS l).cps[i]? = some c) : ∃ b, l[i]? = some b ∧ V.str ⟨#[c]⟩ = V.str (sgn b) := by
  have : (l.map code)[i]? = some c := by simpa [rowS, SX.S] using hc
  rw [List.getElem?_map] at this
  obtain ⟨b, h, rfl⟩ := Option.map_eq_some_iff.mp this
  exact ⟨b, h, by cases b <;> decide +kernel⟩
theorem rowS_size (l : List Bool) : (rowS l).cps.size = l.length := by simp [rowS, SX.S]
theorem nxt_eq {w : WN} {n : Nat} : (n : Int) * (if (!w.anew) = true then 1 else 0) = (w.nxt false n : Nat) := by
  unfold WN.nxt
  cases w.anew <;> simp
theorem stOf_ok {w : WN} (ok : okW w) {s : Int} (h1 : 1 ≤ s) (h2 : s ≤ w.cap) : ∀ l, okSt w (stOf w s l) :=
  rev_ind ⟨h1, h2, by have := ok.tpos; omega⟩ fun l b ih => by rw [stOf_snoc]; exact led_ok ok b ih
/-- a pair of states -/
def PrV (H : Hp) (v : V) (q : Stt × Stt) : Prop := ∃ p v1 v2, v = .ref p ∧ H p = some (.tup [v1, v2]) ∧ SttV H v1 q.1 ∧ SttV H v2 q.2
theorem PrV.mono {H H' : Hp} (s : Same H H') {v : V} {q : Stt × Stt} (h : PrV H v q) : PrV H' v q := by
  obtain ⟨p, v1, v2, rfl, h, h1, h2⟩ := h
  exact ⟨p, v1, v2, rfl, s _ _ h, h1.mono s, h2.mono s⟩
end
end WH

set_option maxHeartbeats 4000000
namespace WH
open PySem PySem.Spec PyProof.Rows L2
section
variable {X : Cx} {CX : CXT} {k j n : Nat} {f : Addr} {ps ks : List Str} {sp : Sp} {E : L2.St → XK} {x : Str} {p pos : Pos} {e : Expr} {es : List Expr} {kws : List Keyword} {t tk : TA} {gV : List V → List V → List V}
theorem pass0At {X : Cx} (σ : L2.St) : PassesAt (L2.CX X.prog X.w) X σ C8.E0 := fun a b c d e f g => by
  obtain ⟨_, _, _, _, _, _, _, _, _, _, _, _, z⟩ := g
  exact z.elim
theorem pe_cNS (c : ∃ fd g, FnOk X.prog X.w X.K X.mg X.base CX k f fd ps sp ∧ KBn X.K fd ps n ks g gV ∧ PySem.W.keepIn X.K (.ref f) = true) (hr : Room j X.A) (hk : k ≤ j) (hg : Gl X x) (hm : X.mg x = some (.ref f)) (hx : ∀ σ, PassesAt CX X σ (E σ))
    (ha : PA X (e :: es) t) (hkw : PK X kws tk) (hall : (backToKw pos (keywordEach kws X.env)).all (·.1.isSome) = true := by rfl) (hks : (backToKw pos (keywordEach kws X.env)).filterMap (·.1) = ks := by rfl)
    (hdb : (x == ("__debug__" : Str)) = false := by decide) (he : starEach (e :: es) X.env = (false, eval e X.env) :: starEach es X.env := by rfl)
    (hpl : ((backTo pos (starEach (e :: es) X.env)).any (·.1) || (backToKw pos (keywordEach kws X.env)).any (·.1.isNone)) = false := by rfl) :
    PE X (.Call (.Name x p) (e :: es) kws pos) (EX.tCallNS n ks.length sp gV E t tk) := by
  obtain ⟨fd, g, F, b, kp⟩ := c
  exact EX.pe_callNS F (hr.mono hk) hg hm kp b hx ha hkw hall hks hdb he hpl
end
/-! ### effects -/
structure E4 where
  least : Int
  add : Int
  by_ : Int
  top : Int
structure okE (e : E4) (cap : Int) : Prop where
  b : 1 ≤ e.by_
  t : e.top ≤ cap
def turnE (st : Int × Int) (cap : Int) : Option E4 := if cap / st.1 - st.2 < 1 then none else some ⟨st.1 * (st.2 + 1), -(st.1 * st.2), st.1, cap / st.1 - st.2⟩
def joinE (e f : E4) : Option E4 := if e.top < f.least then none else some ⟨if f.least * e.by_ - e.add > e.least then f.least * e.by_ - e.add else e.least, e.add + f.add * e.by_, e.by_ * f.by_, if (e.top + f.add) / f.by_ < f.top then (e.top + f.add) / f.by_ else f.top⟩
def partE (w : WN) (n : Nat) (b : Bool) : Option E4 := if b then turnE (w.at n) w.cap else some ⟨1, w.lift, 1, w.cap⟩
def rowE (w : WN) : List Bool → Nat → E4 → Option E4
  | [], _, f => some f
  | b :: l, n, f => ((partE w n b).bind (joinE f)).bind (rowE w l (w.nxt b n))
def effE (w : WN) (l : List Bool) (n : Nat) : Option E4 := rowE w l n ⟨1, 0, 1, w.cap⟩
theorem turnE_ok {st : Int × Int} {cap : Int} {e : E4} (h1 : 1 ≤ st.1) (h2 : 0 ≤ st.2) (c : 0 ≤ cap) (h : turnE st cap = some e) : okE e cap := by
  unfold turnE at h
  split at h
  · cases h
  · cases h
    refine ⟨h1, ?_⟩
    have := Int.ediv_le_self st.1 c
    show cap / st.1 - st.2 ≤ cap
    omega
theorem joinE_ok {e f g : E4} {cap : Int} (a : okE e cap) (b : okE f cap) (h : joinE e f = some g) : okE g cap := by
  unfold joinE at h
  split at h
  · cases h
  · cases h
    refine ⟨?_, ?_⟩
    · have := a.b
      have := b.b
      show 1 ≤ e.by_ * f.by_
      exact Int.le_trans (by decide : (1 : Int) ≤ 1 * 1) (Int.mul_le_mul a.b b.b (by decide) (by omega))
    · show (if _ then _ else f.top) ≤ cap
      have := b.t
      split <;> omega
/-- a part of a row: small numbers -/
structure smE (e : E4) : Prop where
  b : 1 ≤ e.by_
  b9 : e.by_ ≤ 9
  l0 : 0 ≤ e.least
  l1 : e.least ≤ 10000000000
  a0 : -10000000000 ≤ e.add
  a1 : e.add ≤ 10000000000
theorem turnE_sm {st : Int × Int} {cap : Int} {e : E4} (o : okS st) (h : turnE st cap = some e) : smE e := by
  obtain ⟨b1, b2, t1, t2⟩ := o
  unfold turnE at h
  split at h
  · cases h
  · cases h
    have m1 : st.1 * st.2 ≤ 9 * 1000000000 := Int.mul_le_mul b2 t2 t1 (by decide)
    have m0 : 0 ≤ st.1 * st.2 := Int.mul_nonneg (by omega) t1
    have e1 : st.1 * (st.2 + 1) = st.1 * st.2 + st.1 := by rw [Int.mul_add, Int.mul_one]
    refine ⟨b1, b2, ?_, ?_, ?_, ?_⟩
    · show 0 ≤ st.1 * (st.2 + 1); omega
    · show st.1 * (st.2 + 1) ≤ _; omega
    · show _ ≤ -(st.1 * st.2); omega
    · show -(st.1 * st.2) ≤ _; omega
def EffV (H : Hp) (v : V) : Option E4 → Prop
  | none => v = .non
  | some e => ∃ t, v = .ref t ∧ H t = some (.tup [.int e.least, .int e.add, .int e.by_, .int e.top])
theorem EffV.mono {H H' : Hp} (s : Same H H') {v : V} : ∀ {o : Option E4}, EffV H v o → EffV H' v o
  | none, h => h
  | some _, ⟨t, e, h⟩ => ⟨t, e, s _ _ h⟩
section
variable {P : Program} {w : World} {K : PySem.W.Frag} {mg : Str → Option Value} {base : Heap}
def spTurnE : Sp := fun vs H Q _ => ∃ v st cap, vs = [v, .int cap] ∧ StepV H v st ∧ okS st ∧ ∀ v' H', Same H H' → EffV H' v' (turnE st cap) → Q v' H'
theorem cal_turn_effect (T : Txt K mg) : C8.Cal P w K mg base 1 "turn_effect" spTurnE [] := by
  refine calD T.f_turn_effect T.g_turn_effect sc_turn_effect (fun fd F => F.bindsN fun _ _ _ _ _ _ us hl => match us, hl with | [_, _], _ => rfl) (fun vs H Q E h => by obtain ⟨_, _, _, rfl, _⟩ := h; rfl) fun cdv A outer s H vs Q E hr h => ?_
  refine ⟨_, (pss_cons (ps_asg (pv 0) (pg_tup rfl (pgs_cons (pg_name (i := 2) sc_turn_effect.nd rfl (by first | exact Or.inl rfl | exact Or.inr rfl)) (pgs_cons (pg_name (i := 3) sc_turn_effect.nd rfl (by first | exact Or.inl rfl | exact Or.inr rfl)) pgs_nil)))) (pss_cons (ps_set (i := 4) sc_turn_effect.nd rfl (by first | exact Or.inl rfl | exact Or.inr rfl) (pe_op op_sub (pe_op op_fdiv (pv 1) (pv 2)) (pv 3))) (pss_cons (ps_if (pt_cmpR op_lt (pv 4) pe_int (nomark _)) (pss_one (ps_ret pe_non)) pss_nil) (pss_one (ps_ret (NW.pe_tupN (pa_cons (pe_op op_mul (pv 2) (pe_op op_add (pv 3) pe_int)) (pa_cons (pe_un un_neg (pe_op op_mul (pv 2) (pv 3))) (pa_cons (pv 2) (pa_cons (pv 4) pa_nil)))))))))), ?_⟩
  obtain ⟨v, st, cap, rfl, ⟨b, rfl, hb⟩, ⟨b1, b2, t1, t2⟩, q⟩ := h
  refine ⟨_, rfl, b, _, rfl, SqT.of hb, rfl, _, _, rfl, _, _, rfl, rfl, ?_⟩
  refine ⟨_, rfl, _, rfl, _, _, rfl, rfl, ⟨b1, by omega⟩, _, rfl, _, _, rfl, rfl, ?_⟩
  refine ⟨_, rfl, _, _, rfl, rfl, _, rfl, ite2 (fun c => ?_) fun c => ?_⟩
  · have c := of_decide_eq_true c
    refine q _ _ (Same.refl _) ?_
    unfold turnE
    rw [if_pos c]; rfl
  · have c : ¬ cap / st.1 - st.2 < 1 := fun z => c (decide_eq_true z)
    refine ⟨_, rfl, _, rfl, _, _, rfl, rfl, _, _, rfl, rfl, .inl ⟨by omega, by omega⟩, _, rfl, _, rfl, _, _, rfl, rfl, .inl ⟨by omega, by omega⟩, _, rfl, _, rfl, _, rfl, by show 4 ≤ sizeLine; decide, fun t H1 n1 S1 e1 => q _ _ S1 ?_⟩
    unfold turnE
    rw [if_neg c]
    exact ⟨t, rfl, e1⟩
def spJoinE : Sp := fun vs H Q _ => ∃ v1 v2 e f, vs = [v1, v2] ∧ EffV H v1 (some e) ∧ EffV H v2 (some f) ∧ smE f ∧ ∀ v' H', Same H H' → EffV H' v' (joinE e f) → Q v' H'
theorem cal_join_two (T : Txt K mg) : C8.Cal P w K mg base 1 "join_two" spJoinE [] := by
  refine calD T.f_join_two T.g_join_two sc_join_two (fun fd F => F.bindsN fun _ _ _ _ _ _ us hl => match us, hl with | [_, _], _ => rfl) (fun vs H Q E h => by obtain ⟨_, _, _, _, rfl, _⟩ := h; rfl) fun cdv A outer s H vs Q E hr h => ?_
  refine ⟨_, (pss_cons (ps_asg (pv 0) (pg_tup rfl (pgs_cons (pg_name (i := 2) sc_join_two.nd rfl (by first | exact Or.inl rfl | exact Or.inr rfl)) (pgs_cons (pg_name (i := 3) sc_join_two.nd rfl (by first | exact Or.inl rfl | exact Or.inr rfl)) (pgs_cons (pg_name (i := 4) sc_join_two.nd rfl (by first | exact Or.inl rfl | exact Or.inr rfl)) (pgs_cons (pg_name (i := 5) sc_join_two.nd rfl (by first | exact Or.inl rfl | exact Or.inr rfl)) pgs_nil)))))) (pss_cons (ps_asg (pv 1) (pg_tup rfl (pgs_cons (pg_name (i := 6) sc_join_two.nd rfl (by first | exact Or.inl rfl | exact Or.inr rfl)) (pgs_cons (pg_name (i := 7) sc_join_two.nd rfl (by first | exact Or.inl rfl | exact Or.inr rfl)) (pgs_cons (pg_name (i := 8) sc_join_two.nd rfl (by first | exact Or.inl rfl | exact Or.inr rfl)) (pgs_cons (pg_name (i := 9) sc_join_two.nd rfl (by first | exact Or.inl rfl | exact Or.inr rfl)) pgs_nil)))))) (pss_cons (ps_if (pt_cmpR op_lt (pv 5) (pv 6) (nomark _)) (pss_one (ps_ret pe_non)) pss_nil) (pss_cons (ps_set (i := 2) sc_join_two.nd rfl (by first | exact Or.inl rfl | exact Or.inr rfl) (pe_callB (call_max2 rfl) (by rfl) T.b_max (by decide +kernel) (pa_cons (pv 2) (pa_cons (pe_op op_sub (pe_op op_mul (pv 6) (pv 4)) (pv 3)) pa_nil)))) (pss_one (ps_ret (NW.pe_tupN (pa_cons (pv 2) (pa_cons (pe_op op_add (pv 3) (pe_op op_mul (pv 7) (pv 4))) (pa_cons (pe_op op_mul (pv 4) (pv 8)) (pa_cons (pe_callB (call_min2 rfl) (by rfl) T.b_min (by decide +kernel) (pa_cons (pv 9) (pa_cons (pe_op op_fdiv (pe_op op_add (pv 5) (pv 7)) (pv 8)) pa_nil))) pa_nil))))))))))), ?_⟩
  obtain ⟨v1, v2, e, f, rfl, ⟨a, rfl, ha⟩, ⟨b, rfl, hb⟩, sm, q⟩ := h
  obtain ⟨f1, f2, f3, f4, f5, f6⟩ := sm
  refine ⟨_, rfl, a, _, rfl, SqT.of ha, rfl, _, _, rfl, _, _, rfl, _, _, rfl, _, _, rfl, rfl, ?_⟩
  refine ⟨_, rfl, b, _, rfl, SqT.of hb, rfl, _, _, rfl, _, _, rfl, _, _, rfl, _, _, rfl, rfl, ?_⟩
  refine ⟨_, rfl, _, rfl, _, _, rfl, rfl, _, rfl, ite2 (fun c => ?_) fun c => ?_⟩
  · have c := of_decide_eq_true c
    refine q _ _ (Same.refl _) ?_
    unfold joinE
    rw [if_pos c]; rfl
  · have c : ¬ e.top < f.least := fun z => c (decide_eq_true z)
    refine ⟨_, rfl, _, rfl, _, rfl, _, _, rfl, rfl, .inl ⟨by omega, by omega⟩, _, rfl, _, _, rfl, rfl, _, _, rfl, ?_⟩
    refine ⟨_, rfl, _, rfl, _, rfl, _, rfl, _, _, rfl, rfl, .inl ⟨by omega, by omega⟩, _, _, rfl, rfl, _, rfl, _, rfl, _, _, rfl, rfl, .inr ⟨by omega, by omega⟩, ?_⟩
    refine ⟨_, rfl, _, rfl, _, rfl, _, _, rfl, rfl, _, rfl, _, _, rfl, rfl, ⟨by omega, by omega⟩, _, _, rfl, by show 4 ≤ sizeLine; decide, fun t H1 n1 S1 e1 => q _ _ S1 ?_⟩
    unfold joinE
    rw [if_neg c]
    exact ⟨t, rfl, e1⟩
end
end WH

set_option maxHeartbeats 4000000
namespace WH
open PySem PySem.Spec PyProof.Rows L2
section
variable {P : Program} {w : World} {K : PySem.W.Frag} {mg : Str → Option Value} {base : Heap}
theorem partE_sm {w : WN} (ok : okW w) {n : Nat} {b : Bool} {e : E4} (h : partE w n b = some e) : smE e := by
  cases b with
  | true => exact turnE_sm (ok.at n) h
  | false =>
    cases h
    have := ok.l1
    have := ok.l2
    exact ⟨by show (1 : Int) ≤ 1; decide, by show (1 : Int) ≤ 9; decide, by show (0 : Int) ≤ 1; decide, by show (1 : Int) ≤ _; decide, by show _ ≤ w.lift; omega, by show w.lift ≤ _; omega⟩
def spRowE (K : PySem.W.Frag) : Sp := fun vs H Q _ => ∃ a w l n, vs = [.ref a, .str (rowS l), .int (n : Nat)] ∧ WaneAt K H a w ∧ ∀ v' H', Same H H' → EffV H' v' (effE w l n) → Q v' H'
theorem cal_row_effect (T : Txt K mg) : C8.Cal P w K mg base 2 "row_effect" (spRowE K) [] := by
  refine calD T.f_row_effect T.g_row_effect sc_row_effect (fun fd F => F.bindsN fun _ _ _ _ _ _ us hl => match us, hl with | [_, _, _], _ => rfl) (fun vs H Q E h => by obtain ⟨_, _, _, _, rfl, _⟩ := h; rfl) fun cdv A outer s H vs Q E hr h => ?_
  refine ⟨_, (pss_cons (ps_set (i := 3) sc_row_effect.nd rfl (by first | exact Or.inl rfl | exact Or.inr rfl) (C8.pe_mt0 (met_Wane_cap T) hr (by decide) (pv 0))) (pss_cons (ps_set (i := 4) sc_row_effect.nd rfl (by first | exact Or.inl rfl | exact Or.inr rfl) (NW.pe_tupN (pa_cons pe_int (pa_cons (C8.pe_mt0 (met_Wane_lift T) hr (by decide) (pv 0)) (pa_cons pe_int (pa_cons (pv 3) pa_nil)))))) (pss_cons (ps_set (i := 5) sc_row_effect.nd rfl (by first | exact Or.inl rfl | exact Or.inr rfl) (NW.pe_tupN (pa_cons pe_int (pa_cons pe_int (pa_cons pe_int (pa_cons (pv 3) pa_nil)))))) (pss_cons (ps_for PassesOwn.never rfl (pi_str (pv 1)) (pg_name (i := 6) sc_row_effect.nd rfl (by first | exact Or.inl rfl | exact Or.inr rfl)) (C8.pss_cut (ps_if (pt_cmpR op_eq (pv 6) pe_str (nomark _)) (pss_cons (ps_set (i := 7) sc_row_effect.nd rfl (by first | exact Or.inl rfl | exact Or.inr rfl) (pv 4)) (pss_one (ps_if (pt_val (C8.pe_mt0 (met_Wane_is_anew T) hr (by decide) (pv 0))) (pss_one (ps_set (i := 2) sc_row_effect.nd rfl (by first | exact Or.inl rfl | exact Or.inr rfl) pe_int)) pss_nil))) (pss_cons (ps_set (i := 7) sc_row_effect.nd rfl (by first | exact Or.inl rfl | exact Or.inr rfl) (C8.pe_c (cal_turn_effect T) hr (by decide) rfl (pa_cons (C8.pe_mt (met_Wane_coming T) hr (by decide) (pv 0) (pa_cons (pv 2) pa_nil)) (pa_cons (pv 3) pa_nil)))) (pss_one (ps_aug (i := 2) sc_row_effect.nd rfl (by first | exact Or.inl rfl | exact Or.inr rfl) pe_int ip_add)))) (C8.pss_cut (ps_if (pt_cmpR op_notN (pv 7) pe_non (nomark _)) (pss_one (ps_set (i := 7) sc_row_effect.nd rfl (by first | exact Or.inl rfl | exact Or.inr rfl) (C8.pe_c (cal_join_two T) hr (by decide) rfl (pa_cons (pv 5) (pa_cons (pv 7) pa_nil))))) pss_nil) (pss_cons (ps_if (pt_cmpR op_isN (pv 7) pe_non (nomark _)) (pss_one (ps_ret pe_non)) pss_nil) (pss_one (ps_set (i := 5) sc_row_effect.nd rfl (by first | exact Or.inl rfl | exact Or.inr rfl) (pv 7))))))) (pss_one (ps_ret (pv 5))))))), ?_⟩
  obtain ⟨a, w, l, n, rfl, hw, q⟩ := h
  obtain ⟨dx, hh, ht, ea, _, _, ok⟩ := id hw
  refine ⟨_, rfl, a, dx, _, rfl, ea, by kernel_rfl, a, w, rfl, hw, ?_⟩
  refine ⟨_, rfl, a, dx, _, rfl, ea, by kernel_rfl, a, w, rfl, hw, _, rfl, by show 4 ≤ sizeLine; decide, fun ta H1 n1 S1 e1 => ?_⟩
  refine ⟨_, rfl, by show 4 ≤ sizeLine; decide, fun t0 H2 n2 S2 e2 => ⟨_, rfl, ?_⟩⟩
  have S02 := S1.trans S2
  refine ⟨_, rfl, for_it walk_str (fun i σ H' => Same H2 H' ∧ ∃ n' e fv o6 o7, effE w l n = rowE w (l.drop i) n' e ∧ EffV H' fv (some e) ∧ σ = [some (.ref a), some (.str (rowS l)), some (.int (n' : Nat)), some (.int w.cap), some (.ref ta), some fv, o6, o7])
    ⟨Same.refl _, n, ⟨1, 0, 1, w.cap⟩, .ref t0, _, _, by rw [List.drop_zero]; rfl, ⟨t0, rfl, e2⟩, rfl⟩ (fun _ _ _ _ _ => trivial) ?_ ?_⟩
  · rintro i x σ H3 H4 hi ⟨S3, n', e, fv, o6, o7, er, hf, rfl⟩ ⟨rfl, c, hc, rfl⟩
    obtain ⟨b, hb, es⟩ := sgn_of hc
    rw [es]
    have S24 := S02.trans S3
    have hw4 := hw.mono S24
    have ea4 := S24 _ _ ea
    have dr : l.drop i = b :: l.drop (i + 1) := by
      rw [List.drop_eq_getElem_cons (List.getElem?_eq_some_iff.mp hb).1]
      rw [(List.getElem?_eq_some_iff.mp hb).2]
    refine ⟨fun σ H' => ∃ pv, Same H4 H' ∧ EffV H' pv (partE w n' b) ∧ σ = [some (.ref a), some (.str (rowS l)), some (.int (w.nxt b n' : Nat)), some (.int w.cap), some (.ref ta), some fv, some (.str (sgn b)), some pv], ?_, ?_⟩
    · refine ⟨_, rfl, rfl, _, rfl, ?_⟩
      rw [sgn_a]
      cases b with
      | true =>
        refine iteF ⟨_, rfl, a, dx, _, rfl, ea4, by kernel_rfl, _, rfl, a, w, n', rfl, hw4, fun v hv => ⟨_, rfl, v, w.at n', w.cap, rfl, hv, ok.at n', fun pv H5 S5 hp => ?_⟩⟩
        refine ⟨_, rfl, _, _, rfl, rfl, pv, S5, hp, ?_⟩
        rfl
      | false =>
        refine iteT ⟨_, rfl, _, rfl, a, dx, _, rfl, ea4, by kernel_rfl, a, w, rfl, hw4, _, rfl, ?_⟩
        have hp : EffV H4 (.ref ta) (partE w n' false) := ⟨ta, rfl, S3 _ _ (S2 _ _ e1)⟩
        cases en : w.anew with
        | true => exact iteT ⟨.ref ta, Same.refl _, hp, by simp [WN.nxt, en]⟩
        | false => exact iteF ⟨.ref ta, Same.refl _, hp, by simp [WN.nxt, en]⟩
    rintro σ H5 ⟨pv, S5, hp, rfl⟩
    have hf5 := hf.mono S5
    rw [dr] at er
    refine ⟨fun σ H' => ∃ pv, Same H5 H' ∧ EffV H' pv ((partE w n' b).bind (joinE e)) ∧ σ = [some (.ref a), some (.str (rowS l)), some (.int (w.nxt b n' : Nat)), some (.int w.cap), some (.ref ta), some fv, some (.str (sgn b)), some pv], ?_, ?_⟩
    · cases hpe : partE w n' b with
      | none =>
        rw [hpe] at hp
        obtain rfl : pv = .non := hp
        exact ⟨_, rfl, rfl, _, rfl, iteF ⟨.non, Same.refl _, rfl, rfl⟩⟩
      | some f =>
        rw [hpe] at hp
        obtain ⟨tp, rfl, hp⟩ := hp
        refine ⟨_, rfl, rfl, _, rfl, iteT ⟨_, rfl, _, rfl, fv, .ref tp, e, f, rfl, hf5, ⟨tp, rfl, hp⟩, partE_sm ok hpe, fun pv H6 S6 hj => ⟨pv, S6, hj, rfl⟩⟩⟩
    rintro σ H6 ⟨pv, S6, hp, rfl⟩
    have er : effE w l n = ((partE w n' b).bind (joinE e)).bind (rowE w (l.drop (i + 1)) (w.nxt b n')) := er
    cases hj : (partE w n' b).bind (joinE e) with
    | none =>
      rw [hj] at hp er
      obtain rfl : pv = .non := hp
      exact ⟨_, rfl, rfl, _, rfl, iteT (q _ _ ((S24.trans S5).trans S6) (by rw [er]; rfl))⟩
    | some g =>
      rw [hj] at hp er
      obtain ⟨tp, rfl, hp⟩ := hp
      exact ⟨_, rfl, rfl, _, rfl, iteF ⟨_, rfl, (S3.trans S5).trans S6, _, g, .ref tp, _, _, er, ⟨tp, rfl, hp⟩, rfl⟩⟩
  · rintro σ H3 ⟨S3, n', e, fv, o6, o7, er, hf, rfl⟩
    have e0 : (rowS l).cps.size = l.length := by simp [rowS, SX.S]
    rw [e0, List.drop_length] at er
    exact ⟨_, rfl, q _ _ (S02.trans S3) (by rw [er]; exact hf)⟩
end
end WH

set_option maxHeartbeats 4000000
namespace WH
open PySem PySem.Spec PyProof.Rows L2
/-! ### what an effect makes of a strength -/
def mn (a b : Int) : Int := if b < a then b else a
def thr : Option E4 → Int → Int
  | none, _ => 0
  | some e, s => if s < e.least then 0 else mn e.top ((s + e.add) / e.by_)
theorem mn_eq (a b : Int) : mn a b = min a b := by unfold mn; split <;> omega
theorem thr_turn {st : Int × Int} {cap s : Int} (b : 1 ≤ st.1) (t : 0 ≤ st.2) (h0 : 0 ≤ s) (h1 : s ≤ cap) : thr (turnE st cap) s = if s / st.1 - st.2 > 0 then s / st.1 - st.2 else 0 := by
  have hm : s / st.1 ≤ cap / st.1 := Int.ediv_le_ediv (by omega) h1
  unfold turnE
  by_cases c : cap / st.1 - st.2 < 1
  · rw [if_pos c]
    show 0 = _
    rw [if_neg (by omega)]
  · rw [if_neg c]
    show (if s < st.1 * (st.2 + 1) then 0 else mn (cap / st.1 - st.2) ((s + -(st.1 * st.2)) / st.1)) = _
    have e1 : (s + -(st.1 * st.2)) / st.1 = s / st.1 - st.2 := by
      have : s + -(st.1 * st.2) = s + st.1 * (-st.2) := by rw [Int.mul_neg]
      rw [this, Int.add_mul_ediv_left _ _ (by omega)]; omega
    have e2 : s < st.1 * (st.2 + 1) ↔ s / st.1 < st.2 + 1 := by
      rw [Int.ediv_lt_iff_lt_mul (by omega), Int.mul_comm]
    by_cases d : s < st.1 * (st.2 + 1)
    · have := e2.mp d
      rw [if_pos d, if_neg (by omega)]
    · have : ¬ s / st.1 < st.2 + 1 := fun z => d (e2.mpr z)
      rw [if_neg d, e1, mn_eq, if_pos (by omega)]
      omega
theorem mxif {a b : Int} : (if a > b then a else b) = max b a := by split <;> omega
theorem mnif {a b : Int} : (if a < b then a else b) = min b a := by split <;> omega
theorem thr_join {e f : E4} (be : 1 ≤ e.by_) (bf : 1 ≤ f.by_) (lf : 1 ≤ f.least) (s : Int) : thr (joinE e f) s = thr (some f) (thr (some e) s) := by
  have hq : ∀ x : Int, x < f.least * e.by_ - e.add ↔ (x + e.add) / e.by_ < f.least := fun x => by
    rw [Int.ediv_lt_iff_lt_mul (by omega)]; omega
  show _ = if (if s < e.least then 0 else mn e.top ((s + e.add) / e.by_)) < f.least then 0 else mn f.top (((if s < e.least then 0 else mn e.top ((s + e.add) / e.by_)) + f.add) / f.by_)
  have hJ : ¬ e.top < f.least → thr (joinE e f) s = if s < max e.least (f.least * e.by_ - e.add) then 0 else min (min f.top ((e.top + f.add) / f.by_)) ((s + (e.add + f.add * e.by_)) / (e.by_ * f.by_)) := fun d => by
    unfold joinE
    rw [if_neg d]
    show (if s < (if f.least * e.by_ - e.add > e.least then f.least * e.by_ - e.add else e.least) then 0 else mn (if (e.top + f.add) / f.by_ < f.top then (e.top + f.add) / f.by_ else f.top) ((s + (e.add + f.add * e.by_)) / (e.by_ * f.by_))) = _
    rw [mxif, mnif, mn_eq]
  have hN : e.top < f.least → thr (joinE e f) s = 0 := fun d => by
    unfold joinE
    rw [if_pos d]; rfl
  by_cases c : s < e.least
  · rw [if_pos c, if_pos (by omega)]
    by_cases d : e.top < f.least
    · exact hN d
    · rw [hJ d, if_pos (by omega)]
  · rw [if_neg c]
    by_cases d : e.top < f.least
    · rw [hN d, if_pos (by rw [mn_eq]; omega)]
    · rw [hJ d]
      by_cases g : s < f.least * e.by_ - e.add
      · have := (hq s).mp g
        rw [if_pos (by omega), if_pos (by rw [mn_eq]; omega)]
      · have hn : ¬ (s + e.add) / e.by_ < f.least := fun z => g ((hq s).mpr z)
        rw [if_neg (by omega), if_neg (by rw [mn_eq]; omega)]
        have e1 : (s + (e.add + f.add * e.by_)) / (e.by_ * f.by_) = ((s + e.add) / e.by_ + f.add) / f.by_ := by
          rw [← Int.ediv_ediv_of_nonneg (by omega), ← Int.add_assoc, Int.add_mul_ediv_right _ _ (by omega)]
        have e2 : (mn e.top ((s + e.add) / e.by_) + f.add) / f.by_ = min ((e.top + f.add) / f.by_) (((s + e.add) / e.by_ + f.add) / f.by_) := by
          rw [mn_eq]
          by_cases z : e.top ≤ (s + e.add) / e.by_
          · rw [Int.min_eq_left z, Int.min_eq_left (Int.ediv_le_ediv (by omega) (by omega))]
          · rw [Int.min_eq_right (by omega), Int.min_eq_right (Int.ediv_le_ediv (by omega) (by omega))]
        rw [e1, e2, mn_eq]
        omega
theorem turn_le' {w : WN} (ok : okW w) {s : Int} (h : 0 ≤ s) (n : Nat) : 0 ≤ w.turn s n ∧ w.turn s n ≤ s := ⟨(turn_le ok h n).2, (turn_le ok h n).1⟩
theorem stA_zero {w : WN} (ok : okW w) : ∀ (l : List Bool) (n : Nat), (stA w (0, n) l).1 = 0
  | [], _ => rfl
  | b :: l, n => by
    have h0 : (stepA w (0, n) b).1 = 0 := by
      cases b with
      | true => show w.turn 0 n = 0; have := turn_le' ok (show (0 : Int) ≤ 0 by decide) n; omega
      | false => show w.ask 0 = 0; unfold WN.ask; rw [if_pos rfl]
    show (stA w (stepA w (0, n) b) l).1 = 0
    have e : stepA w (0, n) b = (0, (stepA w (0, n) b).2) := Prod.ext h0 rfl
    rw [e]
    exact stA_zero ok l _
structure okF (e : E4) (cap : Int) : Prop where
  b : 1 ≤ e.by_
  l : 1 ≤ e.least
  t : e.top ≤ cap
theorem partE_F {w : WN} (ok : okW w) {n : Nat} {b : Bool} {f : E4} (h : partE w n b = some f) : okF f w.cap := by
  have c1 := ok.c1
  cases b with
  | false => cases h; exact ⟨by show (1 : Int) ≤ 1; decide, by show (1 : Int) ≤ 1; decide, Int.le_refl _⟩
  | true =>
    obtain ⟨b1, b2, t1, t2⟩ := ok.at n
    have h : turnE (w.at n) w.cap = some f := h
    have o := turnE_ok b1 t1 (by omega) h
    unfold turnE at h
    split at h
    · cases h
    · cases h
      refine ⟨b1, ?_, o.t⟩
      show 1 ≤ (w.at n).1 * ((w.at n).2 + 1)
      exact Int.le_trans (by decide : (1 : Int) ≤ 1 * 1) (Int.mul_le_mul b1 (by omega) (by decide) (by omega))
theorem joinE_F {e f g : E4} {cap : Int} (a : okF e cap) (b : okF f cap) (h : joinE e f = some g) : okF g cap := by
  unfold joinE at h
  split at h
  · cases h
  · cases h
    refine ⟨?_, ?_, ?_⟩
    · show 1 ≤ e.by_ * f.by_
      have := a.b
      exact Int.le_trans (by decide : (1 : Int) ≤ 1 * 1) (Int.mul_le_mul a.b b.b (by decide) (by omega))
    · show 1 ≤ if f.least * e.by_ - e.add > e.least then f.least * e.by_ - e.add else e.least
      have := a.l
      rw [mxif]; omega
    · show (if _ then _ else f.top) ≤ cap
      have := b.t
      split <;> omega
theorem thr_part {w : WN} (ok : okW w) {s : Int} (h0 : 0 ≤ s) (h1 : s ≤ w.cap) (n : Nat) (b : Bool) : thr (partE w n b) s = (stepA w (s, n) b).1 := by
  cases b with
  | true =>
    obtain ⟨b1, _, t1, _⟩ := ok.at n
    exact thr_turn b1 t1 h0 h1
  | false =>
    show (if s < 1 then 0 else mn w.cap ((s + w.lift) / 1)) = w.ask s
    unfold WN.ask
    rw [Int.ediv_one]
    by_cases z : s = 0
    · rw [if_pos (by omega), if_pos z]
    · rw [if_neg (by omega), if_neg z]; rfl
theorem rowE_thr {w : WN} (ok : okW w) : ∀ (l : List Bool) (n : Nat) (e : E4) (s S : Int), okF e w.cap → thr (some e) s = S → 0 ≤ S → S ≤ w.cap → thr (rowE w l n e) s = (stA w (S, n) l).1
  | [], n, e, s, S, _, h, _, _ => h
  | b :: l, n, e, s, S, oe, h, h0, h1 => by
    have hp := thr_part ok h0 h1 n b
    have key : stepA w (S, n) b = ((stepA w (S, n) b).1, w.nxt b n) := rfl
    show thr (((partE w n b).bind (joinE e)).bind (rowE w l (w.nxt b n))) s = (stA w (stepA w (S, n) b) l).1
    cases hf : partE w n b with
    | none =>
      rw [hf] at hp
      have z : (stepA w (S, n) b).1 = 0 := hp.symm
      rw [key, z, stA_zero ok]; rfl
    | some f =>
      rw [hf] at hp
      have of_ := partE_F ok hf
      have hj := thr_join oe.b of_.b of_.l s
      rw [h, hp] at hj
      cases hg : joinE e f with
      | none =>
        rw [hg] at hj
        have z : (stepA w (S, n) b).1 = 0 := hj.symm
        rw [key, z, stA_zero ok]
        show thr ((joinE e f).bind _) s = 0
        rw [hg]; rfl
      | some g =>
        rw [hg] at hj
        show thr ((joinE e f).bind _) s = _
        rw [hg]
        have bd := stA_ok ok h0 h1 n [b]
        exact rowE_thr ok l (w.nxt b n) g s _ (joinE_F oe of_ hg) hj bd.1 bd.2
theorem effE_thr {w : WN} (ok : okW w) {s : Int} (h0 : 0 ≤ s) (h1 : s ≤ w.cap) (l : List Bool) (n : Nat) : thr (effE w l n) s = (stA w (s, n) l).1 := by
  have c1 := ok.c1
  refine rowE_thr ok l n ⟨1, 0, 1, w.cap⟩ s s ⟨by show (1 : Int) ≤ 1; decide, by show (1 : Int) ≤ 1; decide, Int.le_refl _⟩ ?_ h0 h1
  show (if s < 1 then 0 else mn w.cap ((s + 0) / 1)) = s
  rw [Int.add_zero, Int.ediv_one, mn_eq]
  split <;> omega
theorem rowE_F {w : WN} (ok : okW w) : ∀ (l : List Bool) (n : Nat) (e g : E4), okF e w.cap → rowE w l n e = some g → okF g w.cap
  | [], n, e, g, oe, h => by cases h; exact oe
  | b :: l, n, e, g, oe, h => by
    have h : ((partE w n b).bind (joinE e)).bind (rowE w l (w.nxt b n)) = some g := h
    cases hf : partE w n b with
    | none => rw [hf] at h; cases h
    | some f =>
      rw [hf] at h
      have h : (joinE e f).bind (rowE w l (w.nxt b n)) = some g := h
      cases hj : joinE e f with
      | none => rw [hj] at h; cases h
      | some j =>
        rw [hj] at h
        exact rowE_F ok l _ j g (joinE_F oe (partE_F ok hf) hj) h
end WH

set_option maxHeartbeats 4000000
namespace WH
open PySem PySem.Spec PyProof.Rows L2
/-! ### an effect so many times -/
def thrN (e : Option E4) : Nat → Int → Int
  | 0, s => s
  | k + 1, s => thrN e k (thr e s)
theorem thr_zero {e : E4} (l : 1 ≤ e.least) : thr (some e) 0 = 0 := by
  show (if (0 : Int) < e.least then 0 else _) = 0
  rw [if_pos (by omega)]
theorem thrN_zero {e : E4} (l : 1 ≤ e.least) : ∀ k, thrN (some e) k 0 = 0
  | 0 => rfl
  | k + 1 => by
    show thrN (some e) k (thr (some e) 0) = 0
    rw [thr_zero l]; exact thrN_zero l k
theorem thrN_none : ∀ {k : Nat} {s : Int}, 0 < k → thrN none k s = 0
  | k + 1, s, _ => by
    show thrN none k 0 = 0
    have : ∀ k, thrN none k 0 = 0 := fun k => by
      induction k with
      | zero => rfl
      | succ k ih => exact ih
    exact this k
theorem thrN_fix {e : Option E4} {s : Int} (h : thr e s = s) : ∀ k, thrN e k s = s
  | 0 => rfl
  | k + 1 => by
    show thrN e k (thr e s) = s
    rw [h]; exact thrN_fix h k
theorem thrN_add (e : Option E4) : ∀ (j k : Nat) (s : Int), thrN e (j + k) s = thrN e k (thrN e j s)
  | 0, k, s => by rw [Nat.zero_add]; rfl
  | j + 1, k, s => by
    rw [Nat.add_right_comm]
    exact thrN_add e j k (thr e s)
theorem thr_one {e : E4} (b : e.by_ = 1) (s : Int) : thr (some e) s = if s < e.least then 0 else min e.top (s + e.add) := by
  show (if s < e.least then 0 else mn e.top ((s + e.add) / e.by_)) = _
  rw [b, Int.ediv_one, mn_eq]
theorem up_line {e : E4} (b : e.by_ = 1) (a : 0 ≤ e.add) : ∀ (k : Nat) (s : Int), e.least ≤ s → s ≤ e.top → thrN (some e) k s = min e.top (s + (k : Int) * e.add)
  | 0, s, h1, h2 => by
    show s = _
    simp; omega
  | k + 1, s, h1, h2 => by
    show thrN (some e) k (thr (some e) s) = _
    rw [thr_one b, if_neg (by omega), up_line b a k _ (by omega) (by omega)]
    have e1 : ((k + 1 : Nat) : Int) * e.add = (k : Int) * e.add + e.add := by rw [Int.natCast_add, Int.add_mul]; simp
    have e2 : 0 ≤ (k : Int) * e.add := Int.mul_nonneg (by omega) a
    rw [e1]
    generalize (k : Int) * e.add = X at e2 ⊢
    omega
theorem down_line {e : E4} (b : e.by_ = 1) (l : 1 ≤ e.least) (a : e.add < 0) : ∀ (k : Nat) (s : Int), e.least ≤ s → s ≤ e.top → thrN (some e) k s = if (k : Int) > (s - e.least) / -e.add + 1 then 0 else s + (k : Int) * e.add
  | 0, s, h1, h2 => by
    have : 0 ≤ (s - e.least) / -e.add := Int.ediv_nonneg (by omega) (by omega)
    rw [if_neg (show ¬ ((0 : Nat) : Int) > _ by omega)]
    show s = _
    simp
  | k + 1, s, h1, h2 => by
    show thrN (some e) k (thr (some e) s) = _
    have e1 : ((k + 1 : Nat) : Int) * e.add = (k : Int) * e.add + e.add := by rw [Int.natCast_add, Int.add_mul]; simp
    have e0 : min e.top (s + e.add) = s + e.add := by omega
    rw [thr_one b, if_neg (by omega), e0, e1]
    by_cases c : e.least ≤ s + e.add
    · rw [down_line b l a k _ c (by omega)]
      have e3 : (s - e.least) / -e.add = (s + e.add - e.least) / -e.add + 1 := by
        have : s - e.least = (s + e.add - e.least) + 1 * -e.add := by omega
        rw [this, Int.add_mul_ediv_right _ _ (by omega)]
      rw [e3]
      generalize (s + e.add - e.least) / -e.add = q
      generalize (k : Int) * e.add = X
      by_cases d : (k : Int) > q + 1
      · rw [if_pos d, if_pos (by omega)]
      · rw [if_neg d, if_neg (by omega)]; omega
    · have e3 : (s - e.least) / -e.add = 0 := Int.ediv_eq_zero_of_lt (by omega) (by omega)
      rw [e3]
      cases k with
      | zero =>
        rw [if_neg (by simp)]
        show s + e.add = _
        simp
      | succ k =>
        rw [if_pos (by omega)]
        show thrN (some e) k (thr (some e) (s + e.add)) = 0
        rw [thr_one b, if_pos (by omega)]
        exact thrN_zero l k
/-- straight: one step, then a line; m turns more -/
def lineP (e : E4) (s : Int) (m : Nat) : Int :=
  if thr (some e) s < e.least ∨ m = 0 then (if m = 0 then thr (some e) s else 0)
  else if e.add ≥ 0 then mn e.top (thr (some e) s + (m : Int) * e.add)
  else if (m : Int) > (thr (some e) s - e.least) / -e.add + 1 then 0 else thr (some e) s + (m : Int) * e.add
theorem lineP_eq {e : E4} (b : e.by_ = 1) (l : 1 ≤ e.least) (s : Int) (m : Nat) : lineP e s m = thrN (some e) (m + 1) s := by
  show _ = thrN (some e) m (thr (some e) s)
  unfold lineP
  have ht : thr (some e) s ≤ e.top ∨ thr (some e) s = 0 := by
    rw [thr_one b]
    split
    · exact .inr rfl
    · exact .inl (by omega)
  generalize thr (some e) s = S at ht ⊢
  by_cases c : S < e.least ∨ m = 0
  · rw [if_pos c]
    by_cases m0 : m = 0
    · subst m0; rw [if_pos rfl]; rfl
    · rw [if_neg m0]
      obtain ⟨k, rfl⟩ := Nat.exists_eq_succ_of_ne_zero m0
      rcases c with c | c
      · show 0 = thrN (some e) k (thr (some e) S)
        rw [thr_one b, if_pos c, thrN_zero l]
      · exact absurd c m0
  · have c1 : e.least ≤ S := by omega
    rw [if_neg c]
    by_cases a : e.add ≥ 0
    · rw [if_pos a, up_line b a m S c1 (by omega), mn_eq]
    · rw [if_neg a, down_line b l (by omega) m S c1 (by omega)]
/-! ### rounds -/
def rndN (w : WN) (row : List Bool) : Nat → Int × Nat → Int × Nat
  | 0, p => p
  | k + 1, p => rndN w row k (stA w p row)
theorem stA_app (w : WN) (p : Int × Nat) (l m : List Bool) : stA w p (l ++ m) = stA w (stA w p l) m := by unfold stA; rw [List.foldl_append]
theorem rndN_add (w : WN) (row : List Bool) : ∀ (j k : Nat) (p : Int × Nat), rndN w row (j + k) p = rndN w row k (rndN w row j p)
  | 0, k, p => by rw [Nat.zero_add]; rfl
  | j + 1, k, p => by
    rw [Nat.add_right_comm]
    exact rndN_add w row j k _
theorem rndN_succ (w : WN) (row : List Bool) (k : Nat) (p : Int × Nat) : rndN w row (k + 1) p = stA w (rndN w row k p) row := rndN_add w row k 1 p
theorem rndN_flat (w : WN) (row : List Bool) : ∀ (k : Nat) (p : Int × Nat), stA w p (List.replicate k row).flatten = rndN w row k p
  | 0, p => rfl
  | k + 1, p => by
    rw [List.replicate_succ, List.flatten_cons, stA_app]
    exact rndN_flat w row k _
theorem rndN_ok {w : WN} (ok : okW w) {s : Int} (h0 : 0 ≤ s) (h1 : s ≤ w.cap) (row : List Bool) (n k : Nat) : 0 ≤ (rndN w row k (s, n)).1 ∧ (rndN w row k (s, n)).1 ≤ w.cap := by
  rw [← rndN_flat]; exact stA_ok ok h0 h1 n _
def sinA (w : WN) (n : Nat) (l : List Bool) : Nat := l.foldl (fun n b => w.nxt b n) n
theorem stA_sin (w : WN) : ∀ (l : List Bool) (p : Int × Nat), (stA w p l).2 = sinA w p.2 l
  | [], _ => rfl
  | b :: l, p => stA_sin w l (stepA w p b)
/-- no asking begins the steps anew -/
def Steady (w : WN) (l : List Bool) : Prop := w.anew = true → ∀ b ∈ l, b = true
theorem Steady.tl {w : WN} {b : Bool} {l : List Bool} (h : Steady w (b :: l)) : Steady w l := fun a c hc => h a c (List.mem_cons_of_mem _ hc)
theorem Steady.nxt {w : WN} {b : Bool} {l : List Bool} (h : Steady w (b :: l)) (n : Nat) : w.nxt b n = n + if b then 1 else 0 := by
  unfold WN.nxt
  cases b with
  | true => rfl
  | false =>
    have : w.anew = false := by
      cases e : w.anew with
      | false => rfl
      | true => have := h e false (List.mem_cons_self ..); cases this
    rw [this]; simp
theorem Steady.sin {w : WN} : ∀ {l : List Bool} (_ : Steady w l) (n : Nat), sinA w n l = n + l.count true
  | [], _, n => by simp [sinA]
  | b :: l, h, n => by
    show sinA w (w.nxt b n) l = _
    rw [Steady.sin h.tl, h.nxt]
    cases b <;> simp <;> omega
theorem at_shift {w : WN} (ok : okW w) {n : Nat} (h : w.head.length ≤ n) (j : Nat) : w.at (n + w.tail.length * j) = w.at n := by
  unfold WN.at
  rw [if_neg (by omega), if_neg (by omega)]
  have : n + w.tail.length * j - w.head.length = n - w.head.length + w.tail.length * j := by omega
  rw [this, Nat.add_mul_mod_self_left]
theorem Steady.shift {w : WN} (ok : okW w) : ∀ {l : List Bool} (_ : Steady w l) (s : Int) (n j : Nat), w.head.length ≤ n → (stA w (s, n + w.tail.length * j) l).1 = (stA w (s, n) l).1
  | [], _, _, _, _, _ => rfl
  | b :: l, h, s, n, j, hn => by
    show (stA w (stepA w (s, n + w.tail.length * j) b) l).1 = (stA w (stepA w (s, n) b) l).1
    have e1 : (stepA w (s, n + w.tail.length * j) b).1 = (stepA w (s, n) b).1 := by
      cases b with
      | false => rfl
      | true =>
        show w.turn s _ = w.turn s n
        unfold WN.turn
        rw [at_shift ok hn j]
    have e2 : (stepA w (s, n + w.tail.length * j) b).2 = (stepA w (s, n) b).2 + w.tail.length * j := by
      show w.nxt b _ = w.nxt b n + _
      rw [h.nxt, h.nxt]; omega
    have e3 : stepA w (s, n + w.tail.length * j) b = ((stepA w (s, n) b).1, (stepA w (s, n) b).2 + w.tail.length * j) := Prod.ext e1 e2
    rw [e3]
    refine Steady.shift ok h.tl _ _ j ?_
    show w.head.length ≤ w.nxt b n
    rw [h.nxt]; omega
theorem fresh_sin {w : WN} (a : w.anew = true) : ∀ {l : List Bool}, false ∈ l → ∀ n m, sinA w n l = sinA w m l
  | b :: l, h, n, m => by
    show sinA w (w.nxt b n) l = sinA w (w.nxt b m) l
    cases b with
    | false =>
      have : ∀ n, w.nxt false n = 0 := fun n => by unfold WN.nxt; rw [a]; rfl
      rw [this, this]
    | true =>
      have : false ∈ l := by simpa using h
      exact fresh_sin a this _ _
theorem rep_mem {k : Nat} {row : List Bool} {b : Bool} (h : b ∈ (List.replicate k row).flatten) : b ∈ row := by
  obtain ⟨l, hl, hb⟩ := List.mem_flatten.mp h
  rw [(List.mem_replicate.mp hl).2] at hb
  exact hb
theorem Steady.rep {w : WN} {row : List Bool} (h : Steady w row) (k : Nat) : Steady w (List.replicate k row).flatten := fun a b hb => h a b (rep_mem hb)
theorem Steady.rnd {w : WN} {row : List Bool} (h : Steady w row) : ∀ (k : Nat) (p : Int × Nat), (rndN w row k p).2 = p.2 + k * row.count true
  | 0, p => by simp [rndN]
  | k + 1, p => by
    show (rndN w row k (stA w p row)).2 = _
    rw [Steady.rnd h, stA_sin, h.sin, Nat.succ_mul]; omega
theorem fresh_rnd {w : WN} {row : List Bool} (a : w.anew = true) (h : false ∈ row) : ∀ (k : Nat) (p q : Int × Nat), (rndN w row (k + 1) p).2 = (stA w q row).2 := by
  intro k p q
  rw [rndN_succ, stA_sin, stA_sin]
  exact fresh_sin a h _ _
/-- where the states come again: behind `set` rounds, each `per` rounds -/
def Comes (w : WN) (row : List Bool) (p : Int × Nat) (set per : Nat) : Prop := ∀ q, ∀ s : Int, (stA w (s, (rndN w row (set + q * per) p).2) (List.replicate per row).flatten).1 = (stA w (s, (rndN w row set p).2) (List.replicate per row).flatten).1
theorem comes_thr {w : WN} (ok : okW w) {row : List Bool} {s : Int} {n set per : Nat} (h0 : 0 ≤ s) (h1 : s ≤ w.cap) (c : Comes w row (s, n) set per) : ∀ q, (rndN w row (set + q * per) (s, n)).1 = thrN (effE w (List.replicate per row).flatten (rndN w row set (s, n)).2) q (rndN w row set (s, n)).1
  | 0 => by simp [thrN]
  | q + 1 => by
    have ih := comes_thr ok h0 h1 c q
    have e : set + (q + 1) * per = (set + q * per) + per := by rw [Nat.succ_mul]; omega
    rw [e, rndN_add, ← rndN_flat]
    have b := rndN_ok ok h0 h1 row n (set + q * per)
    have e2 : rndN w row (set + q * per) (s, n) = ((rndN w row (set + q * per) (s, n)).1, (rndN w row (set + q * per) (s, n)).2) := rfl
    rw [e2, c q, ← effE_thr ok b.1 b.2, ih, thrN_add]
    rfl
theorem comes_fresh {w : WN} {row : List Bool} {p : Int × Nat} (a : w.anew = true) (h : false ∈ row) : Comes w row p 1 1 := fun q s => by
  have e1 := fresh_rnd a h q p p
  have e2 := fresh_rnd a h 0 p p
  rw [show 1 + q * 1 = q + 1 by omega, e1, ← e2]
theorem comes_still {w : WN} {row : List Bool} {p : Int × Nat} (h : Steady w row) (c : row.count true = 0) : Comes w row p 0 1 := fun q s => by
  rw [h.rnd, h.rnd, c]; simp
theorem comes_turns {w : WN} (ok : okW w) {row : List Bool} {p : Int × Nat} (h : Steady w row) {set per j : Nat} (hs : w.head.length ≤ p.2 + set * row.count true) (hp : per * row.count true = w.tail.length * j) : Comes w row p set per := fun q s => by
  rw [h.rnd, h.rnd]
  have e : p.2 + (set + q * per) * row.count true = p.2 + set * row.count true + w.tail.length * (q * j) := by
    rw [Nat.add_mul, Nat.mul_assoc, hp, Nat.mul_left_comm]; omega
  rw [e]
  exact Steady.shift ok (h.rep per) s _ _ hs
end WH

set_option maxHeartbeats 4000000
namespace WH
open PySem PySem.Spec PyProof.Rows L2
theorem iteT_of {c : Bool} {A B : Prop} (h : c = true) (a : A) : if c = true then A else B := by rw [h]; exact a
theorem iteF_of {c : Bool} {A B : Prop} (h : c = false) (b : B) : if c = true then A else B := by rw [h]; exact b
/-- an effect of at most k signs -/
structure bigE (e : E4) (cap : Int) (k : Nat) : Prop where
  f : okF e cap
  b : e.by_ ≤ 16 ^ k
  a : e.by_ = 1 → -(10000000000 * (k : Int)) ≤ e.add ∧ e.add ≤ 10000000000 * (k : Int)
theorem rowE_big {w : WN} (ok : okW w) : ∀ (l : List Bool) (n k : Nat) (e g : E4), bigE e w.cap k → rowE w l n e = some g → bigE g w.cap (k + l.length)
  | [], n, k, e, g, oe, h => by cases h; exact oe
  | b :: l, n, k, e, g, oe, h => by
    have h : ((partE w n b).bind (joinE e)).bind (rowE w l (w.nxt b n)) = some g := h
    cases hf : partE w n b with
    | none => rw [hf] at h; cases h
    | some f =>
      rw [hf] at h
      have h : (joinE e f).bind (rowE w l (w.nxt b n)) = some g := h
      have sm := partE_sm ok hf
      have pF := partE_F ok hf
      cases hj : joinE e f with
      | none => rw [hj] at h; cases h
      | some j =>
        rw [hj] at h
        have jF := joinE_F oe.f pF hj
        have eb := oe.f.b
        have key : j.by_ = e.by_ * f.by_ ∧ j.add = e.add + f.add * e.by_ := by
          unfold joinE at hj
          split at hj
          · cases hj
          · cases hj; exact ⟨rfl, rfl⟩
        have := rowE_big ok l (w.nxt b n) (k + 1) j g ⟨jF, ?_, fun h1 => ?_⟩ h
        · rw [List.length_cons]
          have e1 : k + (l.length + 1) = k + 1 + l.length := by omega
          rw [e1]; exact this
        · rw [key.1, Int.pow_succ]
          exact Int.mul_le_mul oe.b (by have := sm.b9; omega) (by have := sm.b; omega) (by have : (0 : Int) ≤ 16 ^ k := Int.pow_nonneg (by decide); omega)
        · rw [key.1] at h1
          have e1 : e.by_ = 1 := by
            have : e.by_ * 1 ≤ e.by_ * f.by_ := Int.mul_le_mul_of_nonneg_left sm.b (by omega)
            omega
          have a := oe.a e1
          have := sm.a0
          have := sm.a1
          rw [key.2, e1, Int.mul_one]
          have e2 : ((k + 1 : Nat) : Int) = (k : Int) + 1 := by omega
          rw [e2]
          omega
theorem effE_big {w : WN} (ok : okW w) {l : List Bool} {n : Nat} {g : E4} (h : effE w l n = some g) : bigE g w.cap l.length := by
  have := rowE_big ok l n 0 ⟨1, 0, 1, w.cap⟩ g ⟨⟨by show (1 : Int) ≤ 1; decide, by show (1 : Int) ≤ 1; decide, Int.le_refl _⟩, by show (1 : Int) ≤ 16 ^ 0; decide, fun _ => ⟨by show -(10000000000 * ((0 : Nat) : Int)) ≤ 0; decide, by show (0 : Int) ≤ 10000000000 * ((0 : Nat) : Int); decide⟩⟩ h
  rw [Nat.zero_add] at this
  exact this
/-- what through and repeated want of an effect -/
def wide (o : Option E4) : Prop := ∀ e, o = some e → 1 ≤ e.least ∧ CDivW 0 e.by_ ∧ (e.by_ = 1 → -(2 ^ 60) < e.add ∧ e.add < 2 ^ 60)
theorem wide_eff {w : WN} (ok : okW w) {l : List Bool} (hl : l.length ≤ 1200) (n : Nat) : wide (effE w l n) := fun e he => by
  have b := effE_big ok he
  refine ⟨b.f.l, wide_div (b := 4 * l.length + 1) (by have := b.f.b; omega) ?_ (by omega) (by omega), fun h => ?_⟩
  · have h1 := b.f.b
    have h2 := b.b
    have e16 : (16 : Int) ^ l.length = ((2 ^ (4 * l.length) : Nat) : Int) := by
      rw [Nat.pow_mul]; simp
    rw [e16] at h2
    have : e.by_.natAbs ≤ 2 ^ (4 * l.length) := by omega
    exact Nat.lt_of_le_of_lt this (Nat.pow_lt_pow_right (by decide) (by omega))
  · have := b.a h
    omega
section
variable {P : Program} {w : World} {K : PySem.W.Frag} {mg : Str → Option Value} {base : Heap}
def spThrough : Sp := fun vs H Q _ => ∃ v o s, vs = [v, .int s] ∧ EffV H v o ∧ wide o ∧ Q (.int (thr o s)) H
theorem cal_through (T : Txt K mg) : C8.Cal P w K mg base 1 "through" spThrough [] := by
  refine calD T.f_through T.g_through sc_through (fun fd F => F.bindsN fun _ _ _ _ _ _ us hl => match us, hl with | [_, _], _ => rfl) (fun vs H Q E h => by obtain ⟨_, _, _, rfl, _⟩ := h; rfl) fun cdv A outer s H vs Q E hr h => ?_
  refine ⟨_, (pss_cons (ps_if (PW.pt (pw_or (pt_cmpR op_isN (pv 0) pe_non (nomark _)) (pw_or1 (pt_cmpR op_lt (pv 1) (pe_ix ix_tup (pv 0) pe_int (fun _ _ => rfl)) (nomark _))))) (pss_one (ps_ret pe_int)) pss_nil) (pss_cons (ps_asg (pv 0) (pg_tup rfl (pgs_cons (pg_name (i := 2) sc_through.nd rfl (by first | exact Or.inl rfl | exact Or.inr rfl)) (pgs_cons (pg_name (i := 3) sc_through.nd rfl (by first | exact Or.inl rfl | exact Or.inr rfl)) (pgs_cons (pg_name (i := 4) sc_through.nd rfl (by first | exact Or.inl rfl | exact Or.inr rfl)) (pgs_cons (pg_name (i := 5) sc_through.nd rfl (by first | exact Or.inl rfl | exact Or.inr rfl)) pgs_nil)))))) (pss_one (ps_ret (pe_callB (call_min2 rfl) (by rfl) T.b_min (by decide +kernel) (pa_cons (pv 5) (pa_cons (pe_op op_fdivW (pe_op op_add (pv 1) (pv 3)) (pv 4)) pa_nil))))))), ?_⟩
  obtain ⟨v, o, s, rfl, hv, wd, q⟩ := h
  cases o with
  | none =>
    obtain rfl : v = .non := hv
    exact ⟨_, rfl, rfl, _, rfl, iteT (iteT q)⟩
  | some e =>
    obtain ⟨t, rfl, ht⟩ := hv
    obtain ⟨l1, cd, _⟩ := wd e rfl
    have q : Q (.int (if s < e.least then 0 else mn e.top ((s + e.add) / e.by_))) H := q
    refine ⟨_, rfl, rfl, _, rfl, iteF ⟨_, rfl, _, rfl, t, _, _, _, rfl, rfl, SqT.of ht, rfl, _, _, rfl, rfl, _, rfl, ite2 (fun c => ?_) fun c => ?_⟩⟩
    · have c : s < e.least := of_decide_eq_true c
      rw [if_pos c] at q
      exact q
    · have c : ¬ s < e.least := fun z => c (decide_eq_true z)
      rw [if_neg c] at q
      refine ⟨_, rfl, t, _, rfl, SqT.of ht, rfl, _, _, rfl, _, _, rfl, _, _, rfl, _, _, rfl, rfl, ?_⟩
      exact ⟨_, rfl, _, rfl, _, rfl, _, _, rfl, rfl, _, rfl, _, _, rfl, rfl, cd, _, _, rfl, q⟩
def spCommon : Sp := fun vs H Q _ => ∃ a b : Nat, vs = [.int (a : Nat), .int (b : Nat)] ∧ b < 1000000 ∧ Q (.int (Nat.gcd a b : Nat)) H
theorem cal_common (T : Txt K mg) : C8.Cal P w K mg base 1 "common" spCommon [] := by
  refine calD T.f_common T.g_common sc_common (fun fd F => F.bindsN fun _ _ _ _ _ _ us hl => match us, hl with | [_, _], _ => rfl) (fun vs H Q E h => by obtain ⟨_, _, rfl, _⟩ := h; rfl) fun cdv A outer s H vs Q E hr h => ?_
  refine ⟨_, (pss_cons (ps_while PassesOwn.never (pt_cmpR op_ne (pv 1) pe_int (nomark _)) (pss_one (ps_par (i := 0) (j := 1) (by rfl) sc_common.nd rfl rfl (by decide) rfl rfl (pa_cons (pv 1) (pa_cons (pe_op op_mod (pv 0) (pv 1)) pa_nil)) (by rfl)))) (pss_one (ps_ret (pv 0)))), ?_⟩
  obtain ⟨a, b, rfl, hb, q⟩ := h
  refine ⟨fun n σ H' => H' = H ∧ ∃ x y : Nat, n = y ∧ y < 1000000 ∧ Nat.gcd x y = Nat.gcd a b ∧ σ = [some (.int (x : Nat)), some (.int (y : Nat))], ⟨b, rfl, a, b, rfl, hb, rfl, rfl⟩, ?_⟩
  rintro n σ H' ⟨rfl, x, y, rfl, hy, e, rfl⟩
  refine ⟨_, rfl, rfl, _, rfl, ite2 (fun c => ?_) fun c => ?_⟩
  · have y0 : n ≠ 0 := fun z => by rw [z] at c; simp at c
    refine ⟨fun σ H'' => H'' = H' ∧ σ = [some (.int (n : Nat)), some (.int ((x % n : Nat) : Int))], fun σ' H'' ⟨e1, e2⟩ => ⟨x % n, Nat.mod_lt _ (by omega), e1, n, x % n, rfl, by have := Nat.mod_lt x (show 0 < n by omega); omega, by rw [← e, Nat.gcd_comm x n, Nat.gcd_rec n x, Nat.gcd_comm], e2⟩, ?_⟩
    refine ⟨_, rfl, _, rfl, _, rfl, _, _, rfl, rfl, by omega, _, _, rfl, rfl, ?_⟩
    show [some (V.int (n : Nat)), some (V.int ((x : Int) % (n : Int)))] = _
    rw [← Int.natCast_emod]
  · have y0 : n = 0 := by
      by_cases z : n = 0
      · exact z
      · exfalso; apply c; simp [z]
    subst y0
    rw [Nat.gcd_zero_right] at e
    subst e
    exact ⟨_, rfl, q⟩
def strL (w : WN) (s : Int) (n : Nat) (l : List Bool) (k : Nat) : List Int := (List.range k).map fun j => (stA w (s, n) (l.take j)).1
def spWalked (K : PySem.W.Frag) : Sp := fun vs H Q _ => ∃ a w s l n, vs = [.ref a, .int s, .str (rowS l), .int (n : Nat)] ∧ WaneAt K H a w ∧ 0 ≤ s ∧ s ≤ w.cap ∧ l.length ≤ 200 ∧
  ∀ t ls H', Same H H' → H' t = some (.tup [.ref ls, .int ((stA w (s, n) l).2 : Nat)]) → H' ls = some (.lst ((strL w s n l (l.length + 1)).map V.int)) → Q (.ref t) H'
theorem cal_row_walked (T : Txt K mg) : C8.Cal P w K mg base 2 "row_walked" (spWalked K) [] := by
  refine calD T.f_row_walked T.g_row_walked sc_row_walked (fun fd F => F.bindsN fun _ _ _ _ _ _ us hl => match us, hl with | [_, _, _, _], _ => rfl) (fun vs H Q E h => by obtain ⟨_, _, _, _, _, rfl, _⟩ := h; rfl) fun cdv A outer s H vs Q E hr h => ?_
  refine ⟨_, (pss_cons (ps_set (i := 4) sc_row_walked.nd rfl (by first | exact Or.inl rfl | exact Or.inr rfl) (NW.pe_lstN (pa_cons (pv 1) pa_nil))) (pss_cons (ps_for PassesOwn.never rfl (pi_str (pv 2)) (pg_name (i := 5) sc_row_walked.nd rfl (by first | exact Or.inl rfl | exact Or.inr rfl)) (C8.pss_cut (ps_if (pt_cmpR op_eq (pv 5) pe_str (nomark _)) (pss_cons (ps_if (pt_cmpR op_gt (pv 1) pe_int (nomark _)) (pss_one (ps_set (i := 1) sc_row_walked.nd rfl (by first | exact Or.inl rfl | exact Or.inr rfl) (pe_callB (call_min2 rfl) (by rfl) T.b_min (by decide +kernel) (pa_cons (C8.pe_mt0 (met_Wane_cap T) hr (by decide) (pv 0)) (pa_cons (pe_op op_add (pv 1) (C8.pe_mt0 (met_Wane_lift T) hr (by decide) (pv 0))) pa_nil))))) pss_nil) (pss_one (ps_if (pt_val (C8.pe_mt0 (met_Wane_is_anew T) hr (by decide) (pv 0))) (pss_one (ps_set (i := 3) sc_row_walked.nd rfl (by first | exact Or.inl rfl | exact Or.inr rfl) pe_int)) pss_nil))) (pss_cons (ps_asg (C8.pe_mt (met_Wane_coming T) hr (by decide) (pv 0) (pa_cons (pv 3) pa_nil)) (pg_tup rfl (pgs_cons (pg_name (i := 6) sc_row_walked.nd rfl (by first | exact Or.inl rfl | exact Or.inr rfl)) (pgs_cons (pg_name (i := 7) sc_row_walked.nd rfl (by first | exact Or.inl rfl | exact Or.inr rfl)) pgs_nil)))) (pss_cons (ps_set (i := 1) sc_row_walked.nd rfl (by first | exact Or.inl rfl | exact Or.inr rfl) (pe_callB (call_max2 rfl) (by rfl) T.b_max (by decide +kernel) (pa_cons pe_int (pa_cons (pe_op op_sub (pe_op op_fdiv (pv 1) (pv 6)) (pv 7)) pa_nil)))) (pss_one (ps_aug (i := 3) sc_row_walked.nd rfl (by first | exact Or.inl rfl | exact Or.inr rfl) pe_int ip_add))))) (pss_one (ps_expr (pe_bm PySem.F.plainAttrs_list PySem.F.slot_list_append PySem.F.type_list_append mt_append (pv 4) (pa_cons (pv 1) pa_nil)))))) (pss_one (ps_ret (NW.pe_tupN (pa_cons (pv 4) (pa_cons (pv 3) pa_nil))))))), ?_⟩
  obtain ⟨a, w, s, l, n, rfl, hw, h0, h1, hl, q⟩ := h
  obtain ⟨dx, hh, ht, ea, _, _, ok⟩ := id hw
  refine ⟨_, rfl, by show 1 ≤ sizeLine; decide, fun D H1 nD S1 hD => ⟨_, rfl, ?_⟩⟩
  refine ⟨_, rfl, for_it walk_str (fun i σ H' => Same H H' ∧ H' D = some (.lst ((strL w s n l (i + 1)).map V.int)) ∧ ∃ o5 o6 o7, σ = [some (.ref a), some (.int (stA w (s, n) (l.take i)).1), some (.str (rowS l)), some (.int ((stA w (s, n) (l.take i)).2 : Nat)), some (.ref D), o5, o6, o7])
    ⟨S1, hD, _, _, _, rfl⟩ (fun _ _ _ _ _ => trivial) ?_ ?_⟩
  · rintro i x σ H2 H3 hi ⟨S2, hD2, o5, o6, o7, rfl⟩ ⟨rfl, c, hc, rfl⟩
    obtain ⟨b, hb, es⟩ := sgn_of hc
    rw [es]
    have i2 : i < l.length := (List.getElem?_eq_some_iff.mp hb).1
    have nx : stA w (s, n) (l.take (i + 1)) = stepA w (stA w (s, n) (l.take i)) b := by rw [take_snoc hb, stA, List.foldl_append]; rfl
    have bd := stA_ok ok h0 h1 n (l.take i)
    have hw2 := hw.mono S2
    have ea2 := S2 _ _ ea
    refine ⟨fun σ H' => H' = H3 ∧ ∃ o6 o7, σ = [some (.ref a), some (.int (stA w (s, n) (l.take (i + 1))).1), some (.str (rowS l)), some (.int ((stA w (s, n) (l.take (i + 1))).2 : Nat)), some (.ref D), some (.str (sgn b)), o6, o7], ?_, ?_⟩
    · rw [nx]
      generalize stA w (s, n) (l.take i) = p at bd
      obtain ⟨s', n'⟩ := p
      refine ⟨_, rfl, rfl, _, rfl, ?_⟩
      rw [sgn_a]
      cases b with
      | true =>
        refine iteF ?_
        obtain ⟨b1, b2, t1, t2⟩ := ok.at n'
        refine ⟨_, rfl, a, dx, _, rfl, ea2, by kernel_rfl, _, rfl, a, w, n', rfl, hw2, fun v hv => ?_⟩
        obtain ⟨u, rfl, hu⟩ := hv
        refine ⟨u, _, rfl, SqT.of hu, rfl, _, _, rfl, _, _, rfl, rfl, ?_⟩
        refine ⟨_, rfl, _, rfl, _, _, rfl, rfl, ⟨b1, by omega⟩, _, rfl, _, _, rfl, rfl, _, _, rfl, ?_⟩
        exact ⟨_, rfl, _, _, rfl, rfl, rfl, _, _, rfl⟩
      | false =>
        have fin : ∀ (v : Int), v = w.ask s' → ∀ σ0 : L2.St, σ0 = [some (.ref a), some (.int v), some (.str (rowS l)), some (.int (n' : Nat)), some (.ref D), some (.str (sgn false)), o6, o7] → (if w.anew = true then [some (.ref a), some (.int v), some (.str (rowS l)), some (.int 0), some (.ref D), some (.str (sgn false)), o6, o7] else σ0) = [some (.ref a), some (.int (stepA w (s', n') false).1), some (.str (rowS l)), some (.int ((stepA w (s', n') false).2 : Nat)), some (.ref D), some (.str (sgn false)), o6, o7] := by
          intro v ev σ0 e0
          subst ev e0
          show _ = [some (.ref a), some (.int (w.ask s')), some (.str (rowS l)), some (.int ((w.nxt false n' : Nat))), some (.ref D), some (.str (sgn false)), o6, o7]
          unfold WN.nxt
          cases w.anew <;> rfl
        refine iteT ⟨_, rfl, _, _, rfl, rfl, _, rfl, ite2 (fun z => ?_) fun z => ?_⟩
        · have z : 0 < s' := of_decide_eq_true z
          refine ⟨_, rfl, a, dx, _, rfl, ea2, by kernel_rfl, a, w, rfl, hw2, _, rfl, _, rfl, a, dx, _, rfl, ea2, by kernel_rfl, a, w, rfl, hw2, _, _, rfl, rfl, _, _, rfl, ?_⟩
          refine ⟨_, rfl, a, dx, _, rfl, ea2, by kernel_rfl, a, w, rfl, hw2, _, rfl, ?_⟩
          have f := fin (if s' + w.lift < w.cap then s' + w.lift else w.cap) (by unfold WN.ask; rw [if_neg (show ¬ s' = 0 by omega)]) _ rfl
          cases en : w.anew with
          | true => rw [en] at f; exact iteT ⟨rfl, _, _, f⟩
          | false => rw [en] at f; exact iteF ⟨rfl, _, _, f⟩
        · have z : s' = 0 := by
            have : ¬ 0 < s' := fun y => z (decide_eq_true y)
            have := bd.1
            dsimp only at this
            omega
          refine ⟨_, rfl, a, dx, _, rfl, ea2, by kernel_rfl, a, w, rfl, hw2, _, rfl, ?_⟩
          have f := fin s' (by rw [z]; unfold WN.ask; rw [if_pos rfl]) _ rfl
          cases en : w.anew with
          | true => rw [en] at f; exact iteT ⟨rfl, _, _, f⟩
          | false => rw [en] at f; exact iteF ⟨rfl, _, _, f⟩
    rintro σ H4 ⟨rfl, o6, o7, rfl⟩
    have hD4 := hD2
    refine ⟨_, rfl, .inl ⟨rfl, _, SqL.of hD4⟩, _, rfl, D, _, _, rfl, rfl, hD4, ?_, ?_⟩
    · rw [List.length_map, strL, List.length_map, List.length_range]; exact small1000 (by omega)
    · refine ⟨Same.mut S2 nD, ?_, _, _, _, rfl⟩
      rw [upd_same]
      have e3 : strL w s n l (i + 1 + 1) = strL w s n l (i + 1) ++ [(stA w (s, n) (l.take (i + 1))).1] := by
        unfold strL
        rw [List.range_succ (n := i + 1), List.map_append]; rfl
      rw [e3, List.map_append]; rfl
  · rintro σ H2 ⟨S2, hD2, o5, o6, o7, rfl⟩
    have e0 : (rowS l).cps.size = l.length := by simp [rowS, SX.S]
    rw [e0] at hD2 ⊢
    rw [List.take_length]
    exact ⟨_, rfl, _, rfl, by show 2 ≤ sizeLine; decide, fun t H3 nt S3 h3 => q t D H3 (S2.trans S3) h3 (S3 _ _ hD2)⟩
def spStraight : Sp := fun vs H Q _ => ∃ v e s m, vs = [v, .int s, .int ((m : Nat) + 1)] ∧ EffV H v (some e) ∧ wide (some e) ∧ e.by_ = 1 ∧ Q (.int (lineP e s m)) H
theorem cal_straight (T : Txt K mg) : C8.Cal P w K mg base 2 "straight" spStraight [] := by
  refine calD T.f_straight T.g_straight sc_straight (fun fd F => F.bindsN fun _ _ _ _ _ _ us hl => match us, hl with | [_, _, _], _ => rfl) (fun vs H Q E h => by obtain ⟨_, _, _, _, rfl, _⟩ := h; rfl) fun cdv A outer s H vs Q E hr h => ?_
  refine ⟨_, (C8.pss_cut (ps_asg (pv 0) (pg_tup rfl (pgs_cons (pg_name (i := 3) sc_straight.nd rfl (by first | exact Or.inl rfl | exact Or.inr rfl)) (pgs_cons (pg_name (i := 4) sc_straight.nd rfl (by first | exact Or.inl rfl | exact Or.inr rfl)) (pgs_cons (pg_name (i := 5) sc_straight.nd rfl (by first | exact Or.inl rfl | exact Or.inr rfl)) (pgs_cons (pg_name (i := 6) sc_straight.nd rfl (by first | exact Or.inl rfl | exact Or.inr rfl)) pgs_nil)))))) (C8.pss_cut (ps_set (i := 1) sc_straight.nd rfl (by first | exact Or.inl rfl | exact Or.inr rfl) (C8.pe_c (cal_through T) hr (by decide) rfl (pa_cons (pv 0) (pa_cons (pv 1) pa_nil)))) (C8.pss_cut (ps_aug (i := 2) sc_straight.nd rfl (by first | exact Or.inl rfl | exact Or.inr rfl) pe_int ip_sub) (pss_cons (ps_if (PW.pt (pw_or (pt_cmpR op_lt (pv 1) (pv 3) (nomark _)) (pw_or1 (pt_cmpR op_eq (pv 2) pe_int (nomark _))))) (pss_one (ps_ret (pe_ifExp (pt_cmpR op_eq (pv 2) pe_int (nomark _)) (pv 1) pe_int))) pss_nil) (pss_cons (ps_if (pt_cmpR op_ge (pv 4) pe_int (nomark _)) (pss_one (ps_ret (pe_callB (call_min2 rfl) (by rfl) T.b_min (by decide +kernel) (pa_cons (pv 6) (pa_cons (pe_op op_add (pv 1) (pe_op op_mul (pv 2) (pv 4))) pa_nil))))) pss_nil) (pss_cons (ps_if (pt_cmpR op_gt (pv 2) (pe_op op_add (pe_op op_fdivW (pe_op op_sub (pv 1) (pv 3)) (pe_un un_neg (pv 4))) pe_int) (nomark _)) (pss_one (ps_ret pe_int)) pss_nil) (pss_one (ps_ret (pe_op op_add (pv 1) (pe_op op_mul (pv 2) (pv 4))))))))))), ?_⟩
  obtain ⟨v, e, s, m, rfl, hv, wd, e1, q⟩ := h
  obtain ⟨t, rfl, ht⟩ := id hv
  obtain ⟨l1, _, ad⟩ := wd e rfl
  have ad := ad e1
  refine ⟨fun σ H' => H' = H ∧ σ = [some (.ref t), some (.int s), some (.int ((m : Nat) + 1)), some (.int e.least), some (.int e.add), some (.int e.by_), some (.int e.top)], ?_, ?_⟩
  · exact ⟨_, rfl, t, _, rfl, SqT.of ht, rfl, _, _, rfl, _, _, rfl, _, _, rfl, _, _, rfl, rfl, rfl, rfl⟩
  rintro σ H' ⟨rfl, rfl⟩
  refine ⟨fun σ H2 => H2 = H' ∧ σ = [some (.ref t), some (.int (thr (some e) s)), some (.int ((m : Nat) + 1)), some (.int e.least), some (.int e.add), some (.int e.by_), some (.int e.top)], ?_, ?_⟩
  · exact ⟨_, rfl, _, rfl, .ref t, some e, s, rfl, hv, wd, rfl, rfl⟩
  rintro σ H2 ⟨rfl, rfl⟩
  refine ⟨fun σ H3 => H3 = H2 ∧ σ = [some (.ref t), some (.int (thr (some e) s)), some (.int (m : Nat)), some (.int e.least), some (.int e.add), some (.int e.by_), some (.int e.top)], ?_, ?_⟩
  · refine ⟨_, rfl, _, _, rfl, rfl, rfl, ?_⟩
    show [some (V.ref t), some (.int (thr (some e) s)), some (.int (((m : Nat) : Int) + 1 - 1)), some (.int e.least), some (.int e.add), some (.int e.by_), some (.int e.top)] = _
    rw [show ((m : Nat) : Int) + 1 - 1 = (m : Nat) by omega]
  rintro σ H3 ⟨rfl, rfl⟩
  unfold lineP at q
  generalize thr (some e) s = S at q ⊢
  have cm : CMul ((m : Nat) : Int) e.add := .inr ⟨by omega, by omega⟩
  by_cases m0 : m = 0
  · subst m0
    rw [if_pos (.inr rfl), if_pos rfl] at q
    refine ⟨_, rfl, _, rfl, _, _, rfl, rfl, _, rfl, ite2 (fun _ => ?_) fun _ => ?_⟩
    · exact iteT ⟨_, rfl, rfl, _, rfl, iteT ⟨_, rfl, q⟩⟩
    · exact ⟨_, rfl, rfl, _, rfl, iteT ⟨_, rfl, rfl, _, rfl, iteT ⟨_, rfl, q⟩⟩⟩
  have mz : decide (V.int ((m : Nat) : Int) = V.int 0) = false := decide_eq_false (fun z => by injection z with z; omega)
  by_cases c1 : S < e.least
  · rw [if_pos (.inl c1), if_neg m0] at q
    refine ⟨_, rfl, _, rfl, _, _, rfl, rfl, _, rfl, ?_⟩
    rw [decide_eq_true c1]
    exact iteT (iteT ⟨_, rfl, rfl, _, rfl, iteF_of mz q⟩)
  rw [if_neg (by omega)] at q
  refine ⟨_, rfl, _, rfl, _, _, rfl, rfl, _, rfl, ?_⟩
  rw [decide_eq_false c1]
  refine iteF ⟨_, rfl, rfl, _, rfl, iteF_of mz ?_⟩
  refine ⟨_, rfl, _, _, rfl, rfl, _, rfl, ite2 (fun c => ?_) fun c => ?_⟩
  · have c : e.add ≥ 0 := of_decide_eq_true c
    rw [if_pos c] at q
    exact ⟨_, rfl, _, rfl, _, rfl, _, rfl, _, _, rfl, rfl, cm, _, _, rfl, rfl, _, _, rfl, q⟩
  have c : ¬ e.add ≥ 0 := fun z => c (decide_eq_true z)
  rw [if_neg c] at q
  have cd : CDivW (S - e.least) (-e.add) := wide_div (b := 61) (by omega) (by omega) (by decide) (by decide)
  refine ⟨_, rfl, _, rfl, _, rfl, _, _, rfl, rfl, _, rfl, _, rfl, _, _, rfl, rfl, cd, _, _, rfl, rfl, _, _, rfl, rfl, _, rfl, ite2 (fun d => ?_) fun d => ?_⟩
  · have d : (m : Int) > (S - e.least) / -e.add + 1 := of_decide_eq_true d
    rw [if_pos d] at q
    exact q
  · have d : ¬ (m : Int) > (S - e.least) / -e.add + 1 := fun z => d (decide_eq_true z)
    rw [if_neg d] at q
    exact ⟨_, rfl, _, rfl, _, rfl, _, _, rfl, rfl, cm, _, _, rfl, rfl, q⟩
def spRepeated : Sp := fun vs H Q _ => ∃ v o s, ∃ k : Nat, vs = [v, .int s, .int (k : Nat)] ∧ EffV H v o ∧ wide o ∧ Q (.int (thrN o k s)) H
theorem cal_repeated (T : Txt K mg) : C8.Cal P w K mg base 3 "repeated" spRepeated [] := by
  refine calD T.f_repeated T.g_repeated sc_repeated (fun fd F => F.bindsN fun _ _ _ _ _ _ us hl => match us, hl with | [_, _, _], _ => rfl) (fun vs H Q E h => by obtain ⟨_, _, _, _, rfl, _⟩ := h; rfl) fun cdv A outer s H vs Q E hr h => ?_
  refine ⟨_, (pss_cons (ps_if (PW.pt (pw_or (pt_cmpR op_eq (pv 2) pe_int (nomark _)) (pw_or1 (pt_cmpR op_eq (pv 1) pe_int (nomark _))))) (pss_one (ps_ret (pv 1))) pss_nil) (pss_cons (ps_if (pt_cmpR op_isN (pv 0) pe_non (nomark _)) (pss_one (ps_ret pe_int)) pss_nil) (pss_cons (ps_if (pt_cmpR op_eq (pe_ix ix_tup (pv 0) pe_int (fun _ _ => rfl)) pe_int (nomark _)) (pss_one (ps_ret (C8.pe_c (cal_straight T) hr (by decide) rfl (pa_cons (pv 0) (pa_cons (pv 1) (pa_cons (pv 2) pa_nil)))))) pss_nil) (pss_cons (ps_while PassesOwn.never (pt_cmpR op_gt (pv 2) pe_int (nomark _)) (pss_cons (ps_set (i := 3) sc_repeated.nd rfl (by first | exact Or.inl rfl | exact Or.inr rfl) (C8.pe_c (cal_through T) hr (by decide) rfl (pa_cons (pv 0) (pa_cons (pv 1) pa_nil)))) (pss_cons (ps_if (pt_cmpR op_eq (pv 3) (pv 1) (nomark _)) (pss_one (ps_ret (pv 1))) pss_nil) (pss_cons (ps_set (i := 1) sc_repeated.nd rfl (by first | exact Or.inl rfl | exact Or.inr rfl) (pv 3)) (pss_one (ps_aug (i := 2) sc_repeated.nd rfl (by first | exact Or.inl rfl | exact Or.inr rfl) pe_int ip_sub)))))) (pss_one (ps_ret (pv 1))))))), ?_⟩
  obtain ⟨v, o, s, k, rfl, hv, wd, q⟩ := h
  by_cases k0 : k = 0
  · subst k0
    exact ⟨_, rfl, rfl, _, rfl, iteT (iteT ⟨_, rfl, q⟩)⟩
  have kz : decide (V.int ((k : Nat) : Int) = V.int 0) = false := decide_eq_false (fun z => by injection z with z; omega)
  by_cases s0 : s = 0
  · subst s0
    have e0 : thrN o k 0 = 0 := by
      cases o with
      | none => exact thrN_none (by omega)
      | some e => exact thrN_zero (wd e rfl).1 k
    rw [e0] at q
    exact ⟨_, rfl, rfl, _, rfl, iteF_of kz ⟨_, rfl, rfl, _, rfl, iteT ⟨_, rfl, q⟩⟩⟩
  have sz : decide (V.int s = V.int 0) = false := decide_eq_false (fun z => by injection z with z; omega)
  refine ⟨_, rfl, rfl, _, rfl, iteF_of kz ⟨_, rfl, rfl, _, rfl, iteF_of sz ?_⟩⟩
  cases o with
  | none =>
    obtain rfl : v = .non := hv
    rw [thrN_none (by omega)] at q
    exact ⟨_, rfl, rfl, _, rfl, iteT q⟩
  | some e =>
    obtain ⟨t, rfl, ht⟩ := id hv
    refine ⟨_, rfl, rfl, _, rfl, iteF ⟨_, rfl, t, _, _, _, rfl, rfl, SqT.of ht, rfl, rfl, _, rfl, ite2 (fun c => ?_) fun c => ?_⟩⟩
    · have c : e.by_ = 1 := by have := of_decide_eq_true c; injection this
      obtain ⟨m, rfl⟩ := Nat.exists_eq_succ_of_ne_zero k0
      rw [← lineP_eq c (wd e rfl).1] at q
      refine ⟨_, rfl, _, rfl, _, rfl, .ref t, e, s, m, ?_, hv, wd, c, q⟩
      rw [show ((Nat.succ m : Nat) : Int) = (m : Nat) + 1 by omega]; rfl
    · refine ⟨fun n σ H' => H' = H ∧ ∃ s' o3, thrN (some e) n s' = thrN (some e) k s ∧ σ = [some (.ref t), some (.int s'), some (.int (n : Nat)), o3], ⟨k, rfl, s, _, rfl, rfl⟩, ?_⟩
      rintro n σ H' ⟨rfl, s', o3, et, rfl⟩
      refine ⟨_, rfl, _, _, rfl, rfl, _, rfl, ite2 (fun d => ?_) fun d => ?_⟩
      · have d : (0 : Int) < (n : Nat) := of_decide_eq_true d
        obtain ⟨j, rfl⟩ : ∃ j, n = j + 1 := ⟨n - 1, by omega⟩
        have et : thrN (some e) j (thr (some e) s') = thrN (some e) k s := et
        refine ⟨fun σ H'' => H'' = H' ∧ ∃ o3, σ = [some (.ref t), some (.int (thr (some e) s')), some (.int (j : Nat)), o3], fun σ' H'' ⟨e1, o3, e2⟩ => ⟨j, Nat.lt_succ_self j, e1, _, o3, et, e2⟩, ?_⟩
        refine ⟨_, rfl, _, rfl, .ref t, some e, s', rfl, hv, wd, ?_⟩
        refine ⟨_, rfl, _, rfl, rfl, _, rfl, ite2 (fun f => ?_) fun f => ?_⟩
        · have f : thr (some e) s' = s' := by have := of_decide_eq_true f; injection this
          rw [f, thrN_fix f] at et
          rw [← et] at q
          exact ⟨_, rfl, q⟩
        · refine ⟨_, rfl, _, rfl, _, _, rfl, rfl, rfl, some (.int (thr (some e) s')), ?_⟩
          show [some (V.ref t), some (.int (thr (some e) s')), some (.int (((j + 1 : Nat) : Int) - 1)), _] = _
          rw [show ((j + 1 : Nat) : Int) - 1 = (j : Nat) by omega]
      · have d : ¬ (0 : Int) < (n : Nat) := fun z => d (decide_eq_true z)
        obtain rfl : n = 0 := by omega
        have et : s' = thrN (some e) k s := et
        rw [← et] at q
        exact ⟨_, rfl, q⟩
end
end WH

set_option maxHeartbeats 4000000
/-! setdefault of a dict with flat tuples as keys; texts times numbers; repr of a number -/
namespace EJ
open PySem PySem.Spec PyProof.Rows L2
section
variable {X : Cx} {A : Around} {pins : List (Addr × Obj)} {σ : L2.St} {H : Hp} {s : Shared} {a b : Addr} {kvs : List (List L2.Key × V)} {k : List L2.Key} {z : V} {r : Value} {Q : Value → Shared → Prop} {E : Value → Shared → Prop}
theorem d_set (hu : A.units + 1 < cLine) (I : Inv X pins σ H s) (e : H a = some (.dT kvs)) (eb : H b = some (.tup (k.map kV))) (hz : kvs.length < sizeLine) (rd : RelV z r)
    (q1 : ∀ v u s', valV kvs k = some v → RelV v u → Inv X pins σ H s' → Q u s') (q2 : valV kvs k = none → ∀ s', Inv X pins σ (upd H a (.dT (putK kvs k z))) s' → Q r s') :
    wpAny (model X.prog X.w) A (call (.builtin "dict.setdefault") [.ref a, .ref b, r]) Q E s := by
  obtain ⟨z0, hd, xs, rel, dd⟩ := dt_of I.hok e
  have lz : xs.length ≤ sizeLine := by rw [← Paired.length rel]; exact z0
  have lp : (putK kvs k z).length ≤ sizeLine := by have := length_putK kvs k z; omega
  have rv := rel.val k
  refine call_setdefault_heap (hsz := lz) (tupleKind_room_in1 hu) (key_of I.hok eb) hd dd (fun p hp => ?_) fun hn h' dd' hs => ?_
  · rw [hp] at rv
    cases hv : valV kvs k with
    | none => rw [hv] at rv; exact rv.elim
    | some v => rw [hv] at rv; exact q1 v _ _ hv rv (I.tok _)
  · rw [hn] at rv
    cases hv : valV kvs k with
    | some v => rw [hv] at rv; exact rv.elim
    | none =>
      refine q2 hv _ ?_
      obtain ⟨q, es, ep, g1, g2, g3, g4, _, g5⟩ := dd'
      refine d_write I (by rw [e]; exact True.intro) hs ⟨q, g1⟩ ⟨lp, hd, _, (rel.put k eb rd).keeps fun c ys ec => (upd_ne (ne_of ec e (fun z => nomatch z))).trans ec, q, es, ep, g1, g2, g3, g4, g5⟩
def tDSet (td ty tx : TE) : TE := fun σ H Q => td σ H fun x H1 => ∃ a, x = .ref a ∧ IsD H1 a ∧ ty σ H1 fun y H2 => tx σ H2 fun z H3 => ∃ (kvs : List (List L2.Key × V)) (k : List L2.Key) (b : Addr), H3 a = some (.dT kvs) ∧ y = .ref b ∧ H3 b = some (.tup (k.map kV)) ∧ kvs.length < sizeLine ∧
  (∀ v, valV kvs k = some v → Q v H3) ∧ (valV kvs k = none → Q z (upd H3 a (.dT (putK kvs k z))))
theorem pe_dset {o e f : Expr} {apos cpos : Pos} {td ty tx : TE} (hu : X.A.units + 1 < cLine) (ho : PE X o td) (he : PE X e ty) (hf : PE X f tx) (m : M2 X o "setdefault" apos e f cpos) : PE X (.Call (.Attribute o "setdefault" apos) [e, f] [] cpos) (tDSet td ty tx) := by
  refine ⟨fun pins s σ H Q I h => wpAny_Call_method m.base m.few m.line PySem.F.plainAttrs_dict PySem.F.slot_dict_setdefault PySem.F.type_dict_setdefault (thn (ho.run pins s σ H _ I h) fun u s1 ⟨x, H1, I1, rx, a, ex, d, q1⟩ => ?_)⟩
  subst ex
  obtain rfl : u = Value.ref a := rx
  obtain ⟨t1, t2, _⟩ := isD_at I1 d
  refine ⟨t1, t2, ?_⟩
  rw [m.trees]
  refine Calls.callWith_builtin rfl (Calls.evalArgs_plain (Calls.spliced_cons (thn (he.run pins s1 σ H1 _ I1 q1) fun iv s2 ⟨y, H2, I2, ry, q2⟩ => Calls.spliced_cons (thn (hf.run pins s2 σ H2 _ I2 q2) fun fv s3 ⟨z, H3, I3, rz, kvs, k, b, ea, ey, eb, hz, p1, p2⟩ => Calls.spliced_nil ?_))))
  subst ey
  obtain rfl : iv = Value.ref b := ry
  exact d_set hu I3 ea eb hz rz (fun v u s' l rv J => ⟨v, H3, J, rv, p1 v l⟩) fun l s' J => ⟨z, _, J, rz, p2 l⟩
def rMulS : R2 := fun x y H Q => ∃ z n, x = .str z ∧ y = .int n ∧ MulOk z n ∧ Q (.str (Txt.mul z n)) H
theorem op_mulS : OpR X (binaryOp .Mult) rMulS := by
  intro pins s σ H x y v u Q I rx ry h
  obtain ⟨z, n, rfl, rfl, hm, q⟩ := h
  obtain ⟨t, rfl⟩ := rx
  obtain ⟨t', rfl⟩ := ry
  exact SB.mul hm fun t2 k => ⟨.str _, H, I.tok _, ⟨_, rfl⟩, q⟩
theorem call_reprX (gd : X.A.guards = some []) (hu : X.A.units + 64 < cLine) : CallR X (.builtin "repr") (fun xs H Q => (∃ a d, xs = [.ref a] ∧ Dp X.K H (.ref a) d ∧ d.showable = true ∧ d.hasDict = false ∧ d.depth ≤ 60 ∧ d.shown.length ≤ sizeLine ∧ Q (.str d.shown) H) ∨
    ∃ i : Int, xs = [.int i] ∧ i.natAbs.log2 < 1920 ∧ Q (.str (PyData.shown (.int i))) H) := by
  intro pins s σ H xs us Q I r h
  rcases h with h | ⟨i, e, hi, q⟩
  · exact GL.call_reprD gd hu pins s σ H xs us Q I r h
  · refine SkE.call_repr_int pins s σ H xs us Q I r ⟨i, e, hi, ?_⟩
    have e2 : PyData.shown (.int i) = (toString i : String) := by rfl
    rw [← e2]; exact q
end
end EJ

set_option maxHeartbeats 4000000
namespace WH
open PySem PySem.Spec PyProof.Rows L2
theorem count_row (l : List Bool) : Txt.count (rowS l) "." = ((l.count true : Nat) : Int) := by
  have e : ("." : Str) = ⟨#[46]⟩ := by decide +kernel
  rw [e, count_cnt]
  have e2 : (rowS l).cps.toList = l.map code := by simp [rowS, SX.S]
  rw [e2]
  induction l with
  | nil => rfl
  | cons b l ih =>
    rw [List.map_cons, cnt_cons, ih (by simp [rowS, SX.S])]
    cases b <;> simp [code] <;> omega
theorem in_row (l : List Bool) : decide (97 ∈ (rowS l).cps.toList) = decide (false ∈ l) := by
  have e2 : (rowS l).cps.toList = l.map code := by simp [rowS, SX.S]
  rw [e2]
  apply decide_eq_decide.mpr
  constructor
  · intro h
    obtain ⟨b, hb, e⟩ := List.mem_map.mp h
    cases b with
    | false => exact hb
    | true => exact absurd e (by decide)
  · intro h
    exact List.mem_map.mpr ⟨false, h, rfl⟩
def frB (w : WN) (l : List Bool) : Bool := decide (false ∈ l) && w.anew
def perP (w : WN) (l : List Bool) : Nat := if 0 < l.count true ∧ frB w l = false then w.tail.length / Nat.gcd w.tail.length (l.count true) else 1
def setP (w : WN) (l : List Bool) (n : Nat) : Nat := if frB w l = true then 1 else if 0 < l.count true then (if -(((n : Int) - (w.head.length : Nat)) / (l.count true : Nat)) > 0 then -(((n : Int) - (w.head.length : Nat)) / (l.count true : Nat)) else 0).toNat else 0
theorem frB_steady {w : WN} {l : List Bool} (h : frB w l = false) : Steady w l := fun a b hb => by
  cases b with
  | true => rfl
  | false =>
    unfold frB at h
    rw [a, decide_eq_true hb] at h
    cases h
theorem frB_true {w : WN} {l : List Bool} (h : frB w l = true) : w.anew = true ∧ false ∈ l := by
  unfold frB at h
  simp only [Bool.and_eq_true, decide_eq_true_eq] at h
  exact ⟨h.2, h.1⟩
structure GoOk (w : WN) (s : Int) (l : List Bool) (n set per : Nat) : Prop where
  ok : okW w
  s0 : 0 ≤ s
  s1 : s ≤ w.cap
  l1 : 1 ≤ l.length
  l48 : l.length ≤ 48
  c : Comes w l (s, n) set per
  p1 : 1 ≤ per
  p24 : per ≤ 24
  st : set ≤ 24
  sin : ∀ q, (rndN w l (set + q * per) (s, n)).2 = (rndN w l set (s, n)).2 + (if frB w l = true then 0 else q * per * l.count true)
theorem go_ok {w : WN} {s : Int} {l : List Bool} {n : Nat} (ok : okW w) (s0 : 0 ≤ s) (s1 : s ≤ w.cap) (l1 : 1 ≤ l.length) (l48 : l.length ≤ 48) : GoOk w s l n (setP w l n) (perP w l) := by
  obtain ⟨t1, t24⟩ := tails_le ok.tl
  have h24 := ok.hl
  cases hf : frB w l with
  | true =>
    obtain ⟨an, fm⟩ := frB_true hf
    have e1 : setP w l n = 1 := by unfold setP; rw [hf]; rfl
    have e2 : perP w l = 1 := by unfold perP; rw [hf]; simp
    rw [e1, e2]
    refine ⟨ok, s0, s1, l1, l48, comes_fresh an fm, by decide, by decide, by decide, fun q => ?_⟩
    rw [hf, show 1 + q * 1 = q + 1 by omega, fresh_rnd an fm q (s, n) (s, n), fresh_rnd an fm 0 (s, n) (s, n)]
    simp
  | false =>
    have st := frB_steady hf
    have sinq : ∀ (a b q : Nat), (rndN w l (a + q * b) (s, n)).2 = (rndN w l a (s, n)).2 + q * b * l.count true := fun a b q => by
      rw [st.rnd, st.rnd, Nat.add_mul]; omega
    by_cases c : 0 < l.count true
    · have e2 : perP w l = w.tail.length / Nat.gcd w.tail.length (l.count true) := by unfold perP; rw [if_pos ⟨c, hf⟩]
      have e1 : setP w l n = (if -(((n : Int) - (w.head.length : Nat)) / (l.count true : Nat)) > 0 then -(((n : Int) - (w.head.length : Nat)) / (l.count true : Nat)) else 0).toNat := by unfold setP; rw [hf, if_neg (by decide), if_pos c]
      have g1 := Nat.gcd_dvd_left w.tail.length (l.count true)
      have g2 := Nat.gcd_dvd_right w.tail.length (l.count true)
      have g0 : 0 < Nat.gcd w.tail.length (l.count true) := Nat.gcd_pos_of_pos_left _ (by omega)
      have p1 : 1 ≤ perP w l := by rw [e2]; exact Nat.div_pos (Nat.le_of_dvd (by omega) g1) g0
      have p24 : perP w l ≤ 24 := by rw [e2]; exact Nat.le_trans (Nat.div_le_self _ _) t24
      have hx := Int.emod_add_mul_ediv ((n : Int) - (w.head.length : Nat)) (l.count true : Nat)
      have hm := Int.emod_nonneg ((n : Int) - (w.head.length : Nat)) (show ((l.count true : Nat) : Int) ≠ 0 by omega)
      generalize hX : ((n : Int) - (w.head.length : Nat)) / (l.count true : Nat) = x at hx e1
      have hxl : -24 ≤ x := by
        rw [← hX]
        refine Int.le_ediv_of_mul_le (by omega) ?_
        have : (1 : Int) ≤ (l.count true : Nat) := by omega
        omega
      have s24 : setP w l n ≤ 24 := by rw [e1]; split <;> omega
      refine ⟨ok, s0, s1, l1, l48, comes_turns ok st (j := l.count true / Nat.gcd w.tail.length (l.count true)) ?_ ?_, p1, p24, s24, fun q => by rw [hf]; exact sinq _ _ _⟩
      · show w.head.length ≤ n + setP w l n * l.count true
        rw [e1]
        by_cases z : -x > 0
        · rw [if_pos z]
          have e3 : (((-x).toNat * l.count true : Nat) : Int) = -((l.count true : Nat) * x) := by
            rw [Int.natCast_mul, Int.toNat_of_nonneg (by omega), Int.neg_mul, Int.mul_comm]
          have : ((w.head.length : Nat) : Int) ≤ (n : Nat) + (((-x).toNat * l.count true : Nat) : Int) := by
            rw [e3]; omega
          omega
        · rw [if_neg z]
          have : 0 ≤ ((l.count true : Nat) : Int) * x := Int.mul_nonneg (by omega) (by omega)
          omega
      · rw [e2]
        rw [Nat.div_mul_right_comm g1, Nat.mul_div_assoc _ g2]
    · have e2 : perP w l = 1 := by unfold perP; rw [if_neg (fun z => c z.1)]
      have e1 : setP w l n = 0 := by unfold setP; rw [hf, if_neg (by decide), if_neg c]
      rw [e1, e2]
      exact ⟨ok, s0, s1, l1, l48, comes_still st (by omega), by decide, by decide, by decide, fun q => by rw [hf]; exact sinq _ _ _⟩
section
variable {P : Program} {w : World} {K : PySem.W.Frag} {mg : Str → Option Value} {base : Heap}
def spStepsOf (K : PySem.W.Frag) (f : WN → List (Int × Int)) : Sp := fun vs H Q _ => ∃ a w, vs = [.ref a] ∧ WaneAt K H a w ∧ ∀ l us H', Same H H' → H' l = some (.lst us) → us.length = (f w).length → Q (.ref l) H'
theorem met_Wane_head (T : Txt K mg) : C8.Met P w K mg base 1 (He.ga K "Wane") "head" (spStepsOf K WN.head) [] := by
  refine metD T.f_Wane_head T.cl_Wane T.m_Wane_head sc_Wane_head (fun fd F => F.bindsN fun _ _ _ _ _ _ us hl => match us, hl with | [_], _ => rfl) (fun vs H Q E h => by obtain ⟨_, _, rfl, _⟩ := h; rfl) fun cdv A outer s H vs Q E hr h => ?_
  refine ⟨_, (pss_one (ps_ret (pe_callTy NW.call_list_ofN (by rfl) T.b_list (by decide +kernel) (pa_cons (pe_fld (pv 0) rfl) pa_nil)))), ?_⟩
  obtain ⟨a, w, rfl, ⟨dx, h, t, e, ⟨vs, h1, p1⟩, _⟩, q⟩ := h
  exact ⟨_, rfl, a, _, dx, _, _, rfl, e, T.cl_Wane, T.n_Wane_head_steps, wF_head .., h, vs, rfl, .inl (SqL.of h1), fun l H2 nl S2 h2 => q l vs H2 S2 h2 (paired_len p1)⟩
theorem met_Wane_tail (T : Txt K mg) : C8.Met P w K mg base 1 (He.ga K "Wane") "tail" (spStepsOf K WN.tail) [] := by
  refine metD T.f_Wane_tail T.cl_Wane T.m_Wane_tail sc_Wane_tail (fun fd F => F.bindsN fun _ _ _ _ _ _ us hl => match us, hl with | [_], _ => rfl) (fun vs H Q E h => by obtain ⟨_, _, rfl, _⟩ := h; rfl) fun cdv A outer s H vs Q E hr h => ?_
  refine ⟨_, (pss_one (ps_ret (pe_callTy NW.call_list_ofN (by rfl) T.b_list (by decide +kernel) (pa_cons (pe_fld (pv 0) rfl) pa_nil)))), ?_⟩
  obtain ⟨a, w, rfl, ⟨dx, h, t, e, _, ⟨vs, h1, p1⟩, _⟩, q⟩ := h
  exact ⟨_, rfl, a, _, dx, _, _, rfl, e, T.cl_Wane, T.n_Wane_tail_steps, wF_tail .., t, vs, rfl, .inl (SqL.of h1), fun l H2 nl S2 h2 => q l vs H2 S2 h2 (paired_len p1)⟩
end
end WH

set_option maxHeartbeats 4000000
namespace WH
open PySem PySem.Spec PyProof.Rows L2
theorem cps_app (a b : List Bool) : (rowS a).cps ++ (rowS b).cps = (rowS (a ++ b)).cps := by simp [rowS, SX.S]
theorem rep_row (l : List Bool) : ∀ (k : Nat) (m : List Bool), (List.replicate k (rowS l).cps).foldl (· ++ ·) (rowS m).cps = (rowS (m ++ (List.replicate k l).flatten)).cps
  | 0, m => by simp
  | k + 1, m => by
    rw [List.replicate_succ, List.foldl_cons, cps_app, rep_row l k, List.replicate_succ, List.flatten_cons, List.append_assoc]
theorem mul_row (l : List Bool) (k : Nat) (h0 : 1 ≤ l.length) (h1 : 1 ≤ k) (h : l.length * k ≤ 100000) : MulOk (rowS l) (k : Nat) ∧ Txt.mul (rowS l) (k : Nat) = rowS (List.replicate k l).flatten := by
  have ll := rowS_len l
  constructor
  · refine ⟨?_, fun _ h2 => ?_, fun _ _ => ?_⟩
    · have : k ≤ l.length * k := Nat.le_mul_of_pos_left k (by omega)
      rw [decide_eq_false (by omega), decide_eq_false (by omega)]; rfl
    · rw [ll]
      have : ((l.length : Nat) : Int) ≤ (2 ^ 63 - 1) / (k : Int) := Int.le_ediv_of_mul_le (by omega) (by
        have : ((l.length * k : Nat) : Int) ≤ 100000 := by omega
        rw [Int.natCast_mul] at this; omega)
      omega
    · rw [ll, Int.toNat_natCast]
      exact decide_eq_false (by have : (100000 : Nat) < sizeLine := by decide
                                omega)
  · unfold Txt.mul
    rw [if_neg (by omega)]
    by_cases h2 : (((k : Nat) : Int) == 1 || (rowS l).length == 0) = true
    · rw [if_pos h2]
      simp only [Bool.or_eq_true, beq_iff_eq] at h2
      rcases h2 with h2 | h2
      · obtain rfl : k = 1 := by omega
        simp
      · rw [ll] at h2
        obtain rfl := List.eq_nil_of_length_eq_zero h2
        simp
    · rw [if_neg h2, Int.toNat_natCast]
      have := rep_row l k []
      rw [List.nil_append] at this
      have e0 : (rowS []).cps = #[] := by simp [rowS, SX.S]
      rw [e0] at this
      rw [this]
abbrev cG (K : PySem.W.Frag) : Addr := He.ga K "Going"
def gF (aw : Addr) (s : Int) (l : List Bool) (n : Nat) (tn : Int) (fr : Bool) (per set : Int) (fl : Addr) (ev : V) : List (Str × V) := [("wane", .ref aw), ("strength", .int s), ("row", .str (rowS l)), ("since", .int (n : Nat)), ("turns", .int tn), ("fresh", .bl fr), ("period", .int per), ("settle", .int set), ("firsts", .ref fl), ("effect", ev)]
def rnds (w : WN) (l : List Bool) (s : Int) (n k : Nat) : List (Int × Nat) := (List.range k).map fun j => rndN w l j (s, n)
theorem rnds_succ (w : WN) (l : List Bool) (s : Int) (n k : Nat) : rnds w l s n (k + 1) = rnds w l s n k ++ [rndN w l k (s, n)] := by
  unfold rnds; rw [List.range_succ, List.map_append]; rfl
theorem rnds_len (w : WN) (l : List Bool) (s : Int) (n k : Nat) : (rnds w l s n k).length = k := by simp [rnds]
/-- a thing going through rounds -/
def GoingAt (K : PySem.W.Frag) (H : Hp) (g : Addr) (w : WN) (s : Int) (l : List Bool) (n set per : Nat) : Prop := ∃ dx aw fl ev vs, H g = some (.ins (cG K) dx (gF aw s l n (l.count true : Nat) (frB w l) (per : Nat) (set : Nat) fl ev)) ∧ WaneAt K H aw w ∧ H fl = some (.lst vs) ∧ Paired (PairV H) vs (rnds w l s n (set + 1)) ∧
  EffV H ev (effE w (List.replicate per l).flatten (rndN w l set (s, n)).2) ∧ GoOk w s l n set per
theorem GoingAt.mono {K : PySem.W.Frag} {H H' : Hp} (S : Same H H') {g : Addr} {w : WN} {s : Int} {l : List Bool} {n set per : Nat} : GoingAt K H g w s l n set per → GoingAt K H' g w s l n set per := fun ⟨dx, aw, fl, ev, vs, e, hw, hf, p, he, ok⟩ =>
  ⟨dx, aw, fl, ev, vs, S _ _ e, hw.mono S, S _ _ hf, Paired.mapP p fun _ _ => PairV.tup (Tup.of S), he.mono S, ok⟩
theorem gF8_fresh (aw : Addr) (s : Int) (l : List Bool) (n : Nat) (tn : Int) (fr : Bool) (per set : Int) : ((gF aw s l n tn fr per set 0 .non).take 8).lookup ("fresh" : Str) = some (.bl fr) := by kernel_rfl
theorem gF8_turns (aw : Addr) (s : Int) (l : List Bool) (n : Nat) (tn : Int) (fr : Bool) (per set : Int) : ((gF aw s l n tn fr per set 0 .non).take 8).lookup ("turns" : Str) = some (.int tn) := by kernel_rfl
theorem gF7_fresh (aw : Addr) (s : Int) (l : List Bool) (n : Nat) (tn : Int) (fr : Bool) (per set : Int) : ((gF aw s l n tn fr per set 0 .non).take 7).lookup ("fresh" : Str) = some (.bl fr) := by kernel_rfl
theorem gF7_turns (aw : Addr) (s : Int) (l : List Bool) (n : Nat) (tn : Int) (fr : Bool) (per set : Int) : ((gF aw s l n tn fr per set 0 .non).take 7).lookup ("turns" : Str) = some (.int tn) := by kernel_rfl
theorem gF9_settle (aw : Addr) (s : Int) (l : List Bool) (n : Nat) (tn : Int) (fr : Bool) (per set : Int) (fl : Addr) : ((gF aw s l n tn fr per set fl .non).take 9).lookup ("settle" : Str) = some (.int set) := by kernel_rfl
theorem gF9_period (aw : Addr) (s : Int) (l : List Bool) (n : Nat) (tn : Int) (fr : Bool) (per set : Int) (fl : Addr) : ((gF aw s l n tn fr per set fl .non).take 9).lookup ("period" : Str) = some (.int per) := by kernel_rfl
theorem gF9_firsts (aw : Addr) (s : Int) (l : List Bool) (n : Nat) (tn : Int) (fr : Bool) (per set : Int) (fl : Addr) : ((gF aw s l n tn fr per set fl .non).take 9).lookup ("firsts" : Str) = some (.ref fl) := by kernel_rfl
theorem gset {H0 H1 : Hp} {x dx C : Addr} {fs fs' : List (Str × V)} {f : Str} {v : V} (S : Same H0 H1) (nx : H0 x = none) (e : putF f v fs = fs') : Same H0 (upd H1 x (.ins C dx (putF f v fs))) ∧ upd H1 x (.ins C dx (putF f v fs)) x = some (.ins C dx fs') := ⟨Same.mut S nx, by rw [upd_same, e]⟩
theorem strL_last (w : WN) (s : Int) (n : Nat) (l : List Bool) : atI ((strL w s n l (l.length + 1)).map V.int) (-1) = some (.int (stA w (s, n) l).1) := by
  have e : strL w s n l (l.length + 1) = strL w s n l l.length ++ [(stA w (s, n) l).1] := by
    unfold strL
    rw [List.range_succ, List.map_append]; simp
  have z : (strL w s n l l.length).length = l.length := by simp [strL]
  rw [e, List.map_append]
  unfold atI
  have hi : ixN ((strL w s n l l.length).map V.int ++ [V.int (stA w (s, n) l).1]).length (-1) = some (strL w s n l l.length).length := by
    rw [List.length_append, List.length_map]
    unfold ixN
    rw [if_neg (by decide)]
    simp
    omega
  show (ixN ((strL w s n l l.length).map V.int ++ [V.int (stA w (s, n) l).1]).length (-1)).bind _ = _
  rw [hi]
  simp
section
variable {P : Program} {w : World} {K : PySem.W.Frag} {mg : Str → Option Value} {base : Heap}
def spGInit (K : PySem.W.Frag) : Sp := fun vs H Q _ => ∃ H0 x dx aw w s l n, vs = [.ref x, .ref aw, .int s, .str (rowS l), .int (n : Nat)] ∧ H = upd (upd H0 dx (.own x)) x (.ins (cG K) dx []) ∧ H0 x = none ∧ H0 dx = none ∧ dx ≠ x ∧ WaneAt K H0 aw w ∧ 0 ≤ s ∧ s ≤ w.cap ∧ 1 ≤ l.length ∧ l.length ≤ 48 ∧
  ∀ H', Same H0 H' → GoingAt K H' x w s l n (setP w l n) (perP w l) → Q .non H'
theorem fn_Going_init (T : Txt K mg) {fd : FuncData} (F : FD K d_Going___init__ fd) : FnOk P w K mg base C8.CX0 3 (He.fAd K d_Going___init__.at_) fd ["self", "wane", "strength", "row", "since"] (spGInit K) := by
  refine F.ok sc_Going___init__ (fun vs H Q E h => by obtain ⟨_, _, _, _, _, _, _, _, rfl, _⟩ := h; rfl) fun cdv A outer s H vs Q E hr h => ?_
  obtain ⟨H0, x, dx, aw, w, s, l, n, rfl, eH, nx, nd, ne, hw0, s0, s1, l1, l48, q⟩ := h
  have S0 : Same H0 H := by rw [eH]; exact Same.mut (same_new nd) nx
  have hx0 : H x = some (.ins (cG K) dx []) := by rw [eH]; exact upd_same
  have go := go_ok (n := n) hw0.ok s0 s1 l1 l48
  obtain ⟨dw, hh, ht, ea0, _, _, okw⟩ := id hw0
  clear eH
  refine ⟨_, PSs.nox ((C8.pss_cut (ps_fld (pv 0) (pv 1) rfl) (C8.pss_cut (ps_fld (pv 0) (pv 2) rfl) (C8.pss_cut (ps_fld (pv 0) (pv 3) rfl) (C8.pss_cut (ps_fld (pv 0) (pv 4) rfl) (C8.pss_cut (ps_fld (pv 0) (pe_m1 PySem.F.slot_str_count PySem.F.type_str_count mt_count (pv 3) pe_str) rfl) (C8.pss_cut (ps_fld (pv 0) (pe_and (pe_cmpR op_in_sign pe_str (pv 3) rfl) (pe_one (C8.pe_mt0 (met_Wane_is_anew T) hr (by decide) (pv 1)))) rfl) (C8.pss_cut (ps_fld (pv 0) pe_int rfl) (C8.pss_cut (ps_if (PW.pt (pw_and (pt_cmpR op_gt (pe_fld (pv 0) rfl) pe_int (nomark _)) (pw_and1 (pt_not (pt_val (pe_fld (pv 0) rfl)))))) (pss_cons (ps_set (i := 5) sc_Going___init__.nd rfl (by first | exact Or.inl rfl | exact Or.inr rfl) (pe_callB call_len (by rfl) T.b_len (by decide +kernel) (pa_cons (C8.pe_mt0 (met_Wane_tail T) hr (by decide) (pv 1)) pa_nil))) (pss_one (ps_fld (pv 0) (pe_op op_fdiv (pv 5) (C8.pe_c (cal_common T) hr (by decide) rfl (pa_cons (pv 5) (pa_cons (pe_fld (pv 0) rfl) pa_nil)))) rfl))) pss_nil) (C8.pss_cut (ps_fld (pv 0) pe_int rfl) (C8.pss_cut (ps_if (pt_val (pe_fld (pv 0) rfl)) (pss_one (ps_fld (pv 0) pe_int rfl)) (pss_one (ps_if (pt_cmpR op_gt (pe_fld (pv 0) rfl) pe_int (nomark _)) (pss_one (ps_fld (pv 0) (pe_callB (call_max2 rfl) (by rfl) T.b_max (by decide +kernel) (pa_cons pe_int (pa_cons (pe_un un_neg (pe_op op_fdiv (pe_op op_sub (pv 4) (pe_callB call_len (by rfl) T.b_len (by decide +kernel) (pa_cons (C8.pe_mt0 (met_Wane_head T) hr (by decide) (pv 1)) pa_nil))) (pe_fld (pv 0) rfl))) pa_nil))) rfl)) pss_nil))) (C8.pss_cut (ps_fld (pv 0) (NW.pe_lstN (pa_cons (NW.pe_tupN (pa_cons (pv 2) (pa_cons (pv 4) pa_nil))) pa_nil)) rfl) (C8.pss_cut (ps_for PassesOwn.never rfl (pi_range1 (by rfl) T.b_range (pa_cons (pe_fld (pv 0) rfl) pa_nil)) (pg_name (i := 6) sc_Going___init__.nd rfl (by first | exact Or.inl rfl | exact Or.inr rfl)) (pss_cons (ps_asg (C8.pe_c (cal_row_walked T) hr (by decide) rfl (pa_cons (pv 1) (pa_cons (pv 2) (pa_cons (pv 3) (pa_cons (pv 4) pa_nil))))) (pg_tup rfl (pgs_cons (pg_name (i := 7) sc_Going___init__.nd rfl (by first | exact Or.inl rfl | exact Or.inr rfl)) (pgs_cons (pg_name (i := 4) sc_Going___init__.nd rfl (by first | exact Or.inl rfl | exact Or.inr rfl)) pgs_nil)))) (pss_cons (ps_set (i := 2) sc_Going___init__.nd rfl (by first | exact Or.inl rfl | exact Or.inr rfl) (pe_ix ix_list (pv 7) (pe_un un_neg pe_int) (fun _ _ => rfl))) (pss_one (ps_expr (pe_bm PySem.F.plainAttrs_list PySem.F.slot_list_append PySem.F.type_list_append mt_append (pe_fld (pv 0) rfl) (pa_cons (NW.pe_tupN (pa_cons (pv 2) (pa_cons (pv 4) pa_nil))) pa_nil))))))) (pss_one (ps_fld (pv 0) (C8.pe_c (cal_row_effect T) hr (by decide) rfl (pa_cons (pv 1) (pa_cons (pe_op EJ.op_mulS (pv 3) (pe_fld (pv 0) rfl)) (pa_cons (pv 4) pa_nil)))) rfl))))))))))))))), ?_⟩
  refine ⟨fun σ H' => Same H0 H' ∧ H' x = some (.ins (cG K) dx ((gF aw s l n 0 false 1 0 0 .non).take 1)) ∧ σ = [some (.ref x), some (.ref aw), some (.int s), some (.str (rowS l)), some (.int (n : Nat)), none, none, none], ?_, ?_⟩
  · refine ⟨_, rfl, _, rfl, x, cG K, dx, [], rfl, hx0, T.cl_Going, T.n_Going_wane, by decide, ?_⟩
    have z := gset (dx := dx) (C := cG K) (f := "wane") (v := .ref aw) S0 nx (fs := []) (fs' := (gF aw s l n 0 false 1 0 0 .non).take 1) (by kernel_rfl)
    exact ⟨z.1, z.2, rfl⟩
  rintro σ H1 ⟨S1, hx1, rfl⟩
  refine ⟨fun σ H' => Same H0 H' ∧ H' x = some (.ins (cG K) dx ((gF aw s l n 0 false 1 0 0 .non).take 2)) ∧ σ = [some (.ref x), some (.ref aw), some (.int s), some (.str (rowS l)), some (.int (n : Nat)), none, none, none], ?_, ?_⟩
  · refine ⟨_, rfl, _, rfl, x, cG K, dx, _, rfl, hx1, T.cl_Going, T.n_Going_strength, by show 1 < 1000; decide, ?_⟩
    have z := gset (dx := dx) (C := cG K) (f := "strength") (v := .int s) S1 nx (fs := (gF aw s l n 0 false 1 0 0 .non).take 1) (fs' := (gF aw s l n 0 false 1 0 0 .non).take 2) (by kernel_rfl)
    exact ⟨z.1, z.2, rfl⟩
  clear S1 hx1 H1
  rintro σ H1 ⟨S1, hx1, rfl⟩
  refine ⟨fun σ H' => Same H0 H' ∧ H' x = some (.ins (cG K) dx ((gF aw s l n 0 false 1 0 0 .non).take 3)) ∧ σ = [some (.ref x), some (.ref aw), some (.int s), some (.str (rowS l)), some (.int (n : Nat)), none, none, none], ?_, ?_⟩
  · refine ⟨_, rfl, _, rfl, x, cG K, dx, _, rfl, hx1, T.cl_Going, T.n_Going_row, by show 2 < 1000; decide, ?_⟩
    have z := gset (dx := dx) (C := cG K) (f := "row") (v := .str (rowS l)) S1 nx (fs := (gF aw s l n 0 false 1 0 0 .non).take 2) (fs' := (gF aw s l n 0 false 1 0 0 .non).take 3) (by kernel_rfl)
    exact ⟨z.1, z.2, rfl⟩
  clear S1 hx1 H1
  rintro σ H1 ⟨S1, hx1, rfl⟩
  refine ⟨fun σ H' => Same H0 H' ∧ H' x = some (.ins (cG K) dx ((gF aw s l n 0 false 1 0 0 .non).take 4)) ∧ σ = [some (.ref x), some (.ref aw), some (.int s), some (.str (rowS l)), some (.int (n : Nat)), none, none, none], ?_, ?_⟩
  · refine ⟨_, rfl, _, rfl, x, cG K, dx, _, rfl, hx1, T.cl_Going, T.n_Going_since, by show 3 < 1000; decide, ?_⟩
    have z := gset (dx := dx) (C := cG K) (f := "since") (v := .int (n : Nat)) S1 nx (fs := (gF aw s l n 0 false 1 0 0 .non).take 3) (fs' := (gF aw s l n 0 false 1 0 0 .non).take 4) (by kernel_rfl)
    exact ⟨z.1, z.2, rfl⟩
  clear S1 hx1 H1
  rintro σ H1 ⟨S1, hx1, rfl⟩
  refine ⟨fun σ H' => Same H0 H' ∧ H' x = some (.ins (cG K) dx ((gF aw s l n (l.count true : Nat) false 1 0 0 .non).take 5)) ∧ σ = [some (.ref x), some (.ref aw), some (.int s), some (.str (rowS l)), some (.int (n : Nat)), none, none, none], ?_, ?_⟩
  · refine ⟨_, rfl, ⟨_, rfl⟩, _, _, rfl, rfl, ?_⟩
    rw [count_row]
    refine ⟨_, rfl, x, cG K, dx, _, rfl, hx1, T.cl_Going, T.n_Going_turns, by show 4 < 1000; decide, ?_⟩
    have z := gset (dx := dx) (C := cG K) (f := "turns") (v := .int (l.count true : Nat)) S1 nx (fs := (gF aw s l n 0 false 1 0 0 .non).take 4) (fs' := (gF aw s l n (l.count true : Nat) false 1 0 0 .non).take 5) (by kernel_rfl)
    exact ⟨z.1, z.2, rfl⟩
  clear S1 hx1 H1
  rintro σ H1 ⟨S1, hx1, rfl⟩
  have hw1 := hw0.mono S1
  have ea1 := S1 _ _ ea0
  refine ⟨fun σ H' => Same H0 H' ∧ H' x = some (.ins (cG K) dx ((gF aw s l n (l.count true : Nat) (frB w l) 1 0 0 .non).take 6)) ∧ σ = [some (.ref x), some (.ref aw), some (.int s), some (.str (rowS l)), some (.int (n : Nat)), none, none, none], ?_, ?_⟩
  · have fin : ∀ (R : L2.St → Hp → Prop), (∀ σ' H', (Same H0 H' ∧ H' x = some (.ins (cG K) dx ((gF aw s l n (l.count true : Nat) (frB w l) 1 0 0 .non).take 6)) ∧ σ' = [some (.ref x), some (.ref aw), some (.int s), some (.str (rowS l)), some (.int (n : Nat)), none, none, none]) → R σ' H') → R [some (.ref x), some (.ref aw), some (.int s), some (.str (rowS l)), some (.int (n : Nat)), none, none, none] (upd H1 x (.ins (cG K) dx (putF "fresh" (.bl (frB w l)) ((gF aw s l n (l.count true : Nat) false 1 0 0 .non).take 5)))) := fun R h => by
      have z := gset (dx := dx) (C := cG K) (f := "fresh") (v := .bl (frB w l)) S1 nx (fs := (gF aw s l n (l.count true : Nat) false 1 0 0 .non).take 5) (fs' := (gF aw s l n (l.count true : Nat) (frB w l) 1 0 0 .non).take 6) (by kernel_rfl)
      exact h _ _ ⟨z.1, z.2, rfl⟩
    refine ⟨_, rfl, 97, _, by decide +kernel, rfl, _, rfl, ?_⟩
    rw [in_row]
    by_cases fm : false ∈ l
    · have ef : frB w l = w.anew := by unfold frB; rw [decide_eq_true fm]; rfl
      rw [decide_eq_true fm]
      refine iteT ⟨_, rfl, aw, dw, _, rfl, ea1, by kernel_rfl, aw, w, rfl, hw1, _, rfl, x, cG K, dx, _, rfl, hx1, T.cl_Going, T.n_Going_fresh, by show 5 < 1000; decide, ?_⟩
      rw [← ef]
      exact fin _ fun _ _ h => h
    · have ef : frB w l = false := by unfold frB; rw [decide_eq_false fm]; rfl
      rw [decide_eq_false fm]
      refine iteF ⟨_, rfl, x, cG K, dx, _, rfl, hx1, T.cl_Going, T.n_Going_fresh, by show 5 < 1000; decide, ?_⟩
      rw [← ef]
      exact fin _ fun _ _ h => h
  clear S1 hx1 hw1 ea1 H1
  rintro σ H1 ⟨S1, hx1, rfl⟩
  refine ⟨fun σ H' => Same H0 H' ∧ H' x = some (.ins (cG K) dx ((gF aw s l n (l.count true : Nat) (frB w l) 1 0 0 .non).take 7)) ∧ σ = [some (.ref x), some (.ref aw), some (.int s), some (.str (rowS l)), some (.int (n : Nat)), none, none, none], ?_, ?_⟩
  · refine ⟨_, rfl, x, cG K, dx, _, rfl, hx1, T.cl_Going, T.n_Going_period, by show 6 < 1000; decide, ?_⟩
    have z := gset (dx := dx) (C := cG K) (f := "period") (v := .int 1) S1 nx (fs := (gF aw s l n (l.count true : Nat) (frB w l) 1 0 0 .non).take 6) (fs' := (gF aw s l n (l.count true : Nat) (frB w l) 1 0 0 .non).take 7) (by kernel_rfl)
    exact ⟨z.1, z.2, rfl⟩
  clear S1 hx1 H1
  rintro σ H1 ⟨S1, hx1, rfl⟩
  refine ⟨fun σ H' => Same H0 H' ∧ H' x = some (.ins (cG K) dx ((gF aw s l n (l.count true : Nat) (frB w l) (perP w l : Nat) 0 0 .non).take 7)) ∧ ∃ o5, σ = [some (.ref x), some (.ref aw), some (.int s), some (.str (rowS l)), some (.int (n : Nat)), o5, none, none], ?_, ?_⟩
  · refine ⟨_, rfl, x, _, dx, _, _, rfl, hx1, T.cl_Going, T.n_Going_turns, gF7_turns .., _, _, rfl, rfl, _, rfl, ?_⟩
    have keep : perP w l = 1 → Same H0 H1 ∧ H1 x = some (.ins (cG K) dx ((gF aw s l n (l.count true : Nat) (frB w l) (perP w l : Nat) 0 0 .non).take 7)) := fun e => ⟨S1, by rw [e]; exact hx1⟩
    by_cases c0 : 0 < l.count true
    · rw [decide_eq_true (show (0 : Int) < (l.count true : Nat) by omega)]
      refine iteT ⟨_, rfl, x, _, dx, _, _, rfl, hx1, T.cl_Going, T.n_Going_fresh, gF7_fresh .., _, rfl, ?_⟩
      cases hf : frB w l with
      | true =>
        rw [hf] at keep
        have e : perP w l = 1 := by unfold perP; rw [hf]; simp
        exact iteF ⟨(keep e).1, (keep e).2, _, rfl⟩
      | false =>
        rw [hf] at hx1
        have e : perP w l = w.tail.length / Nat.gcd w.tail.length (l.count true) := by unfold perP; rw [if_pos ⟨c0, hf⟩]
        have ct : l.count true ≤ l.length := List.count_le_length
        obtain ⟨t1, t24⟩ := tails_le okw.tl
        have g0 : 0 < Nat.gcd w.tail.length (l.count true) := Nat.gcd_pos_of_pos_left _ (by omega)
        have g1 : Nat.gcd w.tail.length (l.count true) ≤ w.tail.length := Nat.le_of_dvd (by omega) (Nat.gcd_dvd_left _ _)
        refine iteT ⟨_, rfl, aw, dw, _, rfl, S1 _ _ ea0, by kernel_rfl, aw, w, rfl, hw0.mono S1, fun lt us H2 S2 h2 lu => ⟨_, _, rfl, .inl ⟨_, SqL.of h2, rfl⟩, ?_⟩⟩
        rw [lu]
        refine ⟨_, rfl, _, rfl, _, rfl, x, _, dx, _, _, rfl, S2 _ _ hx1, T.cl_Going, T.n_Going_turns, gF7_turns .., w.tail.length, l.count true, rfl, by omega, _, _, rfl, rfl, ⟨by omega, by omega⟩, ?_⟩
        refine ⟨_, rfl, x, cG K, dx, _, rfl, S2 _ _ hx1, T.cl_Going, T.n_Going_period, by show 7 < 1000; decide, ?_⟩
        have z := gset (dx := dx) (C := cG K) (f := "period") (v := .int (((w.tail.length : Nat) : Int) / (Nat.gcd w.tail.length (l.count true) : Nat))) (S1.trans S2) nx (fs := (gF aw s l n (l.count true : Nat) false 1 0 0 .non).take 7) (fs' := (gF aw s l n (l.count true : Nat) false (((w.tail.length : Nat) : Int) / (Nat.gcd w.tail.length (l.count true) : Nat)) 0 0 .non).take 7) (by kernel_rfl)
        refine ⟨z.1, ?_, _, rfl⟩
        rw [z.2, e, Int.natCast_ediv]
    · rw [decide_eq_false (show ¬ (0 : Int) < (l.count true : Nat) by omega)]
      have e : perP w l = 1 := by unfold perP; rw [if_neg (fun z => c0 z.1)]
      exact iteF (iteF ⟨(keep e).1, (keep e).2, _, rfl⟩)
  clear S1 hx1 H1
  rintro σ H1 ⟨S1, hx1, o5, rfl⟩
  generalize hper : perP w l = per at go q hx1 ⊢
  refine ⟨fun σ H' => Same H0 H' ∧ H' x = some (.ins (cG K) dx ((gF aw s l n (l.count true : Nat) (frB w l) (per : Nat) 0 0 .non).take 8)) ∧ σ = [some (.ref x), some (.ref aw), some (.int s), some (.str (rowS l)), some (.int (n : Nat)), o5, none, none], ?_, ?_⟩
  · refine ⟨_, rfl, x, cG K, dx, _, rfl, hx1, T.cl_Going, T.n_Going_settle, by show 7 < 1000; decide, ?_⟩
    have z := gset (dx := dx) (C := cG K) (f := "settle") (v := .int 0) S1 nx (fs := (gF aw s l n (l.count true : Nat) (frB w l) (per : Nat) 0 0 .non).take 7) (fs' := (gF aw s l n (l.count true : Nat) (frB w l) (per : Nat) 0 0 .non).take 8) (by kernel_rfl)
    exact ⟨z.1, z.2, rfl⟩
  clear S1 hx1 H1
  rintro σ H1 ⟨S1, hx1, rfl⟩
  have put : ∀ {H2 : Hp} {v : Int} (R : L2.St → Hp → Prop), Same H0 H2 → (∀ σ' H', (Same H0 H' ∧ H' x = some (.ins (cG K) dx ((gF aw s l n (l.count true : Nat) (frB w l) (per : Nat) v 0 .non).take 8)) ∧ σ' = [some (.ref x), some (.ref aw), some (.int s), some (.str (rowS l)), some (.int (n : Nat)), o5, none, none]) → R σ' H') → R [some (.ref x), some (.ref aw), some (.int s), some (.str (rowS l)), some (.int (n : Nat)), o5, none, none] (upd H2 x (.ins (cG K) dx (putF "settle" (.int v) ((gF aw s l n (l.count true : Nat) (frB w l) (per : Nat) 0 0 .non).take 8)))) := fun {H2 v} R S h => by
    have z := gset (dx := dx) (C := cG K) (f := "settle") (v := .int v) S nx (fs := (gF aw s l n (l.count true : Nat) (frB w l) (per : Nat) 0 0 .non).take 8) (fs' := (gF aw s l n (l.count true : Nat) (frB w l) (per : Nat) v 0 .non).take 8) (by kernel_rfl)
    exact h _ _ ⟨z.1, z.2, rfl⟩
  refine ⟨fun σ H' => Same H0 H' ∧ H' x = some (.ins (cG K) dx ((gF aw s l n (l.count true : Nat) (frB w l) (per : Nat) (setP w l n : Nat) 0 .non).take 8)) ∧ σ = [some (.ref x), some (.ref aw), some (.int s), some (.str (rowS l)), some (.int (n : Nat)), o5, none, none], ?_, ?_⟩
  · refine ⟨_, rfl, x, _, dx, _, _, rfl, hx1, T.cl_Going, T.n_Going_fresh, gF8_fresh .., _, rfl, ?_⟩
    cases hf : frB w l with
    | true =>
      have e : setP w l n = 1 := by unfold setP; rw [hf]; rfl
      rw [e]
      rw [hf] at put hx1
      refine iteT ⟨_, rfl, x, cG K, dx, _, rfl, hx1, T.cl_Going, T.n_Going_settle, by show 8 < 1000; decide, ?_⟩
      exact put (v := 1) _ S1 fun _ _ h => h
    | false =>
      rw [hf] at put hx1
      refine iteF ⟨_, rfl, x, _, dx, _, _, rfl, hx1, T.cl_Going, T.n_Going_turns, gF8_turns .., _, _, rfl, rfl, _, rfl, ite2 (fun c => ?_) fun c => ?_⟩
      · have c : (0 : Int) < (l.count true : Nat) := of_decide_eq_true c
        have ct : l.count true ≤ l.length := List.count_le_length
        have e : ((setP w l n : Nat) : Int) = if -(((n : Int) - (w.head.length : Nat)) / (l.count true : Nat)) > 0 then -(((n : Int) - (w.head.length : Nat)) / (l.count true : Nat)) else 0 := by
          unfold setP
          rw [hf, if_neg (by decide), if_pos (by omega), Int.toNat_of_nonneg (by split <;> omega)]
        rw [e]
        refine ⟨_, rfl, _, rfl, aw, dw, _, rfl, S1 _ _ ea0, by kernel_rfl, aw, w, rfl, hw0.mono S1, fun lt us H2 S2 h2 lu => ⟨_, _, rfl, .inl ⟨_, SqL.of h2, rfl⟩, _, _, rfl, rfl, ?_⟩⟩
        rw [lu]
        refine ⟨_, rfl, x, _, dx, _, _, rfl, S2 _ _ hx1, T.cl_Going, T.n_Going_turns, gF8_turns .., _, _, rfl, rfl, ⟨c, by omega⟩, _, rfl, _, _, rfl, ?_⟩
        refine ⟨_, rfl, x, cG K, dx, _, rfl, S2 _ _ hx1, T.cl_Going, T.n_Going_settle, by show 8 < 1000; decide, ?_⟩
        exact put _ (S1.trans S2) fun _ _ h => h
      · have c : ¬ (0 : Int) < (l.count true : Nat) := fun z => c (decide_eq_true z)
        have e : setP w l n = 0 := by unfold setP; rw [hf, if_neg (by decide), if_neg (by omega)]
        rw [e]
        exact ⟨S1, hx1, rfl⟩
  clear put S1 hx1 H1
  rintro σ H1 ⟨S1, hx1, rfl⟩
  generalize hset : setP w l n = set at go q hx1 ⊢
  refine ⟨fun σ H' => ∃ fl vs, Same H0 H' ∧ H0 fl = none ∧ fl ≠ x ∧ H' x = some (.ins (cG K) dx ((gF aw s l n (l.count true : Nat) (frB w l) (per : Nat) (set : Nat) fl .non).take 9)) ∧ H' fl = some (.lst vs) ∧ Paired (PairV H') vs (rnds w l s n 1) ∧ σ = [some (.ref x), some (.ref aw), some (.int s), some (.str (rowS l)), some (.int (n : Nat)), o5, none, none], ?_, ?_⟩
  · refine ⟨_, rfl, _, rfl, by show 2 ≤ sizeLine; decide, fun t H2 nt S2 ht => ⟨by show 1 ≤ sizeLine; decide, fun fl H3 nfl S3 hfl => ?_⟩⟩
    have S13 := S2.trans S3
    have hx3 := S13 _ _ hx1
    have S03 := S1.trans S13
    have fx : fl ≠ x := fun z => by rw [z, S2 _ _ hx1] at nfl; cases nfl
    refine ⟨_, rfl, x, cG K, dx, _, rfl, hx3, T.cl_Going, T.n_Going_firsts, by show 8 < 1000; decide, ?_⟩
    have z := gset (dx := dx) (C := cG K) (f := "firsts") (v := .ref fl) S03 nx (fs := (gF aw s l n (l.count true : Nat) (frB w l) (per : Nat) (set : Nat) 0 .non).take 8) (fs' := (gF aw s l n (l.count true : Nat) (frB w l) (per : Nat) (set : Nat) fl .non).take 9) (by kernel_rfl)
    refine ⟨fl, _, z.1, (S1.trans S2).free nfl, fx, z.2, by rw [upd_ne fx]; exact hfl, .cons ⟨t, rfl, ?_⟩ .nil, rfl⟩
    rw [upd_ne (fun z => by rw [z, S2 _ _ hx1] at ht; cases ht)]
    exact S3 _ _ ht
  clear S1 hx1 H1
  rintro σ H1 ⟨fl, vs, S1, nfl, fx, hx1, hfl, pv, rfl⟩
  have st24 := go.st
  have p24 := go.p24
  refine ⟨fun σ H' => Same H0 H' ∧ H' x = some (.ins (cG K) dx ((gF aw s l n (l.count true : Nat) (frB w l) (per : Nat) (set : Nat) fl .non).take 9)) ∧ ∃ vs, H' fl = some (.lst vs) ∧ Paired (PairV H') vs (rnds w l s n (set + 1)) ∧ ∃ o5 o6 o7, σ = [some (.ref x), some (.ref aw), some (.int (rndN w l set (s, n)).1), some (.str (rowS l)), some (.int ((rndN w l set (s, n)).2 : Nat)), o5, o6, o7], ?_, ?_⟩
  · refine ⟨_, rfl, x, _, dx, _, _, rfl, hx1, T.cl_Going, T.n_Going_settle, gF9_settle .., _, rfl, by omega, by omega, ?_⟩
    refine for_it walk_range (fun i σ H' => Same H0 H' ∧ H' x = some (.ins (cG K) dx ((gF aw s l n (l.count true : Nat) (frB w l) (per : Nat) (set : Nat) fl .non).take 9)) ∧ ∃ vs, H' fl = some (.lst vs) ∧ Paired (PairV H') vs (rnds w l s n (i + 1)) ∧ ∃ o5 o6 o7, σ = [some (.ref x), some (.ref aw), some (.int (rndN w l i (s, n)).1), some (.str (rowS l)), some (.int ((rndN w l i (s, n)).2 : Nat)), o5, o6, o7])
      ⟨S1, hx1, vs, hfl, pv, _, _, _, rfl⟩ (fun _ _ _ _ _ => trivial) ?_ ?_
    · rintro i y σ H2 H3 hi ⟨S2, hx2, vs, hf2, pv2, o5, o6, o7, rfl⟩ ⟨rfl, rfl⟩
      have bd := rndN_ok okw s0 s1 l n i
      have es := rndN_succ w l i (s, n)
      have ee : rndN w l i (s, n) = ((rndN w l i (s, n)).1, (rndN w l i (s, n)).2) := rfl
      refine ⟨_, rfl, _, rfl, _, rfl, _, rfl, aw, w, _, l, _, rfl, hw0.mono S2, bd.1, bd.2, by omega, fun t ls H4 S4 ht hls => ?_⟩
      rw [← ee, ← es] at ht
      have hl := strL_last w (rndN w l i (s, n)).1 (rndN w l i (s, n)).2 l
      rw [← ee, ← es] at hl
      refine ⟨t, _, rfl, SqT.of ht, rfl, _, _, rfl, _, _, rfl, rfl, ?_⟩
      refine ⟨_, rfl, _, rfl, ls, _, _, _, rfl, rfl, SqL.of hls, hl, ?_⟩
      have hf4 := S4 _ _ hf2
      refine ⟨_, rfl, x, _, dx, _, _, rfl, S4 _ _ hx2, T.cl_Going, T.n_Going_firsts, gF9_firsts .., .inl ⟨rfl, _, SqL.of hf4⟩, _, rfl, _, rfl, by show 2 ≤ sizeLine; decide, fun t2 H5 nt2 S5 h5 => ?_⟩
      have hf5 := S5 _ _ hf4
      have T25 : Tup _ (upd H5 fl (.lst (vs ++ [.ref t2]))) := (Tup.of (S4.trans S5)).trans (Tup.upd fun ws e => by rw [hf5] at e; cases e)
      refine ⟨fl, vs, _, rfl, rfl, hf5, ?_, Same.mut ((S2.trans S4).trans S5) nfl, by rw [upd_ne (Ne.symm fx)]; exact S5 _ _ (S4 _ _ hx2), _, upd_same, ?_, _, _, _, rfl⟩
      · have := paired_len pv2
        rw [rnds_len] at this
        exact small1000 (by omega)
      · rw [rnds_succ w l s n (i + 1)]
        refine paired_snoc (Paired.mapP pv2 fun _ _ => PairV.tup T25) ⟨t2, rfl, ?_⟩
        rw [upd_ne (fun z => by rw [z, hf5] at h5; cases h5)]
        exact h5
    · rintro σ H2 ⟨S2, hx2, vs, hf2, pv2, o5, o6, o7, rfl⟩
      exact ⟨S2, hx2, vs, hf2, pv2, _, _, _, rfl⟩
  clear S1 hx1 hfl pv H1
  rintro σ H1 ⟨S1, hx1, vs, hfl, pv, o5, o6, o7, rfl⟩
  have lm : l.length * per ≤ 48 * 24 := Nat.mul_le_mul l48 p24
  obtain ⟨mk, me⟩ := mul_row l per l1 go.p1 (by omega)
  refine ⟨_, rfl, _, rfl, _, rfl, x, _, dx, _, _, rfl, hx1, T.cl_Going, T.n_Going_period, gF9_period .., _, _, rfl, rfl, mk, ?_⟩
  rw [me]
  refine ⟨_, rfl, aw, w, _, _, rfl, hw0.mono S1, fun ev H2 S2 he => ⟨_, rfl, x, cG K, dx, _, rfl, S2 _ _ hx1, T.cl_Going, T.n_Going_effect, by show 9 < 1000; decide, ?_⟩⟩
  have hx2 := S2 _ _ hx1
  have z := gset (dx := dx) (C := cG K) (f := "effect") (v := ev) (S1.trans S2) nx (fs := (gF aw s l n (l.count true : Nat) (frB w l) (per : Nat) (set : Nat) fl .non).take 9) (fs' := gF aw s l n (l.count true : Nat) (frB w l) (per : Nat) (set : Nat) fl ev) (by kernel_rfl)
  have T3 : Tup H2 (upd H2 x (.ins (cG K) dx (putF "effect" ev ((gF aw s l n (l.count true : Nat) (frB w l) (per : Nat) (set : Nat) fl .non).take 9)))) := Tup.upd fun ws e => by rw [hx2] at e; cases e
  refine q _ z.1 ⟨dx, aw, fl, ev, vs, z.2, hw0.mono z.1, by rw [upd_ne fx]; exact S2 _ _ hfl, Paired.mapP pv fun _ _ => PairV.tup ((Tup.of S2).trans T3), ?_, go⟩
  cases hE : effE w (List.replicate per l).flatten (rndN w l set (s, n)).2 with
  | none => rw [hE] at he; exact he
  | some e => rw [hE] at he; obtain ⟨t, e1, e2⟩ := he; exact ⟨t, e1, T3 _ _ e2⟩
theorem mak_Going (T : Txt K mg) : C8.Mak P w K mg base 3 "Going" (He.ga K "Going") (spGInit K) [] := by
  obtain ⟨fd, F⟩ := T.f_Going___init__
  exact ⟨_, fd, ["self", "wane", "strength", "row", "since"], [], T.mk_Going, fn_Going_init T F, T.g_Going, F.bindsN fun _ _ _ _ _ _ us hl => match us, hl with | [_, _, _, _, _], _ => rfl, .nil⟩
end
end WH

set_option maxHeartbeats 4000000
namespace WH
open PySem PySem.Spec PyProof.Rows L2
section
variable (aw : Addr) (s : Int) (l : List Bool) (n : Nat) (tn : Int) (fr : Bool) (per set : Int) (fl : Addr) (ev : V)
theorem gF_wane : (gF aw s l n tn fr per set fl ev).lookup ("wane" : Str) = some (.ref aw) := by kernel_rfl
theorem gF_row : (gF aw s l n tn fr per set fl ev).lookup ("row" : Str) = some (.str (rowS l)) := by kernel_rfl
theorem gF_turns : (gF aw s l n tn fr per set fl ev).lookup ("turns" : Str) = some (.int tn) := by kernel_rfl
theorem gF_fresh : (gF aw s l n tn fr per set fl ev).lookup ("fresh" : Str) = some (.bl fr) := by kernel_rfl
theorem gF_period : (gF aw s l n tn fr per set fl ev).lookup ("period" : Str) = some (.int per) := by kernel_rfl
theorem gF_settle : (gF aw s l n tn fr per set fl ev).lookup ("settle" : Str) = some (.int set) := by kernel_rfl
theorem gF_firsts : (gF aw s l n tn fr per set fl ev).lookup ("firsts" : Str) = some (.ref fl) := by kernel_rfl
theorem gF_effect : (gF aw s l n tn fr per set fl ev).lookup ("effect" : Str) = some ev := by kernel_rfl
end
theorem atI_last {α : Type} {l : List α} {k : Nat} {x : α} (hl : l.length = k + 1) (h : l[k]? = some x) : atI l (-1) = some x := by
  unfold atI
  have hi : ixN l.length (-1) = some k := by
    rw [hl]
    unfold ixN
    rw [if_neg (by decide), if_pos (by omega)]
    exact congrArg some (by omega)
  rw [hi]; exact h
theorem rnds_get (w : WN) (l : List Bool) (s : Int) (n : Nat) {k j : Nat} (h : j < k) : (rnds w l s n k)[j]? = some (rndN w l j (s, n)) := by
  unfold rnds
  rw [List.getElem?_map, List.getElem?_range h]; rfl
section
variable {P : Program} {w : World} {K : PySem.W.Frag} {mg : Str → Option Value} {base : Heap}
/-- just the state behind so many rounds -/
def spGBehind (K : PySem.W.Frag) : Sp := fun vs H Q _ => ∃ g w s l n set per, ∃ t : Nat, vs = [.ref g, .int (t : Nat)] ∧ GoingAt K H g w s l n set per ∧ ∀ v H', Same H H' → PairV H' v (rndN w l t (s, n)) → Q v H'
theorem met_Going_behind (T : Txt K mg) : C8.Met P w K mg base 4 (He.ga K "Going") "behind" (spGBehind K) [] := by
  refine metD T.f_Going_behind T.cl_Going T.m_Going_behind sc_Going_behind (fun fd F => F.bindsN fun _ _ _ _ _ _ us hl => match us, hl with | [_, _], _ => rfl) (fun vs H Q E h => by obtain ⟨_, _, _, _, _, _, _, _, rfl, _⟩ := h; rfl) fun cdv A outer s H vs Q E hr h => ?_
  refine ⟨_, (pss_cons (ps_if (pt_cmpR op_lt (pv 1) (pe_callB call_len (by rfl) T.b_len (by decide +kernel) (pa_cons (pe_fld (pv 0) rfl) pa_nil)) (nomark _)) (pss_one (ps_ret (pe_ix ix_list (pe_fld (pv 0) rfl) (pv 1) (fun _ _ => rfl)))) pss_nil) (C8.pss_cut (ps_asg (pe_ix ix_list (pe_fld (pv 0) rfl) (pe_un un_neg pe_int) (fun _ _ => rfl)) (pg_tup rfl (pgs_cons (pg_name (i := 2) sc_Going_behind.nd rfl (by first | exact Or.inl rfl | exact Or.inr rfl)) (pgs_cons (pg_name (i := 3) sc_Going_behind.nd rfl (by first | exact Or.inl rfl | exact Or.inr rfl)) pgs_nil)))) (C8.pss_cut (ps_set (i := 4) sc_Going_behind.nd rfl (by first | exact Or.inl rfl | exact Or.inr rfl) (pe_op op_sub (pv 1) (pe_fld (pv 0) rfl))) (C8.pss_cut (ps_set (i := 2) sc_Going_behind.nd rfl (by first | exact Or.inl rfl | exact Or.inr rfl) (C8.pe_c (cal_repeated T) hr (by decide) rfl (pa_cons (pe_fld (pv 0) rfl) (pa_cons (pv 2) (pa_cons (pe_op op_fdiv (pv 4) (pe_fld (pv 0) rfl)) pa_nil))))) (C8.pss_cut (ps_if (pt_not (pt_val (pe_fld (pv 0) rfl))) (pss_one (ps_aug (i := 3) sc_Going_behind.nd rfl (by first | exact Or.inl rfl | exact Or.inr rfl) (pe_op op_mul (pe_op op_mul (pe_op op_fdiv (pv 4) (pe_fld (pv 0) rfl)) (pe_fld (pv 0) rfl)) (pe_fld (pv 0) rfl)) ip_add)) pss_nil) (C8.pss_cut (ps_for PassesOwn.never rfl (pi_range1 (by rfl) T.b_range (pa_cons (pe_op op_mod (pv 4) (pe_fld (pv 0) rfl)) pa_nil)) (pg_name (i := 5) sc_Going_behind.nd rfl (by first | exact Or.inl rfl | exact Or.inr rfl)) (pss_cons (ps_asg (C8.pe_c (cal_row_walked T) hr (by decide) rfl (pa_cons (pe_fld (pv 0) rfl) (pa_cons (pv 2) (pa_cons (pe_fld (pv 0) rfl) (pa_cons (pv 3) pa_nil))))) (pg_tup rfl (pgs_cons (pg_name (i := 6) sc_Going_behind.nd rfl (by first | exact Or.inl rfl | exact Or.inr rfl)) (pgs_cons (pg_name (i := 3) sc_Going_behind.nd rfl (by first | exact Or.inl rfl | exact Or.inr rfl)) pgs_nil)))) (pss_one (ps_set (i := 2) sc_Going_behind.nd rfl (by first | exact Or.inl rfl | exact Or.inr rfl) (pe_ix ix_list (pv 6) (pe_un un_neg pe_int) (fun _ _ => rfl)))))) (pss_one (ps_ret (NW.pe_tupN (pa_cons (pv 2) (pa_cons (pv 3) pa_nil))))))))))), ?_⟩
  obtain ⟨g, w, s, l, n, set, per, t, rfl, ⟨dx, aw, fl, ev, vs, eg, hw, hf, pv, he, go⟩, q⟩ := h
  have lv := paired_len pv
  rw [rnds_len] at lv
  have p1 := go.p1
  have p24 := go.p24
  refine ⟨_, rfl, _, rfl, g, _, dx, _, _, rfl, eg, T.cl_Going, T.n_Going_firsts, gF_firsts .., _, _, rfl, .inl ⟨_, SqL.of hf, rfl⟩, _, _, rfl, rfl, _, rfl, ite2 (fun c => ?_) fun c => ?_⟩
  · have c : (t : Int) < (vs.length : Nat) := of_decide_eq_true c
    obtain ⟨x, hx, hp⟩ := paired_at pv (rnds_get w l s n (show t < set + 1 by omega))
    exact ⟨_, rfl, g, _, dx, _, _, rfl, eg, T.cl_Going, T.n_Going_firsts, gF_firsts .., _, rfl, fl, vs, _, _, rfl, rfl, SqL.of hf, atI_nat hx, q x H (Same.refl _) hp⟩
  have c : ¬ (t : Int) < (vs.length : Nat) := fun z => c (decide_eq_true z)
  obtain ⟨x, hx, u, rfl, hu⟩ := paired_at pv (rnds_get w l s n (show set < set + 1 by omega))
  have hx' : atI vs (-1) = some (.ref u) := atI_last lv hx
  obtain ⟨d, rfl⟩ : ∃ d, t = set + d := ⟨t - set, by omega⟩
  refine ⟨fun σ H' => H' = H ∧ σ = [some (.ref g), some (.int ((set + d : Nat) : Int)), some (.int (rndN w l set (s, n)).1), some (.int ((rndN w l set (s, n)).2 : Nat)), none, none, none], ?_, ?_⟩
  · exact ⟨_, rfl, g, _, dx, _, _, rfl, eg, T.cl_Going, T.n_Going_firsts, gF_firsts .., _, rfl, fl, vs, _, _, rfl, rfl, SqL.of hf, hx', u, _, rfl, SqT.of hu, rfl, _, _, rfl, _, _, rfl, rfl, rfl, rfl⟩
  rintro σ H' ⟨rfl, rfl⟩
  refine ⟨fun σ H2 => H2 = H' ∧ σ = [some (.ref g), some (.int ((set + d : Nat) : Int)), some (.int (rndN w l set (s, n)).1), some (.int ((rndN w l set (s, n)).2 : Nat)), some (.int (d : Nat)), none, none], ?_, ?_⟩
  · refine ⟨_, rfl, _, rfl, g, _, dx, _, _, rfl, eg, T.cl_Going, T.n_Going_settle, gF_settle .., _, _, rfl, rfl, rfl, ?_⟩
    show [some (V.ref g), _, _, _, some (V.int (((set + d : Nat) : Int) - (set : Nat))), none, none] = _
    rw [show ((set + d : Nat) : Int) - (set : Nat) = (d : Nat) by omega]
  rintro σ H2 ⟨rfl, rfl⟩
  have bd := rndN_ok go.ok go.s0 go.s1 l n set
  have ed : ((d : Nat) : Int) / ((per : Nat) : Int) = ((d / per : Nat) : Int) := (Int.natCast_ediv d per).symm
  have em : ((d : Nat) : Int) % ((per : Nat) : Int) = ((d % per : Nat) : Int) := (Int.natCast_emod d per).symm
  have wd : wide (effE w (List.replicate per l).flatten (rndN w l set (s, n)).2) := wide_eff go.ok (by
    have : (List.replicate per l).flatten.length = per * l.length := by simp
    rw [this]
    have := Nat.mul_le_mul p24 go.l48
    omega) _
  have ct := comes_thr go.ok go.s0 go.s1 go.c (d / per)
  refine ⟨fun σ H3 => H3 = H2 ∧ σ = [some (.ref g), some (.int ((set + d : Nat) : Int)), some (.int (rndN w l (set + d / per * per) (s, n)).1), some (.int ((rndN w l set (s, n)).2 : Nat)), some (.int (d : Nat)), none, none], ?_, ?_⟩
  · refine ⟨_, rfl, g, _, dx, _, _, rfl, eg, T.cl_Going, T.n_Going_effect, gF_effect .., _, rfl, _, rfl, _, rfl, g, _, dx, _, _, rfl, eg, T.cl_Going, T.n_Going_period, gF_period .., _, _, rfl, rfl, ⟨by omega, by omega⟩, ev, _, _, d / per, congrArg (fun z => [ev, V.int (rndN w l set (s, n)).1, V.int z]) ed, he, wd, rfl, ?_⟩
    rw [← ct]; rfl
  rintro σ H3 ⟨rfl, rfl⟩
  refine ⟨fun σ H4 => H4 = H3 ∧ σ = [some (.ref g), some (.int ((set + d : Nat) : Int)), some (.int (rndN w l (set + d / per * per) (s, n)).1), some (.int ((rndN w l (set + d / per * per) (s, n)).2 : Nat)), some (.int (d : Nat)), none, none], ?_, ?_⟩
  · rw [go.sin]
    refine ⟨_, rfl, g, _, dx, _, _, rfl, eg, T.cl_Going, T.n_Going_fresh, gF_fresh .., _, rfl, ?_⟩
    cases hfr : frB w l with
    | true => exact iteF ⟨rfl, by simp⟩
    | false =>
      rw [hfr] at eg
      have ctl : l.count true ≤ l.length := List.count_le_length
      have l48 := go.l48
      refine iteT ⟨_, rfl, _, rfl, _, rfl, g, _, dx, _, _, rfl, eg, T.cl_Going, T.n_Going_period, gF_period .., _, _, rfl, rfl, ⟨by omega, by omega⟩, _, rfl, g, _, dx, _, _, rfl, eg, T.cl_Going, T.n_Going_period, gF_period .., _, _, rfl, rfl, .inr ⟨by omega, by omega⟩, _, rfl, g, _, dx, _, _, rfl, eg, T.cl_Going, T.n_Going_turns, gF_turns .., _, _, rfl, rfl, .inr ⟨by omega, by omega⟩, _, _, rfl, rfl, rfl, ?_⟩
      show [some (V.ref g), _, _, some (V.int (((rndN w l set (s, n)).2 : Nat) + ((d : Nat) : Int) / ((per : Nat) : Int) * ((per : Nat) : Int) * ((l.count true : Nat) : Int))), _, _, _] = _
      rw [ed, ← Int.natCast_mul, ← Int.natCast_mul, ← Int.natCast_add]
      rfl
  rintro σ H4 ⟨rfl, rfl⟩
  have eb : set + d / per * per + d % per = set + d := by
    have := Nat.div_add_mod d per
    rw [Nat.mul_comm] at this
    omega
  generalize set + d / per * per = B at eb
  refine ⟨fun σ H' => Same H4 H' ∧ ∃ o5 o6, σ = [some (.ref g), some (.int ((set + d : Nat) : Int)), some (.int (rndN w l (set + d) (s, n)).1), some (.int ((rndN w l (set + d) (s, n)).2 : Nat)), some (.int (d : Nat)), o5, o6], ?_, ?_⟩
  · refine ⟨_, rfl, _, rfl, g, _, dx, _, _, rfl, eg, T.cl_Going, T.n_Going_period, gF_period .., _, _, rfl, rfl, by omega, ?_⟩
    have mp := Nat.mod_lt d (show 0 < per by omega)
    have hb : (-2 ^ 62 : Int) ≤ ((d : Nat) : Int) % ((per : Nat) : Int) ∧ ((d : Nat) : Int) % ((per : Nat) : Int) < 2 ^ 62 := by rw [em]; omega
    refine ⟨_, rfl, hb.1, hb.2, ?_⟩
    refine for_it walk_range (fun i σ H' => Same H4 H' ∧ ∃ o5 o6, σ = [some (.ref g), some (.int ((set + d : Nat) : Int)), some (.int (rndN w l (B + i) (s, n)).1), some (.int ((rndN w l (B + i) (s, n)).2 : Nat)), some (.int (d : Nat)), o5, o6]) ⟨Same.refl _, _, _, rfl⟩ (fun _ _ _ _ _ => trivial) ?_ ?_
    · rintro i y σ H5 H6 hi ⟨S5, o5, o6, rfl⟩ ⟨rfl, rfl⟩
      have bd := rndN_ok go.ok go.s0 go.s1 l n (B + i)
      have es := rndN_succ w l (B + i) (s, n)
      have ee : rndN w l (B + i) (s, n) = ((rndN w l (B + i) (s, n)).1, (rndN w l (B + i) (s, n)).2) := rfl
      have eg5 := S5 _ _ eg
      have l48 := go.l48
      refine ⟨_, rfl, g, _, dx, _, _, rfl, eg5, T.cl_Going, T.n_Going_wane, gF_wane .., _, rfl, _, rfl, g, _, dx, _, _, rfl, eg5, T.cl_Going, T.n_Going_row, gF_row .., _, rfl, aw, w, _, l, _, rfl, hw.mono S5, bd.1, bd.2, by omega, fun t ls H7 S7 ht hls => ?_⟩
      rw [← ee, ← es] at ht
      have hl := strL_last w (rndN w l (B + i) (s, n)).1 (rndN w l (B + i) (s, n)).2 l
      rw [← ee, ← es] at hl
      refine ⟨t, _, rfl, SqT.of ht, rfl, _, _, rfl, _, _, rfl, rfl, ?_⟩
      exact ⟨_, rfl, _, rfl, ls, _, _, _, rfl, rfl, SqL.of hls, hl, S5.trans S7, _, _, rfl⟩
    · rintro σ H5 ⟨S5, o5, o6, rfl⟩
      have e : B + (((d : Nat) : Int) % ((per : Nat) : Int)).toNat = set + d := by rw [em]; omega
      rw [e]
      exact ⟨S5, _, _, rfl⟩
  rintro σ H5 ⟨S5, o5, o6, rfl⟩
  exact ⟨_, rfl, _, rfl, by show 2 ≤ sizeLine; decide, fun t H6 nt S6 h6 => q (.ref t) H6 (S5.trans S6) ⟨t, rfl, h6⟩⟩
def spGState (K : PySem.W.Frag) : Sp := fun vs H Q _ => ∃ g w s l n set per, ∃ t : Nat, vs = [.ref g, .int (t : Nat)] ∧ GoingAt K H g w s l n set per ∧ ∀ v H', Same H H' → PairV H' v ((rndN w l t (s, n)).1, w.phase (rndN w l t (s, n)).2) → Q v H'
theorem met_Going_state (T : Txt K mg) : C8.Met P w K mg base 5 (He.ga K "Going") "state" (spGState K) [] := by
  refine metD T.f_Going_state T.cl_Going T.m_Going_state sc_Going_state (fun fd F => F.bindsN fun _ _ _ _ _ _ us hl => match us, hl with | [_, _], _ => rfl) (fun vs H Q E h => by obtain ⟨_, _, _, _, _, _, _, _, rfl, _⟩ := h; rfl) fun cdv A outer s H vs Q E hr h => ?_
  refine ⟨_, (pss_cons (ps_asg (C8.pe_mt (met_Going_behind T) hr (by decide) (pv 0) (pa_cons (pv 1) pa_nil)) (pg_tup rfl (pgs_cons (pg_name (i := 2) sc_Going_state.nd rfl (by first | exact Or.inl rfl | exact Or.inr rfl)) (pgs_cons (pg_name (i := 3) sc_Going_state.nd rfl (by first | exact Or.inl rfl | exact Or.inr rfl)) pgs_nil)))) (pss_one (ps_ret (NW.pe_tupN (pa_cons (pv 2) (pa_cons (C8.pe_mt (met_Wane_phase_of T) hr (by decide) (pe_fld (pv 0) rfl) (pa_cons (pv 3) pa_nil)) pa_nil)))))), ?_⟩
  obtain ⟨g, w, s, l, n, set, per, t, rfl, hg, q⟩ := h
  obtain ⟨dx, aw, fl, ev, vs, eg, hw, hf, pv, he, go⟩ := id hg
  refine ⟨_, rfl, g, dx, _, rfl, eg, by kernel_rfl, _, rfl, g, w, s, l, n, set, per, t, rfl, hg, fun v H1 S1 hp => ?_⟩
  obtain ⟨u, rfl, hu⟩ := hp
  refine ⟨u, _, rfl, SqT.of hu, rfl, _, _, rfl, _, _, rfl, rfl, ?_⟩
  obtain ⟨dw, hh, ht, ea, _⟩ := id (hw.mono S1)
  refine ⟨_, rfl, _, rfl, g, _, dx, _, _, rfl, S1 _ _ eg, T.cl_Going, T.n_Going_wane, gF_wane .., aw, dw, _, rfl, ea, by kernel_rfl, _, rfl, aw, w, _, rfl, hw.mono S1, by show 2 ≤ sizeLine; decide, fun t2 H2 n2 S2 h2 => q (.ref t2) H2 (S1.trans S2) ⟨t2, rfl, h2⟩⟩
theorem pairD_dp {K : PySem.W.Frag} {H : Hp} {v : V} {x : Int × Nat} (h : PairV H v x) : Dp K H v (.tuple [.int x.1, .int (x.2 : Nat)]) := by
  obtain ⟨t, rfl, h⟩ := h
  exact .tup (SqT.of h) (.cons (.int _) (.cons (.int _) .nil))
def spGAgain (K : PySem.W.Frag) : Sp := fun vs H Q _ => ∃ g w s l n set per, ∃ t : Nat, vs = [.ref g, .int (t : Nat)] ∧ GoingAt K H g w s l n set per ∧ ∀ b H', Same H H' → Q (.bl b) H'
theorem met_Going_comes_again (T : Txt K mg) : C8.Met P w K mg base 6 (He.ga K "Going") "comes_again" (spGAgain K) [] := by
  refine metD T.f_Going_comes_again T.cl_Going T.m_Going_comes_again sc_Going_comes_again (fun fd F => F.bindsN fun _ _ _ _ _ _ us hl => match us, hl with | [_, _], _ => rfl) (fun vs H Q E h => by obtain ⟨_, _, _, _, _, _, _, _, rfl, _⟩ := h; rfl) fun cdv A outer s H vs Q E hr h => ?_
  refine ⟨_, (pss_one (ps_ret (pe_cmpR (op_eqD hr.units) (C8.pe_mt (met_Going_state T) hr (by decide) (pv 0) (pa_cons (pv 1) pa_nil)) (C8.pe_mt (met_Going_state T) hr (by decide) (pv 0) (pa_cons (pe_op op_add (pv 1) (pe_fld (pv 0) rfl)) pa_nil)) (nomark _)))), ?_⟩
  obtain ⟨g, w, s, l, n, set, per, t, rfl, hg, q⟩ := h
  obtain ⟨dx, aw, fl, ev, vs, eg, hw, hf, pv, he, go⟩ := id hg
  refine ⟨_, rfl, g, dx, _, rfl, eg, by kernel_rfl, _, rfl, g, w, s, l, n, set, per, t, rfl, hg, fun v1 H1 S1 p1 => ?_⟩
  refine ⟨_, rfl, g, dx, _, rfl, S1 _ _ eg, by kernel_rfl, _, rfl, _, rfl, g, _, dx, _, _, rfl, S1 _ _ eg, T.cl_Going, T.n_Going_period, gF_period .., _, _, rfl, rfl, g, w, s, l, n, set, per, t + per, ?_, hg.mono S1, fun v2 H2 S2 p2 => ?_⟩
  · rw [Int.natCast_add]; rfl
  refine ⟨_, _, pairD_dp ⟨_, p1.choose_spec.1, S2 _ _ p1.choose_spec.2⟩, pairD_dp p2, rfl, rfl, q _ _ (S1.trans S2)⟩
end
end WH

set_option maxHeartbeats 4000000
namespace WH
open PySem PySem.Spec PyProof.Rows L2
section
variable {P : Program} {w : World} {K : PySem.W.Frag} {mg : Str → Option Value} {base : Heap}
def spBehind (K : PySem.W.Frag) : Sp := fun vs H Q _ => ∃ a w s l, ∃ t n : Nat, vs = [.ref a, .int s, .str (rowS l), .int (t : Nat), .int (n : Nat)] ∧ WaneAt K H a w ∧ 0 ≤ s ∧ s ≤ w.cap ∧ 1 ≤ l.length ∧ l.length ≤ 48 ∧ (t : Int) ≤ 1000000000000000000000000000000 ∧ (n : Int) ≤ 1000000000000000000000000000000 ∧
  ∀ v H', Same H H' → PairV H' v (rndN w l t (s, n)) → Q v H'
theorem fn_behind (T : Txt K mg) {fd : FuncData} (F : FD K d_behind fd) : FnOk P w K mg base C8.CX0 5 (He.fAd K d_behind.at_) fd ["wane", "strength", "row", "times", "since"] (spBehind K) := by
  refine F.ok sc_behind (fun vs H Q E h => by obtain ⟨_, _, _, _, _, _, rfl, _⟩ := h; rfl) fun cdv A outer s H vs Q E hr h => ?_
  obtain ⟨a, w, s, l, t, n, rfl, hw, s0, s1, l1, l48, ht, hn, q⟩ := h
  obtain ⟨dx, hh, ht', ea, _⟩ := id hw
  have ll := rowS_len l
  refine ⟨_, PSs.nox ((pss_cons (ps_if (pt_not (pt_val (pe_callB call_isi (by rfl) T.b_isinstance (by decide +kernel) (pa_cons (pv 0) (pa_cons (C8.pe_gc (v := .ref (He.ga K "Wane")) rfl ⟨_, T.g_Wane, rfl⟩) pa_nil))))) (pss_one ps_never) pss_nil) (pss_cons (ps_if (PW.pt (pw_or (pt_not (pt_val (C8.pe_c (cal_is_whole T) hr (by decide) rfl (pa_cons (pv 1) pa_nil)))) (pw_or1 (pt_not (pt_chain op_le op_le pe_int (pv 1) (C8.pe_mt0 (met_Wane_cap T) hr (by decide) (pv 0))))))) (pss_one ps_never) pss_nil) (pss_cons (ps_if (PW.pt (pw_or (pt_not (pt_val (C8.pe_c (cal_is_row T) hr (by decide) rfl (pa_cons (pv 2) pa_nil)))) (pw_or1 (pt_not (pt_chain op_le op_le pe_int (pe_callB call_len (by rfl) T.b_len (by decide +kernel) (pa_cons (pv 2) pa_nil)) pe_int))))) (pss_one ps_never) pss_nil) (pss_cons (ps_if (pt_not (pt_val (C8.pe_c (cal_is_moment T) hr (by decide) rfl (pa_cons (pv 3) pa_nil)))) (pss_one ps_never) pss_nil) (pss_cons (ps_if (pt_not (pt_val (C8.pe_c (cal_is_moment T) hr (by decide) rfl (pa_cons (pv 4) pa_nil)))) (pss_one ps_never) pss_nil) (pss_one (ps_ret (C8.pe_mt (met_Going_behind T) hr (by decide) (C8.pe_mk (mak_Going T) hr (by decide) rfl (pa_cons (pv 0) (pa_cons (pv 1) (pa_cons (pv 2) (pa_cons (pv 4) pa_nil))))) (pa_cons (pv 3) pa_nil)))))))))), ?_⟩
  refine ⟨_, rfl, _, _, .ref (cW K), _, _, rfl, .own _, knw_wane T hw, T.kit (by simp [tys]) (by simp [cls]), _, rfl, ?_⟩
  rw [show isk (.ref (cW K)) (.ref (cW K)) = true by simp [isk]]
  refine iteF ⟨_, rfl, _, rfl, knw_int _, _, rfl, iteF ⟨_, rfl, _, _, rfl, rfl, _, rfl, ?_⟩⟩
  rw [show decide ((0 : Int) ≤ s) = true from decide_eq_true s0]
  refine iteT ⟨_, rfl, a, dx, _, rfl, ea, by kernel_rfl, a, w, rfl, hw, _, _, rfl, rfl, _, rfl, ?_⟩
  rw [decide_eq_true s1]
  refine iteF ⟨_, rfl, l, rfl, by omega, fun H1 S1 => ⟨_, rfl, iteF ⟨_, rfl, _, _, rfl, ⟨small1000 (by omega) |> Nat.le_of_lt, rfl⟩, _, _, rfl, rfl, _, rfl, ?_⟩⟩⟩
  rw [ll, show decide ((1 : Int) ≤ (l.length : Nat)) = true from decide_eq_true (by omega)]
  refine iteT ⟨_, _, rfl, rfl, _, rfl, ?_⟩
  rw [show decide (((l.length : Nat) : Int) ≤ 48) = true from decide_eq_true (by omega)]
  refine iteF ⟨_, rfl, _, rfl, knw_int _, _, rfl, ?_⟩
  rw [wi_int (by omega) ht]
  refine iteF ⟨_, rfl, _, rfl, knw_int _, _, rfl, ?_⟩
  rw [wi_int (by omega) hn]
  refine iteF ⟨_, rfl, _, rfl, _, rfl, _, rfl, fun x dx2 nx nd ne => ?_⟩
  refine ⟨H1, x, dx2, a, w, s, l, n, rfl, rfl, nx, nd, ne, hw.mono S1, s0, s1, l1, l48, fun H2 S2 hg => ⟨rfl, ?_⟩⟩
  obtain ⟨dg, aw, fl, ev, vs, eg, _⟩ := id hg
  exact ⟨x, dg, _, rfl, eg, by kernel_rfl, _, rfl, x, w, s, l, n, _, _, t, rfl, hg, fun v H3 S3 hp => q v H3 ((S1.trans S2).trans S3) hp⟩
theorem cal_behind (T : Txt K mg) : C8.Cal P w K mg base 5 "behind" (spBehind K) [.int 0] := by
  obtain ⟨fd, F⟩ := T.f_behind
  obtain ⟨ds, hv, b⟩ := F.binds0 (ps := ["wane", "strength", "row", "times", "since"]) 4 (by simp [He.DefD.kws, d_behind]) rfl (fun D doc pm an cdv ct us ks l1 l2 => by
    match us, ks, l1, l2 with
    | [_, _, _, _], [_], _, _ => exact ⟨_, _, _, _, _, _, rfl, rfl, rfl⟩)
  exact ⟨_, fd, _, ds, fn_behind T F, T.g_behind, F.kp, b, hv⟩
def spLeast (K : PySem.W.Frag) : Sp := fun vs H Q _ => ∃ g w s l n set per, ∃ b : Bool, vs = [.ref g, .bl b] ∧ GoingAt K H g w s l n set per ∧ (b = true → (rndN w l 1000000000000 (s, n)).1 = 0) ∧
  ∀ k : Nat, ∀ H', k ≤ 1000000000000 → Same H H' → (b = true → (rndN w l k (s, n)).1 = 0 ∧ ∀ j, k = j + 1 → (rndN w l j (s, n)).1 ≠ 0) → Q (.int (k : Nat)) H'
theorem cal_least_of (T : Txt K mg) : C8.Cal P w K mg base 7 "least_of" (spLeast K) [] := by
  refine calD T.f_least_of T.g_least_of sc_least_of (fun fd F => F.bindsN fun _ _ _ _ _ _ us hl => match us, hl with | [_, _], _ => rfl) (fun vs H Q E h => by obtain ⟨_, _, _, _, _, _, _, _, rfl, _⟩ := h; rfl) fun cdv A outer s H vs Q E hr h => ?_
  refine ⟨_, (pss_cons (ps_par (i := 2) (j := 3) (by rfl) sc_least_of.nd rfl rfl (by decide) rfl rfl (pa_cons (pe_un un_neg pe_int) (pa_cons (C8.pe_gc rfl T.c_FAR) pa_nil)) (by rfl)) (pss_cons (ps_while PassesOwn.never (pt_cmpR op_gt (pe_op op_sub (pv 3) (pv 2)) pe_int (nomark _)) (pss_cons (ps_set (i := 4) sc_least_of.nd rfl (by first | exact Or.inl rfl | exact Or.inr rfl) (pe_op op_fdiv (pe_op op_add (pv 2) (pv 3)) pe_int)) (pss_one (ps_if (PW.pt (pw_or (PW.pt (pw_and (pt_val (pv 1)) (pw_and1 (pt_cmpR op_eq (pe_ix ix_tup (C8.pe_mt (met_Going_behind T) hr (by decide) (pv 0) (pa_cons (pv 4) pa_nil)) pe_int (fun _ _ => rfl)) pe_int (nomark _))))) (pw_or1 (PW.pt (pw_and (pt_not (pt_val (pv 1))) (pw_and1 (pt_val (C8.pe_mt (met_Going_comes_again T) hr (by decide) (pv 0) (pa_cons (pv 4) pa_nil))))))))) (pss_one (ps_set (i := 3) sc_least_of.nd rfl (by first | exact Or.inl rfl | exact Or.inr rfl) (pv 4))) (pss_one (ps_set (i := 2) sc_least_of.nd rfl (by first | exact Or.inl rfl | exact Or.inr rfl) (pv 4))))))) (pss_one (ps_ret (pv 3))))), ?_⟩
  obtain ⟨g, w, s, l, n, set, per, b, rfl, hg, hb, q⟩ := h
  obtain ⟨dx, aw, fl, ev, vs, eg, hw, hf, pv, he, go⟩ := id hg
  refine ⟨_, rfl, _, _, rfl, ?_⟩
  refine ⟨fun m σ H' => Same H H' ∧ ∃ (low : Int) (hi : Nat) (o4 : Option V), m = (hi - low).toNat ∧ -1 ≤ low ∧ low < hi ∧ hi ≤ 1000000000000 ∧ (b = true → (rndN w l hi (s, n)).1 = 0 ∧ ∀ j : Nat, low = j → (rndN w l j (s, n)).1 ≠ 0) ∧ σ = [some (.ref g), some (.bl b), some (.int low), some (.int (hi : Nat)), o4], ⟨_, Same.refl _, -1, 1000000000000, _, rfl, by decide, by decide, Nat.le_refl _, fun z => ⟨hb z, fun j e => by omega⟩, rfl⟩, ?_⟩
  rintro m σ H' ⟨S, low, hi, o4, rfl, k1, k2, k3, kb, rfl⟩
  refine ⟨_, rfl, _, rfl, _, _, rfl, rfl, _, _, rfl, rfl, _, rfl, ite2 (fun c => ?_) fun c => ?_⟩
  · have c : (1 : Int) < (hi : Nat) - low := of_decide_eq_true c
    obtain ⟨mid, em⟩ : ∃ mid : Nat, (low + (hi : Nat)) / 2 = (mid : Int) := ⟨((low + (hi : Nat)) / 2).toNat, by omega⟩
    refine ⟨fun σ H2 => Same H H2 ∧ ∃ (low' : Int) (hi' : Nat) (o4 : Option V), (hi' - low').toNat < (hi - low).toNat ∧ -1 ≤ low' ∧ low' < hi' ∧ hi' ≤ 1000000000000 ∧ (b = true → (rndN w l hi' (s, n)).1 = 0 ∧ ∀ j : Nat, low' = j → (rndN w l j (s, n)).1 ≠ 0) ∧ σ = [some (.ref g), some (.bl b), some (.int low'), some (.int (hi' : Nat)), o4], ?_, ?_⟩
    · rintro σ H2 ⟨S2, lo2, hi2, o5, d1, d2, d3, d4, d5, rfl⟩
      exact ⟨_, d1, S2, lo2, hi2, o5, rfl, d2, d3, d4, d5, rfl⟩
    refine ⟨_, rfl, _, rfl, _, _, rfl, rfl, _, _, rfl, rfl, ⟨by decide, by decide⟩, _, rfl, ?_⟩
    dsimp only [List.set]
    rw [em]
    cases b with
    | true =>
      refine ⟨_, rfl, iteT ⟨_, rfl, g, dx, _, rfl, S _ _ eg, by kernel_rfl, _, rfl, g, w, s, l, n, set, per, mid, rfl, hg.mono S, fun v H2 S2 hp => ?_⟩⟩
      obtain ⟨t, rfl, ht⟩ := hp
      refine ⟨t, _, _, _, rfl, rfl, SqT.of ht, rfl, rfl, _, rfl, ite2 (fun z => ?_) fun z => ?_⟩
      · have z : (rndN w l mid (s, n)).1 = 0 := V.int.inj (of_decide_eq_true z)
        exact iteT ⟨_, rfl, S.trans S2, low, mid, _, by omega, k1, by omega, by omega, fun _ => ⟨z, (kb rfl).2⟩, rfl⟩
      · have z : (rndN w l mid (s, n)).1 ≠ 0 := fun y => z (decide_eq_true (congrArg V.int y))
        refine ⟨_, rfl, _, rfl, iteF (iteF ⟨_, rfl, S.trans S2, (mid : Int), hi, _, by omega, by omega, by omega, k3, fun _ => ⟨(kb rfl).1, fun j e => ?_⟩, rfl⟩)⟩
        obtain rfl : mid = j := by omega
        exact z
    | false =>
      refine ⟨_, rfl, iteF ⟨_, rfl, _, rfl, iteT ⟨_, rfl, g, dx, _, rfl, S _ _ eg, by kernel_rfl, _, rfl, g, w, s, l, n, set, per, mid, rfl, hg.mono S, fun c2 H2 S2 => ⟨_, rfl, ?_⟩⟩⟩⟩
      cases c2 with
      | true => exact iteT ⟨_, rfl, S.trans S2, low, mid, _, by omega, k1, by omega, by omega, (fun z => by cases z), rfl⟩
      | false => exact iteF ⟨_, rfl, S.trans S2, (mid : Int), hi, _, by omega, by omega, by omega, k3, (fun z => by cases z), rfl⟩
  · have c : ¬ (1 : Int) < (hi : Nat) - low := fun z => c (decide_eq_true z)
    refine ⟨_, rfl, q hi H' k3 S fun z => ⟨(kb z).1, fun j e => (kb z).2 j (by omega)⟩⟩
end
end WH

set_option maxHeartbeats 4000000
namespace WH
open PySem PySem.Spec PyProof.Rows L2
theorem strL_map_get (w : WN) (s : Int) (n : Nat) (l : List Bool) {k j : Nat} (h : j < k) : ((strL w s n l k).map V.int)[j]? = some (.int (stA w (s, n) (l.take j)).1) := by
  unfold strL
  rw [List.getElem?_map, List.getElem?_map, List.getElem?_range h]; rfl
/-- the first sign of the row behind which nothing is left -/
theorem first_zero {w : WN} (s : Int) (n : Nat) (l : List Bool) (h0 : s ≠ 0) (h1 : (stA w (s, n) l).1 = 0) : ∃ k, k < l.length ∧ (stA w (s, n) (l.take (k + 1))).1 = 0 ∧ ∀ j, j ≤ k → (stA w (s, n) (l.take j)).1 ≠ 0 := by
  have aux : ∀ m, m ≤ l.length → (∃ k, k < l.length ∧ (stA w (s, n) (l.take (k + 1))).1 = 0 ∧ ∀ j, j ≤ k → (stA w (s, n) (l.take j)).1 ≠ 0) ∨ ∀ j, j ≤ m → (stA w (s, n) (l.take j)).1 ≠ 0 := by
    intro m
    induction m with
    | zero => exact fun _ => .inr fun j hj => by obtain rfl : j = 0 := by omega
                                                 exact h0
    | succ m ih =>
      intro hm
      rcases ih (by omega) with h | h
      · exact .inl h
      by_cases z : (stA w (s, n) (l.take (m + 1))).1 = 0
      · exact .inl ⟨m, by omega, z, h⟩
      · refine .inr fun j hj => ?_
        by_cases e : j = m + 1
        · subst e; exact z
        · exact h j (by omega)
  rcases aux l.length (Nat.le_refl _) with h | h
  · exact h
  · exact absurd (by rw [List.take_length]; exact h1) (h l.length (Nat.le_refl _))
section
variable {P : Program} {w : World} {K : PySem.W.Frag} {mg : Str → Option Value} {base : Heap}
def spFate (K : PySem.W.Frag) : Sp := fun vs H Q _ => ∃ a w s l, ∃ n : Nat, vs = [.ref a, .int s, .str (rowS l), .int (n : Nat)] ∧ WaneAt K H a w ∧ 1 ≤ s ∧ s ≤ w.cap ∧ 1 ≤ l.length ∧ l.length ≤ 48 ∧ (n : Int) ≤ 1000000000000000000000000000000 ∧
  (∀ (t k : Nat) u H', Same H H' → H' u = some (.tup [.str "goes", .int (t : Nat), .int (k : Nat)]) → t < 1000000000000 → (rndN w l t (s, n)).1 ≠ 0 → (rndN w l (t + 1) (s, n)).1 = 0 → k < l.length → (stA w (rndN w l t (s, n)) (l.take (k + 1))).1 = 0 → (∀ j, j ≤ k → (stA w (rndN w l t (s, n)) (l.take j)).1 ≠ 0) → Q (.ref u) H') ∧
  (∀ (t : Nat) v u H', Same H H' → H' u = some (.tup [.str "stays", .int (t : Nat), v]) → (rndN w l 1000000000000 (s, n)).1 ≠ 0 → Q (.ref u) H')
theorem fn_fate (T : Txt K mg) {fd : FuncData} (F : FD K d_fate fd) : FnOk P w K mg base C8.CX0 8 (He.fAd K d_fate.at_) fd ["wane", "strength", "row", "since"] (spFate K) := by
  refine F.ok sc_fate (fun vs H Q E h => by obtain ⟨_, _, _, _, _, rfl, _⟩ := h; rfl) fun cdv A outer s H vs Q E hr h => ?_
  obtain ⟨a, w, s, l, n, rfl, hw, s0, s1, l1, l48, hn, q1, q2⟩ := h
  obtain ⟨dx, hh, ht', ea, _, _, ok⟩ := id hw
  have ll := rowS_len l
  refine ⟨_, PSs.nox ((pss_cons (ps_if (pt_not (pt_val (pe_callB call_isi (by rfl) T.b_isinstance (by decide +kernel) (pa_cons (pv 0) (pa_cons (C8.pe_gc (v := .ref (He.ga K "Wane")) rfl ⟨_, T.g_Wane, rfl⟩) pa_nil))))) (pss_one ps_never) pss_nil) (pss_cons (ps_if (PW.pt (pw_or (pt_not (pt_val (C8.pe_c (cal_is_strength T) hr (by decide) rfl (pa_cons (pv 1) pa_nil)))) (pw_or1 (pt_cmpR op_gt (pv 1) (C8.pe_mt0 (met_Wane_cap T) hr (by decide) (pv 0)) (nomark _))))) (pss_one ps_never) pss_nil) (pss_cons (ps_if (PW.pt (pw_or (pt_not (pt_val (C8.pe_c (cal_is_row T) hr (by decide) rfl (pa_cons (pv 2) pa_nil)))) (pw_or1 (pt_not (pt_chain op_le op_le pe_int (pe_callB call_len (by rfl) T.b_len (by decide +kernel) (pa_cons (pv 2) pa_nil)) pe_int))))) (pss_one ps_never) pss_nil) (pss_cons (ps_if (pt_not (pt_val (C8.pe_c (cal_is_moment T) hr (by decide) rfl (pa_cons (pv 3) pa_nil)))) (pss_one ps_never) pss_nil) (C8.pss_cut (ps_set (i := 4) sc_fate.nd rfl (by first | exact Or.inl rfl | exact Or.inr rfl) (C8.pe_mk (mak_Going T) hr (by decide) rfl (pa_cons (pv 0) (pa_cons (pv 1) (pa_cons (pv 2) (pa_cons (pv 3) pa_nil)))))) (C8.pss_cut (ps_if (pt_cmpR op_eq (pe_ix ix_tup (C8.pe_mt (met_Going_behind T) hr (by decide) (pv 4) (pa_cons (C8.pe_gc rfl T.c_FAR) pa_nil)) pe_int (fun _ _ => rfl)) pe_int (nomark _)) (C8.pss_cut (ps_set (i := 5) sc_fate.nd rfl (by first | exact Or.inl rfl | exact Or.inr rfl) (pe_op op_sub (C8.pe_c (cal_least_of T) hr (by decide) rfl (pa_cons (pv 4) (pa_cons pe_bl pa_nil))) pe_int)) (C8.pss_cut (ps_asg (C8.pe_mt (met_Going_behind T) hr (by decide) (pv 4) (pa_cons (pv 5) pa_nil)) (pg_tup rfl (pgs_cons (pg_name (i := 1) sc_fate.nd rfl (by first | exact Or.inl rfl | exact Or.inr rfl)) (pgs_cons (pg_name (i := 3) sc_fate.nd rfl (by first | exact Or.inl rfl | exact Or.inr rfl)) pgs_nil)))) (C8.pss_cut (ps_asg (C8.pe_c (cal_row_walked T) hr (by decide) rfl (pa_cons (pv 0) (pa_cons (pv 1) (pa_cons (pv 2) (pa_cons (pv 3) pa_nil))))) (pg_tup rfl (pgs_cons (pg_name (i := 6) sc_fate.nd rfl (by first | exact Or.inl rfl | exact Or.inr rfl)) (pgs_cons (pg_name (i := 3) sc_fate.nd rfl (by first | exact Or.inl rfl | exact Or.inr rfl)) pgs_nil)))) (pss_one (ps_ret (NW.pe_tupN (pa_cons pe_str (pa_cons (pv 5) (pa_cons (pe_op op_sub (pe_bm PySem.F.plainAttrs_list PySem.F.slot_list_index PySem.F.type_list_index mt_index (pv 6) (pa_cons pe_int pa_nil)) pe_int) pa_nil))))))))) pss_nil) (C8.pss_cut (ps_set (i := 7) sc_fate.nd rfl (by first | exact Or.inl rfl | exact Or.inr rfl) (C8.pe_c (cal_least_of T) hr (by decide) rfl (pa_cons (pv 4) (pa_cons pe_bl pa_nil)))) (pss_one (ps_ret (NW.pe_tupN (pa_cons pe_str (pa_cons (pv 7) (pa_cons (pe_lc (own := [("k", 8)]) (by rfl) sc_fate.nd (pi_range1 (by rfl) T.b_range (pa_cons (pe_fld (pv 4) rfl) pa_nil)) (blkOk_by (own := [("k", 8)]) (N := n_fate) (sc := defScope s_fate) (by decide +kernel)) (fun _ _ _ _ _ => (pg_name (i := 8) sc_fate.nd rfl (by first | exact Or.inl rfl | exact Or.inr rfl))) (fun _ _ _ _ _ => pts_nil) (fun _ _ _ _ _ => (pe_ix (KX.ix_tup (K := K) rfl) (C8.pe_mt (met_Going_behind T) hr (by decide) (pv 4) (pa_cons (pe_op op_add (pv 7) (pv 8)) pa_nil)) pe_int (fun _ _ => rfl)))) pa_nil)))))))))))))), ?_⟩
  refine ⟨_, rfl, _, _, .ref (cW K), _, _, rfl, .own _, knw_wane T hw, T.kit (by simp [tys]) (by simp [cls]), _, rfl, ?_⟩
  rw [show isk (.ref (cW K)) (.ref (cW K)) = true by simp [isk]]
  refine iteF ⟨_, rfl, _, rfl, knw_int _, _, rfl, ?_⟩
  rw [wi_int s0 (Int.le_trans s1 ok.c2)]
  refine iteF ⟨_, rfl, _, rfl, a, dx, _, rfl, ea, by kernel_rfl, a, w, rfl, hw, _, _, rfl, rfl, _, rfl, ?_⟩
  rw [show decide (w.cap < s) = false from decide_eq_false (by omega)]
  refine iteF ⟨_, rfl, l, rfl, by omega, fun H1 S1 => ⟨_, rfl, iteF ⟨_, rfl, _, _, rfl, ⟨small1000 (by omega) |> Nat.le_of_lt, rfl⟩, _, _, rfl, rfl, _, rfl, ?_⟩⟩⟩
  rw [ll, show decide ((1 : Int) ≤ (l.length : Nat)) = true from decide_eq_true (by omega)]
  refine iteT ⟨_, _, rfl, rfl, _, rfl, ?_⟩
  rw [show decide (((l.length : Nat) : Int) ≤ 48) = true from decide_eq_true (by omega)]
  refine iteF ⟨_, rfl, _, rfl, knw_int _, _, rfl, ?_⟩
  rw [wi_int (by omega) hn]
  refine iteF ⟨fun σ H2 => Same H1 H2 ∧ ∃ g set per, σ = [some (.ref a), some (.int s), some (.str (rowS l)), some (.int (n : Nat)), some (.ref g), none, none, none, none] ∧ GoingAt K H2 g w s l n set per, ?_, ?_⟩
  · refine ⟨_, rfl, _, rfl, _, rfl, _, rfl, fun x dx2 nx nd ne => ?_⟩
    refine ⟨H1, x, dx2, a, w, s, l, n, rfl, rfl, nx, nd, ne, hw.mono S1, by omega, s1, l1, l48, fun H2 S2 hg => ⟨rfl, S2, x, _, _, rfl, hg⟩⟩
  rintro σ H2 ⟨S2, g, set, per, rfl, hg⟩
  obtain ⟨dg, aw, fl, ev, vs, eg, _, _, _, _, go⟩ := id hg
  have p24 := go.p24
  obtain ⟨R, hR⟩ : ∃ R, rndN w l 1000000000000 (s, n) = R := ⟨_, rfl⟩
  refine ⟨fun σ H3 => R.1 ≠ 0 ∧ Same H2 H3 ∧ σ = [some (.ref a), some (.int s), some (.str (rowS l)), some (.int (n : Nat)), some (.ref g), none, none, none, none], ?_, ?_⟩
  · refine ⟨_, rfl, g, dg, _, rfl, eg, by kernel_rfl, g, w, s, l, n, set, per, 1000000000000, congrArg (fun z => [V.ref g, V.int z]) (show (1000000000000 : Int) = ((1000000000000 : Nat) : Int) by omega), hg, fun v H3 S3 hp => ?_⟩
    rw [hR] at hp
    obtain ⟨t, rfl, ht⟩ := hp
    refine ⟨t, _, _, _, rfl, rfl, SqT.of ht, rfl, rfl, _, rfl, ite2 (fun z => ?_) fun z => ?_⟩
    · have z : R.1 = 0 := V.int.inj (of_decide_eq_true z)
      refine ⟨fun σ H4 => Same H2 H4 ∧ ∃ k : Nat, k < 1000000000000 ∧ (rndN w l (k + 1) (s, n)).1 = 0 ∧ (rndN w l k (s, n)).1 ≠ 0 ∧ σ = [some (.ref a), some (.int s), some (.str (rowS l)), some (.int (n : Nat)), some (.ref g), some (.int (k : Nat)), none, none, none], ?_, ?_⟩
      · refine ⟨_, rfl, g, w, s, l, n, set, per, true, rfl, hg.mono S3, (fun _ => by rw [hR]; exact z), fun k H4 hk S4 hkk => ⟨_, _, rfl, rfl, ?_⟩⟩
        obtain ⟨c1, c2⟩ := hkk rfl
        match k, hk, c1, c2 with
        | 0, _, c1, _ => exact absurd c1 (by show s ≠ 0; omega)
        | k + 1, hk, c1, c2 =>
          refine ⟨S3.trans S4, k, by omega, c1, c2 k rfl, ?_⟩
          show [_, _, _, _, _, some (V.int (((k + 1 : Nat) : Int) - 1)), _, _, _] = _
          rw [show ((k + 1 : Nat) : Int) - 1 = (k : Nat) by omega]
      rintro σ H4 ⟨S4, k, kl, k1, k0, rfl⟩
      have bd := rndN_ok ok (show 0 ≤ s by omega) s1 l n k
      refine ⟨fun σ H5 => Same H2 H5 ∧ σ = [some (.ref a), some (.int (rndN w l k (s, n)).1), some (.str (rowS l)), some (.int ((rndN w l k (s, n)).2 : Nat)), some (.ref g), some (.int (k : Nat)), none, none, none], ?_, ?_⟩
      · refine ⟨_, rfl, g, dg, _, rfl, S4 _ _ eg, by kernel_rfl, _, rfl, g, w, s, l, n, set, per, k, rfl, hg.mono S4, fun v H5 S5 hp => ?_⟩
        obtain ⟨t, rfl, ht⟩ := hp
        exact ⟨t, _, rfl, SqT.of ht, rfl, _, _, rfl, _, _, rfl, rfl, S4.trans S5, rfl⟩
      rintro σ H5 ⟨S5, rfl⟩
      obtain ⟨fz, f1, f2, f3⟩ := first_zero (w := w) (rndN w l k (s, n)).1 (rndN w l k (s, n)).2 l k0 (by
        show (stA w (rndN w l k (s, n)) l).1 = 0
        rw [← rndN_succ]; exact k1)
      refine ⟨fun σ H6 => Same H2 H6 ∧ ∃ ls sn, H6 ls = some (.lst ((strL w (rndN w l k (s, n)).1 (rndN w l k (s, n)).2 l (l.length + 1)).map V.int)) ∧ σ = [some (.ref a), some (.int (rndN w l k (s, n)).1), some (.str (rowS l)), some (.int sn), some (.ref g), some (.int (k : Nat)), some (.ref ls), none, none], ?_, ?_⟩
      · refine ⟨_, rfl, _, rfl, _, rfl, _, rfl, a, w, _, l, _, rfl, ((hw.mono S1).mono S2).mono S5, bd.1, bd.2, by omega, fun t ls H6 S6 ht hls => ?_⟩
        exact ⟨t, _, rfl, SqT.of ht, rfl, _, _, rfl, _, _, rfl, rfl, S5.trans S6, ls, _, hls, rfl⟩
      rintro σ H6 ⟨S6, ls, sn, hls, rfl⟩
      refine ⟨_, rfl, _, rfl, .inl ⟨rfl, _, SqL.of hls⟩, ls, _, _, fz + 1, _, rfl, rfl, SqL.of hls, rfl, ?_, strL_map_get w _ _ l (by omega), ?_, ?_, ?_⟩
      · exact List.all_eq_true.mpr fun x hx => by
          obtain ⟨i, _, rfl⟩ := List.mem_map.mp hx
          rfl
      · rw [f2]; rfl
      · intro m z' hm hz
        rw [strL_map_get w _ _ l (by omega)] at hz
        cases hz
        have := f3 m (by omega)
        exact decide_eq_false this
      · refine ⟨_, _, rfl, rfl, by show 3 ≤ sizeLine; decide, fun u H7 nu S7 hu => q1 k fz u H7 (((S1.trans S2).trans S6).trans S7) ?_ kl k0 k1 f1 f2 f3⟩
        rw [hu]
        show some (HO.tup [_, _, V.int (((fz + 1 : Nat) : Int) - 1)]) = _
        rw [show ((fz + 1 : Nat) : Int) - 1 = (fz : Nat) by omega]
    · have z : R.1 ≠ 0 := fun y => z (decide_eq_true (congrArg V.int y))
      exact ⟨z, S3, rfl⟩
  rintro σ H3 ⟨z, S3, rfl⟩
  refine ⟨fun σ H4 => Same H2 H4 ∧ ∃ k : Nat, σ = [some (.ref a), some (.int s), some (.str (rowS l)), some (.int (n : Nat)), some (.ref g), none, none, some (.int (k : Nat)), none], ?_, ?_⟩
  · exact ⟨_, rfl, g, w, s, l, n, set, per, false, rfl, hg.mono S3, (fun z => by cases z), fun k H4 hk S4 _ => ⟨S3.trans S4, k, rfl⟩⟩
  rintro σ H4 ⟨S4, k, rfl⟩
  refine ⟨_, rfl, _, rfl, g, _, dg, _, _, rfl, S4 _ _ eg, T.cl_Going, T.n_Going_period, gF_period .., _, rfl, by omega, by omega, fun D nD => ?_⟩
  refine lc_it walk_range (fun i H' => Same H4 H' ∧ ∃ vs, H' D = some (.lst vs) ∧ vs.length = i) ⟨same_new nD, [], upd_same, rfl⟩ (fun _ _ _ _ => trivial) ?_ ?_
  · rintro i x H5 H6 hi ⟨S5, vs, hv, hl⟩ ⟨rfl, rfl⟩
    refine ⟨rfl, ⟨_, rfl, g, dg, _, rfl, S5 _ _ (S4 _ _ eg), by kernel_rfl, _, rfl, _, rfl, _, _, rfl, rfl, g, w, s, l, n, set, per, k + i, ?_, (hg.mono S4).mono S5, fun v H7 S7 hp => ?_⟩⟩
    · show [V.ref g, V.int ((k : Nat) + (0 + (i : Nat)))] = _
      rw [show ((k : Nat) : Int) + (0 + (i : Nat)) = ((k + i : Nat) : Int) by omega]
    obtain ⟨t, rfl, ht⟩ := hp
    refine ⟨t, _, _, _, rfl, rfl, SqT.of ht, rfl, vs, S7 _ _ hv, ?_, ?_⟩
    · rw [hl]; have := Nat.lt_trans hi (by omega : per < 1000); exact small1000 (Nat.le_of_lt this)
    · exact ⟨(fun b u e => by rw [upd_ne (ne_of_none e nD)]; exact (S5.trans S7) b u e), _, upd_same, by simp [hl]⟩
  · rintro H5 ⟨S5, vs, hv, hl⟩
    exact ⟨by show 3 ≤ sizeLine; decide, fun u H6 nu S6 hu => q2 k _ u H6 (((((S1.trans S2).trans S4).trans S5)).trans S6) hu (by rw [hR]; exact z)⟩
theorem cal_fate (T : Txt K mg) : C8.Cal P w K mg base 8 "fate" (spFate K) [.int 0] := by
  obtain ⟨fd, F⟩ := T.f_fate
  obtain ⟨ds, hv, b⟩ := F.binds0 (ps := ["wane", "strength", "row", "since"]) 3 (by simp [He.DefD.kws, d_fate]) rfl (fun D doc pm an cdv ct us ks l1 l2 => by
    match us, ks, l1, l2 with
    | [_, _, _], [_], _, _ => exact ⟨_, _, _, _, _, _, rfl, rfl, rfl⟩)
  exact ⟨_, fd, _, ds, fn_fate T F, T.g_fate, F.kp, b, hv⟩
theorem cal_along (T : Txt K mg) : C8.Cal P w K mg base 4 "along" (spAlong K) [.int 0] := by
  obtain ⟨fd, F⟩ := T.f_along
  obtain ⟨ds, hv, b⟩ := F.binds0 (ps := ["wane", "strength", "row", "since"]) 3 (by simp [He.DefD.kws, d_along]) rfl (fun D doc pm an cdv ct us ks l1 l2 => by
    match us, ks, l1, l2 with
    | [_, _, _], [_], _, _ => exact ⟨_, _, _, _, _, _, rfl, rfl, rfl⟩)
  exact ⟨_, fd, _, ds, fn_along T F, T.g_along, F.kp, b, hv⟩
end
end WH

set_option maxHeartbeats 4000000
namespace WH
open PySem PySem.Spec PyProof.Rows L2
namespace KX
theorem pg_tup {X : Cx} {K : PySem.W.Frag} {pos : Pos} (hk : X.K = K) {es : List Expr} {k : Nat} {t : TGs} {n : Nat} (hc : X.calm = true) (h : PGs X es t)
    (hn : (assignEach es X.env).length = n := by rfl) (hst : (assignEach es X.env).findIdx? (·.1) = none := by rfl) : PG X (.Tuple es k pos) (gTup K n t) := by subst hk; exact L2.pg_tup hc h hn hst
end KX
def numS (i : Int) : Str := Str.ofString (toString i)
def wordOf (x : Int × Int) : Str := ((Str.empty ++ numS x.1) ++ ("-" : Str)) ++ numS x.2
def moreS (w : WN) : List Str := ["cap", numS w.cap, "lift", numS w.lift, if w.anew then "anew" else "on"]
def wordsW (w : WN) : List Str := w.head.map wordOf ++ (["|"] : List Str) ++ w.tail.map wordOf ++ moreS w
def textW (w : WN) : Str := Txt.join " " (wordsW w)
theorem numS_len {i : Int} (h0 : 0 ≤ i) (h1 : i ≤ 1000000000) : (numS i).length ≤ 10 := by
  obtain ⟨n, rfl⟩ := Int.eq_ofNat_of_zero_le h0
  show (Str.ofString (toString ((n : Nat) : Int))).length ≤ 10
  rw [TL.len_tl, TL.tl_num]
  exact TL.numL_len (by decide) (by omega)
section
variable {P : Program} {w : World} {K : PySem.W.Frag} {mg : Str → Option Value} {base : Heap}
theorem log_small {i : Int} (h0 : 0 ≤ i) (h1 : i ≤ 1000000000) : i.natAbs.log2 < 1920 := by
  have h : i.natAbs < 2 ^ 30 := by omega
  rcases Nat.eq_zero_or_pos i.natAbs with z | z
  · rw [z]; decide
  · have := (Nat.log2_lt (by omega)).mpr h
    omega
theorem map_strs (a b : List Str) : a.map V.str ++ b.map V.str = (a ++ b).map V.str := List.map_append.symm
theorem len_app (a b : Str) : (a ++ b).length = a.length + b.length := by rw [TL.len_tl, TL.tl_append, List.length_append, ← TL.len_tl, ← TL.len_tl]
theorem word_len {x : Int × Int} (h : okS x) : (wordOf x).length ≤ 21 := by
  obtain ⟨a, b, c, d⟩ := h
  have h1 := numS_len (i := x.1) (by omega) (by omega)
  have h2 := numS_len (i := x.2) c d
  unfold wordOf
  rw [len_app, len_app, len_app]
  have : (Str.empty).length = 0 := rfl
  have : ("-" : Str).length = 1 := by decide +kernel
  omega
theorem sum_le {k : Nat} : ∀ l : List Str, (∀ x ∈ l, x.length ≤ k) → (l.map (·.length)).sum ≤ l.length * k
  | [], _ => by simp
  | x :: r, h => by
    have h1 := h x (List.mem_cons_self ..)
    have h2 := sum_le r fun y hy => h y (List.mem_cons_of_mem _ hy)
    rw [List.map_cons, List.sum_cons, List.length_cons, Nat.add_mul]
    omega
theorem more_len {w : WN} (ok : okW w) : ∀ x ∈ moreS w, x.length ≤ 21 := by
  have h1 := numS_len (i := w.cap) (by have := ok.c1; omega) ok.c2
  have h2 := numS_len (i := w.lift) ok.l1 ok.l2
  have e1 : ("cap" : Str).length = 3 := by decide +kernel
  have e2 : ("lift" : Str).length = 4 := by decide +kernel
  have e3 : ("anew" : Str).length = 4 := by decide +kernel
  have e4 : ("on" : Str).length = 2 := by decide +kernel
  intro x hx
  unfold moreS at hx
  simp only [List.mem_cons, List.not_mem_nil, or_false] at hx
  rcases hx with rfl | rfl | rfl | rfl | rfl
  · omega
  · omega
  · omega
  · omega
  · split <;> omega
theorem words_len {w : WN} (ok : okW w) : ∀ x ∈ wordsW w, x.length ≤ 21 := by
  have e1 : ("|" : Str).length = 1 := by decide +kernel
  intro x hx
  unfold wordsW at hx
  simp only [List.mem_append, List.mem_map, List.mem_singleton] at hx
  rcases hx with ((⟨y, hy, rfl⟩ | rfl) | ⟨y, hy, rfl⟩) | hx
  · exact word_len (ok.h y hy)
  · omega
  · exact word_len (ok.t y hy)
  · exact more_len ok x hx
theorem words_many {w : WN} (ok : okW w) : (wordsW w).length ≤ 54 := by
  have hl := ok.hl
  obtain ⟨_, tl⟩ := tails_le ok.tl
  unfold wordsW
  rw [List.length_append, List.length_append, List.length_append, List.length_map, List.length_map, List.length_singleton]
  show _ + 5 ≤ _
  omega
theorem words_lc {H : Hp} {p : Addr} {xs : List (Int × Int)} (hs : Steps H p xs) (ok : ∀ x ∈ xs, okS x) (hl : xs.length ≤ 24) {te : TE} {o0 o1 o2 o3 : Option V} (hte : ∀ R : VK, R (.ref p) H → te [o0, o1, o2, o3] H R) {Q : VK}
    (q : ∀ D H', H D = none → Same H H' → H' D = some (.lst ((xs.map wordOf).map V.str)) → Q (.ref D) H') :
    tLc (iList K te) (gTup K 2 (gCons (gName 2) (gCons (gName 3) gNil))) tYes (fun σ H Q => tJs [tFmt (tVar 2), tC (.str ("-" : Str)), tFmt (tVar 3)] Str.empty σ H fun out H1 => Q (.str out) H1) [2, 3] [o0, o1, o2, o3] H Q := by
  obtain ⟨vs, hv, hp⟩ := hs
  refine hte _ ⟨p, rfl, ⟨_, SqL.of hv⟩, fun D nD => ?_⟩
  have le := paired_len hp
  refine lc_it (g := gTup K 2 (gCons (gName 2) (gCons (gName 3) gNil))) (tt := tYes) (te := fun σ H Q => tJs [tFmt (tVar 2), tC (.str ("-" : Str)), tFmt (tVar 3)] Str.empty σ H fun out H1 => Q (.str out) H1) (vs := [2, 3]) (σ := [o0, o1, o2, o3]) (Qd := Q (.ref D)) (walk_list (K := K) (xs := vs)) (fun i H' => Same H H' ∧ H' D = some (.lst (((xs.take i).map wordOf).map V.str))) ⟨same_new nD, upd_same⟩ (fun i H' _ h => SqL.of (h.1 _ _ hv)) ?_ ?_
  · rintro i x H3 H4 hi ⟨S3, hD⟩ ⟨rfl, hy⟩
    obtain ⟨r, hr, t, rfl, ht⟩ := paired_get hp hy
    obtain ⟨a1, a2, a3, a4⟩ := ok r (List.mem_of_getElem? hr)
    refine ⟨t, _, rfl, SqT.of (S3 _ _ ht), rfl, _, _, rfl, _, _, rfl, rfl, rfl, ?_⟩
    have h1 := numS_len (i := r.1) (by omega) (by omega)
    have h2 := numS_len (i := r.2) a3 a4
    have e0 : (Str.empty).length = 0 := rfl
    have e1 : ("-" : Str).length = 1 := by decide +kernel
    have lt : (((xs.take i).map wordOf).map V.str).length ≤ 24 := by simp; omega
    have yz1 : (Str.empty ++ numS r.1).length ≤ 1000 := by rw [len_app]; omega
    have z1 := Nat.le_of_lt (small1000 yz1)
    have yz2 : ((Str.empty ++ numS r.1) ++ ("-" : Str)).length ≤ 1000 := by rw [len_app, len_app]; omega
    have z2 := Nat.le_of_lt (small1000 yz2)
    have yz3 : (((Str.empty ++ numS r.1) ++ ("-" : Str)) ++ numS r.2).length ≤ 1000 := by rw [len_app, len_app, len_app]; omega
    have z3 := Nat.le_of_lt (small1000 yz3)
    refine ⟨_, rfl, .inr ⟨r.1, rfl, log_small (by omega) (by omega), numS r.1, rfl, z1, ("-" : Str), rfl, z2, _, rfl, .inr ⟨r.2, rfl, log_small a3 a4, numS r.2, rfl, z3, ?_⟩⟩⟩
    refine ⟨_, hD, small1000 (by omega), Same.mut S3 nD, ?_⟩
    rw [upd_same, take_snoc hr, List.map_append, List.map_append]; rfl
  · rintro H3 ⟨S3, hD⟩
    rw [le, List.take_length] at hD
    exact q D H3 nD S3 hD
def spText (K : PySem.W.Frag) : Sp := fun vs H Q _ => ∃ a w, vs = [.ref a] ∧ WaneAt K H a w ∧ ∀ H', Same H H' → Q (.str (textW w)) H'
theorem met_Wane_text (T : Txt K mg) : C8.Met P w K mg base 1 (He.ga K "Wane") "text" (spText K) [] := by
  refine metD T.f_Wane_text T.cl_Wane T.m_Wane_text sc_Wane_text (fun fd F => F.bindsN fun _ _ _ _ _ _ us hl => match us, hl with | [_], _ => rfl) (fun vs H Q E h => by obtain ⟨_, _, rfl, _⟩ := h; rfl) fun cdv A outer s H vs Q E hr h => ?_
  refine ⟨_, (C8.pss_cut (ps_setLc (i := 1) (own := [("by", 2), ("take", 3)]) (by rfl) sc_Wane_text.nd rfl rfl (sw_true rfl rfl rfl (by decide +kernel)) (pi_list (pe_fld (pv 0) rfl)) (blkOk_by (own := [("by", 2), ("take", 3)]) (N := n_Wane_text) (sc := defScope s_Wane_text) (by decide +kernel)) (fun _ _ _ _ _ => (KX.pg_tup (K := K) (n := 2) rfl rfl (pgs_cons (pg_name (i := 2) sc_Wane_text.nd rfl (by first | exact Or.inl rfl | exact Or.inr rfl)) (pgs_cons (pg_name (i := 3) sc_Wane_text.nd rfl (by first | exact Or.inl rfl | exact Or.inr rfl)) pgs_nil)))) (fun _ _ _ _ _ => pts_nil) (fun _ _ _ _ _ => (pe_joined (.cons (pe_fmt (pv 2)) (.cons pe_str (.cons (pe_fmt (pv 3)) .nil)))))) (C8.pss_cut (ps_expr (pe_bm PySem.F.plainAttrs_list PySem.F.slot_list_append PySem.F.type_list_append mt_append (pv 1) (pa_cons pe_str pa_nil))) (C8.pss_cut (ps_expr (pe_bm PySem.F.plainAttrs_list PySem.F.slot_list_extend PySem.F.type_list_extend mt_extend (pv 1) (pa_cons (pe_lc (own := [("by", 2), ("take", 3)]) (by rfl) sc_Wane_text.nd (pi_list (pe_fld (pv 0) rfl)) (blkOk_by (own := [("by", 2), ("take", 3)]) (N := n_Wane_text) (sc := defScope s_Wane_text) (by decide +kernel)) (fun _ _ _ _ _ => (KX.pg_tup (K := K) (n := 2) rfl rfl (pgs_cons (pg_name (i := 2) sc_Wane_text.nd rfl (by first | exact Or.inl rfl | exact Or.inr rfl)) (pgs_cons (pg_name (i := 3) sc_Wane_text.nd rfl (by first | exact Or.inl rfl | exact Or.inr rfl)) pgs_nil)))) (fun _ _ _ _ _ => pts_nil) (fun _ _ _ _ _ => (pe_joined (.cons (pe_fmt (pv 2)) (.cons pe_str (.cons (pe_fmt (pv 3)) .nil)))))) pa_nil))) (C8.pss_cut (ps_expr (pe_bm PySem.F.plainAttrs_list PySem.F.slot_list_extend PySem.F.type_list_extend mt_extend (pv 1) (pa_cons (NW.pe_lstN (pa_cons pe_str (pa_cons (pe_callTy call_str_int (by rfl) T.b_str (by decide +kernel) (pa_cons (pe_fld (pv 0) rfl) pa_nil)) (pa_cons pe_str (pa_cons (pe_callTy call_str_int (by rfl) T.b_str (by decide +kernel) (pa_cons (pe_fld (pv 0) rfl) pa_nil)) pa_nil))))) pa_nil))) (C8.pss_cut (ps_expr (pe_bm PySem.F.plainAttrs_list PySem.F.slot_list_append PySem.F.type_list_append mt_append (pv 1) (pa_cons (pe_ifExp (pt_val (pe_fld (pv 0) rfl)) pe_str pe_str) pa_nil))) (pss_one (ps_ret (pe_join pe_str (pv 1))))))))), ?_⟩
  obtain ⟨a, w, rfl, hw, q⟩ := h
  obtain ⟨dx, hh, ht, ea, sh, st, ok⟩ := id hw
  have hl := ok.hl
  obtain ⟨_, tl⟩ := tails_le ok.tl
  have c1 := ok.c1
  have c2 := ok.c2
  refine ⟨fun σ H' => Same H H' ∧ ∃ D, H D = none ∧ H' D = some (.lst ((w.head.map wordOf).map V.str)) ∧ σ = [some (.ref a), some (.ref D), none, none], ?_, ?_⟩
  · refine words_lc sh ok.h hl (fun R r => ⟨_, rfl, a, _, dx, _, _, rfl, ea, T.cl_Wane, T.n_Wane_head_steps, wF_head .., r⟩) fun D H' nD S hD => ⟨S, D, nD, hD, rfl⟩
  rintro σ H1 ⟨S1, D, nD, hD, rfl⟩
  refine ⟨fun σ H' => Same H H' ∧ H' D = some (.lst ((w.head.map wordOf ++ (["|"] : List Str)).map V.str)) ∧ σ = [some (.ref a), some (.ref D), none, none], ?_, ?_⟩
  · refine ⟨_, rfl, .inl ⟨rfl, _, SqL.of hD⟩, D, _, _, rfl, rfl, hD, small1000 (by simp; omega), Same.mut S1 nD, ?_, rfl⟩
    rw [upd_same, List.map_append]; rfl
  rintro σ H2 ⟨S2, hD, rfl⟩
  refine ⟨fun σ H' => Same H H' ∧ H' D = some (.lst ((w.head.map wordOf ++ (["|"] : List Str) ++ w.tail.map wordOf).map V.str)) ∧ σ = [some (.ref a), some (.ref D), none, none], ?_, ?_⟩
  · refine ⟨_, rfl, .inl ⟨rfl, _, SqL.of hD⟩, ?_⟩
    refine words_lc (st.mono S2) ok.t tl (fun R r => ⟨_, rfl, a, _, dx, _, _, rfl, S2 _ _ ea, T.cl_Wane, T.n_Wane_tail_steps, wF_tail .., r⟩) fun E H' nE S hE => ?_
    have l2 : ((w.head.map wordOf ++ (["|"] : List Str)).map V.str).length + ((w.tail.map wordOf).map V.str).length ≤ sizeLine := by
      refine Nat.le_trans (m := 100) ?_ (by decide)
      rw [List.length_map, List.length_append, List.length_map, List.length_map, List.length_map, List.length_singleton]
      omega
    refine ⟨D, E, _, _, rfl, rfl, S _ _ hD, hE, l2, Same.mut (S2.trans S) nD, ?_, rfl⟩
    rw [upd_same, map_strs]
  rintro σ H3 ⟨S3, hD, rfl⟩
  refine ⟨fun σ H' => Same H H' ∧ H' D = some (.lst ((w.head.map wordOf ++ (["|"] : List Str) ++ w.tail.map wordOf ++ ([("cap" : Str), numS w.cap, "lift", numS w.lift] : List Str)).map V.str)) ∧ σ = [some (.ref a), some (.ref D), none, none], ?_, ?_⟩
  · refine ⟨_, rfl, .inl ⟨rfl, _, SqL.of hD⟩, ?_⟩
    refine ⟨_, rfl, a, _, dx, _, _, rfl, S3 _ _ ea, T.cl_Wane, T.n_Wane_cap_at, wF_cap .., _, rfl, log_small (by omega) c2, _, rfl, a, _, dx, _, _, rfl, S3 _ _ ea, T.cl_Wane, T.n_Wane_lift_by, wF_lift .., _, rfl, log_small ok.l1 ok.l2, by show 4 ≤ sizeLine; decide, fun E H4 nE S4 hE => ?_⟩
    have l3 : ((w.head.map wordOf ++ (["|"] : List Str) ++ w.tail.map wordOf).map V.str).length + 4 ≤ sizeLine := by
      refine Nat.le_trans (m := 100) ?_ (by decide)
      rw [List.length_map, List.length_append, List.length_append, List.length_map, List.length_map, List.length_singleton]
      omega
    refine ⟨D, E, _, _, rfl, rfl, S4 _ _ hD, hE, l3, Same.mut (S3.trans S4) nD, ?_, rfl⟩
    rw [upd_same]; exact congrArg (fun z => some (HO.lst z)) (map_strs (w.head.map wordOf ++ (["|"] : List Str) ++ w.tail.map wordOf) ([("cap" : Str), numS w.cap, "lift", numS w.lift] : List Str))
  rintro σ H4 ⟨S4, hD, rfl⟩
  refine ⟨fun σ H' => Same H H' ∧ H' D = some (.lst ((wordsW w).map V.str)) ∧ σ = [some (.ref a), some (.ref D), none, none], ?_, ?_⟩
  · refine ⟨_, rfl, .inl ⟨rfl, _, SqL.of hD⟩, ?_⟩
    have lz : ((w.head.map wordOf ++ (["|"] : List Str) ++ w.tail.map wordOf ++ ([("cap" : Str), numS w.cap, "lift", numS w.lift] : List Str)).map V.str).length < sizeLine := by
      refine Nat.lt_of_le_of_lt (m := 100) ?_ (by decide)
      rw [List.length_map, List.length_append, List.length_append, List.length_append, List.length_map, List.length_map, List.length_singleton]
      show _ + 4 ≤ _
      omega
    refine ⟨_, rfl, a, _, dx, _, _, rfl, S4 _ _ ea, T.cl_Wane, T.n_Wane_begins, wF_anew .., _, rfl, ?_⟩
    have e : ∀ x : Str, x = (if w.anew then ("anew" : Str) else "on") → (w.head.map wordOf ++ (["|"] : List Str) ++ w.tail.map wordOf ++ ([("cap" : Str), numS w.cap, "lift", numS w.lift] : List Str)).map V.str ++ [V.str x] = (wordsW w).map V.str := by
      rintro x rfl
      unfold wordsW moreS
      simp
    cases an : w.anew with
    | true => exact iteT ⟨D, _, _, rfl, rfl, hD, lz, Same.mut S4 nD, by rw [upd_same, e _ (by rw [an]; rfl)], rfl⟩
    | false => exact iteF ⟨D, _, _, rfl, rfl, hD, lz, Same.mut S4 nD, by rw [upd_same, e _ (by rw [an]; rfl)], rfl⟩
  rintro σ H5 ⟨S5, hD, rfl⟩
  refine ⟨⟨_, rfl⟩, _, rfl, _, D, wordsW w, rfl, rfl, .inl (SqL.of hD), ?_, q H5 S5⟩
  have l1 := sum_le (k := 21) (wordsW w) (words_len ok)
  have l2 := words_many ok
  have e1 : (" " : Str).length = 1 := by decide +kernel
  rw [e1]
  omega
end
end WH

set_option maxHeartbeats 4000000
namespace WH
open PySem PySem.Spec PyProof.Rows L2
theorem numS_tl (n : Nat) : TL.tl (numS (n : Int)) = TL.numL n := TL.tl_num n
theorem numL_head {n : Nat} (h : 1 ≤ n) : (TL.numL n)[0]? ≠ some 48 := by
  induction n using Nat.strongRecOn with
  | _ n ih =>
    by_cases c : n < 10
    · rw [TL.numL_lt c]
      simp; omega
    · rw [TL.numL_step (by omega), List.getElem?_append_left (List.length_pos_iff.mpr (TL.numL_ne _))]
      exact ih (n / 10) (by omega) (by omega)
section
variable {P : Program} {w : World} {K : PySem.W.Frag} {mg : Str → Option Value} {base : Heap}
def spFigures (K : PySem.W.Frag) : Sp := fun vs H Q _ => ∃ i, vs = [.str (numS i)] ∧ 0 ≤ i ∧ i ≤ 1000000000 ∧ ∀ H', Same H H' → Q (.int i) H'
theorem cal_figures_of (T : Txt K mg) : C8.Cal P w K mg base 1 "figures_of" (spFigures K) [] := by
  refine calD T.f_figures_of T.g_figures_of sc_figures_of (fun fd F => F.bindsN fun _ _ _ _ _ _ us hl => match us, hl with | [_], _ => rfl) (fun vs H Q E h => by obtain ⟨_, rfl, _⟩ := h; rfl) fun cdv A outer s H vs Q E hr h => ?_
  refine ⟨_, (pss_cons (ps_if (PW.pt (pw_or (pt_not (pt_chain op_le op_le pe_int (pe_callB call_len (by rfl) T.b_len (by decide +kernel) (pa_cons (pv 0) pa_nil)) pe_int)) (pw_or1 (pt_not (pt_val (pe_callB (cr_all rfl) (by rfl) T.b_all (by decide +kernel) (pa_cons (pe_lc (own := [("sign", 1)]) (by rfl) sc_figures_of.nd (pi_str (pv 0)) (blkOk_by (own := [("sign", 1)]) (N := n_figures_of) (sc := defScope s_figures_of) (by decide +kernel)) (fun _ _ _ _ _ => (pg_name (i := 1) sc_figures_of.nd rfl (by first | exact Or.inl rfl | exact Or.inr rfl))) (fun _ _ _ _ _ => pts_nil) (fun _ _ _ _ _ => (pe_cmpR op_in_sign (pv 1) (C8.pe_gc rfl T.c_FIGURES) rfl))) pa_nil))))))) (pss_one (ps_ret pe_non)) pss_nil) (C8.pss_cut (ps_if (PW.pt (pw_and (pt_cmpR op_eq (pe_ix ix_str (pv 0) pe_int (fun _ _ => rfl)) pe_str (nomark _)) (pw_and1 (pt_cmpR op_gt (pe_callB call_len (by rfl) T.b_len (by decide +kernel) (pa_cons (pv 0) pa_nil)) pe_int (nomark _))))) (pss_one (ps_ret pe_non)) pss_nil) (pss_one (ps_ret (pe_callTy call_int_str (by rfl) T.b_int (by decide +kernel) (pa_cons (pv 0) pa_nil)))))), ?_⟩
  obtain ⟨i, rfl, i0, i1, q⟩ := h
  obtain ⟨n, rfl⟩ := Int.eq_ofNat_of_zero_le i0
  have l10 := numS_len i0 i1
  have ll := TL.len_tl (numS (n : Int))
  rw [numS_tl] at ll
  have l1 : 1 ≤ (numS (n : Int)).length := by rw [ll]; exact List.length_pos_iff.mpr (TL.numL_ne n)
  refine ⟨_, rfl, _, _, rfl, ⟨Nat.le_of_lt (small1000 (by omega)), rfl⟩, _, _, rfl, rfl, _, rfl, ?_⟩
  rw [show decide ((1 : Int) ≤ ((numS (n : Int)).length : Nat)) = true from decide_eq_true (by omega)]
  refine iteT ⟨_, _, rfl, rfl, _, rfl, ?_⟩
  rw [show decide ((((numS (n : Int)).length : Nat) : Int) ≤ 400) = true from decide_eq_true (by omega)]
  refine iteF ⟨_, rfl, _, rfl, fun D hD => ?_⟩
  refine lc_it walk_str (fun i H' => Same H H' ∧ H' D = some (.lst ((List.replicate i true).map V.bl))) ⟨same_new hD, upd_same⟩ (fun _ _ _ _ => trivial) ?_ ?_
  · rintro i x H1 H' hi ⟨s, hd⟩ ⟨rfl, c, hc, rfl⟩
    have hcc : 48 ≤ c ∧ c ≤ 57 := TL.numL_digits n c (by rw [← numS_tl]; exact List.mem_of_getElem? (i := i) (show (numS (n : Int)).cps.toList[i]? = some c from (Array.getElem?_toList ..).trans hc))
    refine ⟨rfl, _, rfl, c, _, rfl, rfl, _, hd, ?_, ?_, ?_⟩
    · rw [List.length_map, List.length_replicate]
      exact small1000 (by have : i < (numS (n : Int)).length := hi; omega)
    · exact Same.mut s hD
    · have : decide (c ∈ ("0123456789" : Str).cps.toList) = true := by
        obtain ⟨d, rfl, hd⟩ : ∃ d, c = 48 + d ∧ d < 10 := ⟨c - 48, by omega, by omega⟩
        match d, hd with
        | 0, _ => decide +kernel
        | 1, _ => decide +kernel
        | 2, _ => decide +kernel
        | 3, _ => decide +kernel
        | 4, _ => decide +kernel
        | 5, _ => decide +kernel
        | 6, _ => decide +kernel
        | 7, _ => decide +kernel
        | 8, _ => decide +kernel
        | 9, _ => decide +kernel
      rw [upd_same, List.replicate_succ', List.map_append, this]; rfl
  rintro H1 ⟨S1, hd⟩
  refine ⟨D, _, rfl, SqL.of hd, _, rfl, ?_⟩
  rw [all_true]
  refine iteF ⟨fun σ H' => Same H H' ∧ σ = [some (.str (numS (n : Int))), none], ?_, ?_⟩
  · obtain ⟨c, hc⟩ : ∃ c, (TL.numL n)[0]? = some c := by
      cases e : (TL.numL n)[0]? with
      | some c => exact ⟨c, rfl⟩
      | none => exact absurd (List.getElem?_eq_none_iff.mp e) (by omega)
    refine ⟨_, rfl, _, _, c, rfl, rfl, Nat.le_of_lt (small1000 (by omega)), ?_, rfl, _, rfl, ite2 (fun z => ?_) fun _ => ⟨S1, rfl⟩⟩
    · have : (numS (n : Int)).cps.toList = TL.numL n := numS_tl n
      rw [this]; exact atI_nat (j := 0) hc
    have n0 : n = 0 := by
      rcases Nat.eq_zero_or_pos n with e | e
      · exact e
      · have z := V.str.inj (of_decide_eq_true z)
        have z : c = 48 := by
          have := congrArg (fun s : Str => s.cps.toList) z
          exact List.head_eq_of_cons_eq this
        rw [z] at hc
        exact absurd hc (numL_head e)
    subst n0
    refine ⟨_, rfl, _, _, rfl, ⟨Nat.le_of_lt (small1000 (by omega)), rfl⟩, _, _, rfl, rfl, _, rfl, ?_⟩
    rw [show decide ((1 : Int) < ((numS ((0 : Nat) : Int)).length : Nat)) = false by decide +kernel]
    exact iteF ⟨S1, rfl⟩
  rintro σ H2 ⟨S2, rfl⟩
  exact ⟨_, rfl, _, _, rfl, TL.int_num (by omega), by omega, q H2 S2⟩
theorem split_word {x : Int × Int} (h : okS x) : Txt.split (wordOf x) "-" = [numS x.1, numS x.2] := by
  obtain ⟨a, b, c, d⟩ := h
  obtain ⟨m, hm⟩ := Int.eq_ofNat_of_zero_le (show 0 ≤ x.1 by omega)
  obtain ⟨n, hn⟩ := Int.eq_ofNat_of_zero_le c
  have e : wordOf x = Txt.join "-" [numS x.1, numS x.2] := by
    refine TL.ext_tl ?_
    unfold wordOf
    rw [TL.join_eq, TL.tl_join, TL.tl_append, TL.tl_append, TL.tl_append]
    show ([] ++ TL.tl (numS x.1) ++ TL.tl ("-" : Str)) ++ TL.tl (numS x.2) = TL.tl (numS x.1) ++ (TL.tl ("-" : Str) ++ TL.joinL (TL.tl ("-" : Str)) [TL.tl (numS x.2)])
    rw [List.nil_append, List.append_assoc]; rfl
  rw [e, TL.split_join (s := 45) (S := []) (by decide +kernel) (by decide +kernel) (by simp)]
  intro p hp
  simp only [List.mem_cons, List.not_mem_nil, or_false] at hp
  rcases hp with rfl | rfl
  · rw [hm, numS_tl]; exact TL.numL_free (by decide)
  · rw [hn, numS_tl]; exact TL.numL_free (by decide)
def spStepOf (K : PySem.W.Frag) : Sp := fun vs H Q _ => ∃ x, vs = [.str (wordOf x)] ∧ okS x ∧ ∀ v H', Same H H' → StepV H' v x → Q v H'
theorem cal_step_of (T : Txt K mg) : C8.Cal P w K mg base 5 "step_of" (spStepOf K) [] := by
  refine calD T.f_step_of T.g_step_of sc_step_of (fun fd F => F.bindsN fun _ _ _ _ _ _ us hl => match us, hl with | [_], _ => rfl) (fun vs H Q E h => by obtain ⟨_, rfl, _⟩ := h; rfl) fun cdv A outer s H vs Q E hr h => ?_
  refine ⟨_, (pss_cons (ps_set (i := 1) sc_step_of.nd rfl (by first | exact Or.inl rfl | exact Or.inr rfl) (pe_split (pv 0) pe_str)) (pss_cons (ps_if (pt_cmpR op_ne (pe_callB call_len (by rfl) T.b_len (by decide +kernel) (pa_cons (pv 1) pa_nil)) pe_int (nomark _)) (pss_one (ps_ret pe_non)) pss_nil) (C8.pss_cut (ps_set (i := 2) sc_step_of.nd rfl (by first | exact Or.inl rfl | exact Or.inr rfl) (NW.pe_tupN (pa_cons (C8.pe_c (cal_figures_of T) hr (by decide) rfl (pa_cons (pe_ix ix_list (pv 1) pe_int (fun _ _ => rfl)) pa_nil)) (pa_cons (C8.pe_c (cal_figures_of T) hr (by decide) rfl (pa_cons (pe_ix ix_list (pv 1) pe_int (fun _ _ => rfl)) pa_nil)) pa_nil)))) (pss_cons (ps_if (pt_not (pt_val (C8.pe_c (cal_is_step T) hr (by decide) rfl (pa_cons (pv 2) pa_nil)))) (pss_one (ps_ret pe_non)) pss_nil) (pss_one (ps_ret (pv 2))))))), ?_⟩
  obtain ⟨x, rfl, ok, q⟩ := h
  obtain ⟨a1, a2, a3, a4⟩ := id ok
  have wl := word_len ok
  refine ⟨_, rfl, ⟨_, rfl⟩, _, _, rfl, rfl, by decide +kernel, ?_, ?_⟩
  · exact Nat.le_trans (Nat.add_le_add_right wl 2) (by decide)
  rw [split_word ok]
  intro p np
  have S1 : Same H (upd H p (.lst ([numS x.1, numS x.2].map V.str))) := same_new np
  generalize hH1 : upd H p (.lst ([numS x.1, numS x.2].map V.str)) = H1 at S1
  have hp : H1 p = some (.lst [.str (numS x.1), .str (numS x.2)]) := by rw [← hH1, upd_same]; rfl
  refine ⟨_, rfl, _, 2, rfl, .inl ⟨_, SqL.of hp, rfl⟩, rfl, _, rfl, iteF ?_⟩
  refine ⟨fun σ H' => Same H H' ∧ ∃ t, H' t = some (.tup [.int x.1, .int x.2]) ∧ σ = [some (.str (wordOf x)), some (.ref p), some (.ref t)], ?_, ?_⟩
  · refine ⟨_, rfl, p, _, _, _, rfl, rfl, SqL.of hp, rfl, x.1, rfl, by omega, by omega, fun H2 S2 => ?_⟩
    refine ⟨_, rfl, p, _, _, _, rfl, rfl, SqL.of (S2 _ _ hp), rfl, x.2, rfl, a3, a4, fun H3 S3 => ?_⟩
    exact ⟨by show 2 ≤ sizeLine; decide, fun t H4 nt S4 ht => ⟨((S1.trans S2).trans S3).trans S4, t, ht, rfl⟩⟩
  rintro σ H2 ⟨S2, t, ht, rfl⟩
  exact ⟨_, rfl, _, x, rfl, ⟨t, rfl, ht⟩, ok, _, rfl, iteF ⟨_, rfl, q _ H2 S2 ⟨t, rfl, ht⟩⟩⟩
end
end WH

set_option maxHeartbeats 4000000
namespace WH
open PySem PySem.Spec PyProof.Rows L2
theorem cut_mid {a c d : List V} {b : V} {n m : Nat} (ha : a.length = n) (hd : d.length = m) (h0 : 1 ≤ m) : cutV (a ++ [b] ++ c ++ d) (some ((n : Int) + 1)) (some (-(m : Int))) = c := by
  unfold cutV
  have l : (a ++ [b] ++ c ++ d).length = n + 1 + c.length + m := by rw [List.length_append, List.length_append, List.length_append, ha, hd, List.length_singleton]
  rw [l, show (n : Int) + 1 = ((n + 1 : Nat) : Int) by omega, HT.sIx_nat]
  have e : HT.sIx (n + 1 + c.length + m) (n + 1 + c.length + m) (some (-(m : Int))) = n + 1 + c.length := by
    unfold HT.sIx
    show (if -(m : Int) < 0 then _ else _) = _
    rw [if_pos (by omega)]
    omega
  rw [e, Nat.min_eq_left (by omega), List.append_assoc, List.drop_append_of_le_length (by simp; omega), List.drop_of_length_le (by simp; omega), List.nil_append, Nat.add_sub_cancel_left, List.take_append_of_le_length (Nat.le_refl _), List.take_length]
theorem cut_end {a d : List V} {m : Nat} (hd : d.length = m) (h0 : 1 ≤ m) : cutV (a ++ d) (some (-(m : Int))) none = d := by
  unfold cutV
  have e : HT.sIx (a ++ d).length 0 (some (-(m : Int))) = a.length := by
    unfold HT.sIx
    show (if -(m : Int) < 0 then _ else _) = _
    rw [if_pos (by omega), List.length_append]
    omega
  rw [e, HT.sIx_none, List.drop_left, List.length_append, Nat.add_sub_cancel_left, List.take_length]
theorem word_bar {x : Int × Int} (h : okS x) : eqV (.str (wordOf x)) (.str "|") = false := by
  show ((wordOf x) == ("|" : Str)) = false
  refine beq_eq_false_iff_ne.mpr fun e => ?_
  have l := congrArg Str.length e
  unfold wordOf at l
  rw [len_app, len_app, len_app] at l
  have e1 : ("|" : Str).length = 1 := by decide +kernel
  have e2 : ("-" : Str).length = 1 := by decide +kernel
  obtain ⟨a, b, c, d⟩ := h
  obtain ⟨n, hn⟩ := Int.eq_ofNat_of_zero_le c
  have e3 := TL.len_tl (numS x.2)
  rw [hn, numS_tl] at e3
  have e4 := List.length_pos_iff.mpr (TL.numL_ne n)
  rw [hn] at l
  omega
theorem flat_strs (l : List Str) : (l.map V.str).all flatV = true := List.all_eq_true.mpr fun x hx => by
  obtain ⟨i, _, rfl⟩ := List.mem_map.mp hx
  rfl
theorem words_split (w : WN) : (wordsW w).map V.str = (w.head.map wordOf).map V.str ++ [V.str "|"] ++ (w.tail.map wordOf).map V.str ++ (moreS w).map V.str := by
  unfold wordsW
  rw [List.map_append, List.map_append, List.map_append]; rfl
section
variable {P : Program} {w : World} {K : PySem.W.Frag} {mg : Str → Option Value} {base : Heap}
theorem steps_lc {H : Hp} {xs : List (Int × Int)} (ok : ∀ x ∈ xs, okS x) (hl : xs.length ≤ 24) {te : TE} {o0 o1 o2 o3 o4 : Option V} (hte : ∀ R : VK, (∀ p H', Same H H' → H' p = some (.lst ((xs.map wordOf).map V.str)) → R (.ref p) H') → te [o0, o1, o2, o3, o4] H R) {Q : VK}
    (q : ∀ D H', Same H H' → Steps H' D xs → Q (.ref D) H') :
    tLc (iList K te) (gName 3) tYes (tCall (spStepOf K) [] C8.E0 (tCons (tVar 3) tNil)) [3] [o0, o1, o2, o3, o4] H Q := by
  refine hte _ fun p H0 S0 hv => ⟨p, rfl, ⟨_, SqL.of hv⟩, fun D nD => ?_⟩
  refine lc_it (g := gName 3) (tt := tYes) (te := tCall (spStepOf K) [] C8.E0 (tCons (tVar 3) tNil)) (vs := [3]) (σ := [o0, o1, o2, o3, o4]) (Qd := Q (.ref D)) (walk_list (K := K) (xs := (xs.map wordOf).map V.str)) (fun i H' => Same H0 H' ∧ ∃ vs, H' D = some (.lst vs) ∧ Paired (StepV H') vs (xs.take i)) ⟨same_new nD, [], upd_same, .nil⟩ (fun i H' _ h => SqL.of (h.1 _ _ hv)) ?_ ?_
  · rintro i x H3 H4 hi ⟨S3, vs, hD, hp⟩ ⟨rfl, hy⟩
    obtain ⟨r, hr, rfl⟩ : ∃ r, xs[i]? = some r ∧ x = .str (wordOf r) := by
      rw [List.getElem?_map, List.getElem?_map] at hy
      cases e : xs[i]? with
      | none => rw [e] at hy; cases hy
      | some r => rw [e] at hy; cases hy; exact ⟨r, rfl, rfl⟩
    have le := paired_len hp
    rw [List.length_take] at le
    refine ⟨rfl, _, rfl, r, rfl, ok r (List.mem_of_getElem? hr), fun v H5 S5 hv5 => ?_⟩
    have hD5 := S5 _ _ hD
    refine ⟨vs, hD5, small1000 (by omega), Same.mut (S3.trans S5) nD, vs ++ [v], upd_same, ?_⟩
    rw [take_snoc hr]
    exact paired_snoc (Paired.mapP hp fun _ _ h => (h.mono S5).updL hD5) (hv5.updL hD5)
  · rintro H3 ⟨S3, vs, hD, hp⟩
    rw [List.length_map, List.length_map, List.take_length] at hp
    exact q D H3 (S0.trans S3) ⟨vs, hD, hp⟩
def spPartsOf (K : PySem.W.Frag) : Sp := fun vs H Q _ => ∃ p w, vs = [.ref p] ∧ H p = some (.lst ((wordsW w).map V.str)) ∧ okW w ∧
  ∀ t h l m H', Same H H' → H' t = some (.tup [.ref h, .ref l, .ref m]) → Steps H' h w.head → Steps H' l w.tail → H' m = some (.lst ((moreS w).map V.str)) → Q (.ref t) H'
theorem cal_parts_of (T : Txt K mg) : C8.Cal P w K mg base 6 "parts_of" (spPartsOf K) [] := by
  refine calD T.f_parts_of T.g_parts_of sc_parts_of (fun fd F => F.bindsN fun _ _ _ _ _ _ us hl => match us, hl with | [_], _ => rfl) (fun vs H Q E h => by obtain ⟨_, _, rfl, _⟩ := h; rfl) fun cdv A outer s H vs Q E hr h => ?_
  refine ⟨_, (pss_cons (ps_if (PW.pt (pw_or (pt_cmpR op_notIn_seq pe_str (pv 0) (by rfl)) (pw_or1 (pt_cmpR op_lt (pe_callB call_len (by rfl) T.b_len (by decide +kernel) (pa_cons (pv 0) pa_nil)) pe_int (nomark _))))) (pss_one (ps_ret pe_non)) pss_nil) (C8.pss_cut (ps_set (i := 1) sc_parts_of.nd rfl (by first | exact Or.inl rfl | exact Or.inr rfl) (pe_bm PySem.F.plainAttrs_list PySem.F.slot_list_index PySem.F.type_list_index mt_index (pv 0) (pa_cons pe_str pa_nil))) (C8.pss_cut (ps_setLc (i := 2) (own := [("word", 3)]) (by rfl) sc_parts_of.nd rfl rfl (sw_true rfl rfl rfl (by decide +kernel)) (pi_list (pe_slice NW.sl_listN (pv 0) po_none (po_some (pv 1)))) (blkOk_by (own := [("word", 3)]) (N := n_parts_of) (sc := defScope s_parts_of) (by decide +kernel)) (fun _ _ _ _ _ => (pg_name (i := 3) sc_parts_of.nd rfl (by first | exact Or.inl rfl | exact Or.inr rfl))) (fun _ _ _ _ _ => pts_nil) (fun _ _ _ _ _ => (C8.pe_c (cal_step_of T) hr (by decide) rfl (pa_cons (pv 3) pa_nil)))) (C8.pss_cut (ps_setLc (i := 4) (own := [("word", 3)]) (by rfl) sc_parts_of.nd rfl rfl (sw_true rfl rfl rfl (by decide +kernel)) (pi_list (pe_slice NW.sl_listN (pv 0) (po_some (pe_op op_add (pv 1) pe_int)) (po_some (pe_un un_neg pe_int)))) (blkOk_by (own := [("word", 3)]) (N := n_parts_of) (sc := defScope s_parts_of) (by decide +kernel)) (fun _ _ _ _ _ => (pg_name (i := 3) sc_parts_of.nd rfl (by first | exact Or.inl rfl | exact Or.inr rfl))) (fun _ _ _ _ _ => pts_nil) (fun _ _ _ _ _ => (C8.pe_c (cal_step_of T) hr (by decide) rfl (pa_cons (pv 3) pa_nil)))) (pss_cons (ps_if (PW.pt (pw_or (pt_not (pt_val (C8.pe_c (cal_is_head T) hr (by decide) rfl (pa_cons (pv 2) pa_nil)))) (pw_or1 (pt_not (pt_val (C8.pe_c (cal_is_tail T) hr (by decide) rfl (pa_cons (pv 4) pa_nil))))))) (pss_one (ps_ret pe_non)) pss_nil) (pss_one (ps_ret (NW.pe_tupN (pa_cons (pv 2) (pa_cons (pv 4) (pa_cons (pe_slice NW.sl_listN (pv 0) (po_some (pe_un un_neg pe_int)) po_none) pa_nil))))))))))), ?_⟩
  obtain ⟨p, w, rfl, hp, ok, q⟩ := h
  have hl := ok.hl
  obtain ⟨t1, tl⟩ := tails_le ok.tl
  have wm := words_many ok
  have ws := words_split w
  have wl : ((wordsW w).map V.str).length = w.head.length + 1 + w.tail.length + 5 := by
    rw [ws, List.length_append, List.length_append, List.length_append, List.length_map, List.length_map, List.length_map, List.length_map]; rfl
  refine ⟨_, rfl, p, _, rfl, .inl (SqL.of hp), rfl, flat_strs _, _, rfl, ?_⟩
  have bar : inV (.str "|") ((wordsW w).map V.str) = true := by
    rw [ws]
    unfold inV
    rw [List.any_append, List.any_append, List.any_append]
    have : [V.str "|"].any (fun y => eqV y (.str "|")) = true := by decide +kernel
    rw [this]; simp
  rw [show (if true then !inV (.str "|") ((wordsW w).map V.str) else inV (.str "|") ((wordsW w).map V.str)) = false by rw [bar]; rfl]
  refine iteF ⟨_, rfl, _, _, rfl, .inl ⟨_, SqL.of hp, rfl⟩, _, _, rfl, rfl, _, rfl, ?_⟩
  rw [wl, show decide (((w.head.length + 1 + w.tail.length + 5 : Nat) : Int) < 7) = false from decide_eq_false (by omega)]
  refine iteF ⟨fun σ H' => H' = H ∧ σ = [some (.ref p), some (.int (w.head.length : Nat)), none, none, none], ?_, ?_⟩
  · refine ⟨_, rfl, .inl ⟨rfl, _, SqL.of hp⟩, p, _, _, w.head.length, _, rfl, rfl, SqL.of hp, rfl, flat_strs _, ?_, (by decide +kernel : eqV (.str "|") (.str "|") = true), ?_, rfl, rfl⟩
    · rw [ws, List.getElem?_append_left (by simp), List.getElem?_append_left (by simp), List.getElem?_append_right (by simp)]
      simp
    · intro m z' hm hz
      rw [ws, List.append_assoc, List.append_assoc, List.getElem?_append_left (by simpa using hm), List.getElem?_map, List.getElem?_map] at hz
      cases e : w.head[m]? with
      | none => rw [e] at hz; cases hz
      | some r => rw [e] at hz; cases hz; exact word_bar (ok.h r (List.mem_of_getElem? e))
  rintro σ H1 ⟨rfl, rfl⟩
  refine ⟨fun σ H' => Same H1 H' ∧ ∃ h, Steps H' h w.head ∧ σ = [some (.ref p), some (.int (w.head.length : Nat)), some (.ref h), none, none], ?_, ?_⟩
  · refine steps_lc ok.h hl (fun R r => ?_) fun D H' S hD => ⟨S, D, hD, rfl⟩
    refine ⟨_, rfl, _, rfl, _, rfl, p, _, rfl, SqL.of hp, fun p2 H' np S h2 => r p2 H' S ?_⟩
    rw [h2, cut_take (by rw [wl]; omega), ws, List.append_assoc, List.append_assoc, List.take_append_of_le_length (by simp), List.take_of_length_le (by simp)]
  rintro σ H2 ⟨S2, h, hh, rfl⟩
  refine ⟨fun σ H' => Same H1 H' ∧ ∃ h t, Steps H' h w.head ∧ Steps H' t w.tail ∧ σ = [some (.ref p), some (.int (w.head.length : Nat)), some (.ref h), none, some (.ref t)], ?_, ?_⟩
  · refine steps_lc ok.t tl (fun R r => ?_) fun D H' S hD => ⟨S2.trans S, h, D, hh.mono S, hD, rfl⟩
    refine ⟨_, rfl, _, rfl, _, _, rfl, rfl, _, rfl, _, rfl, _, rfl, p, _, rfl, SqL.of (S2 _ _ hp), fun p2 H' np S h2 => r p2 H' S ?_⟩
    rw [h2, ws]
    exact congrArg (fun z => some (HO.lst z)) (cut_mid (n := w.head.length) (m := 5) (by simp) (by simp; rfl) (by decide))
  rintro σ H3 ⟨S3, h, t, hh, ht, rfl⟩
  refine ⟨_, rfl, h, w.head, rfl, hh, ok.h, hl, fun H4 S4 => ⟨_, rfl, iteF ⟨_, rfl, t, w.tail, rfl, ht.mono S4, ok.t, ok.tl, fun H5 S5 => ⟨_, rfl, iteF ⟨_, rfl, _, rfl, ?_⟩⟩⟩⟩⟩
  refine ⟨_, rfl, _, rfl, _, rfl, p, _, rfl, SqL.of (S5 _ _ (S4 _ _ (S3 _ _ hp))), fun m H6 nm S6 hm => ⟨by show 3 ≤ sizeLine; decide, fun u H7 nu S7 hu => ?_⟩⟩
  refine q u h t m H7 ((((S3.trans S4).trans S5).trans S6).trans S7) hu ((((hh.mono S4).mono S5).mono S6).mono S7) ((((ht.mono S4).mono S5).mono S6).mono S7) (S7 _ _ ?_)
  rw [hm, ws]
  exact congrArg (fun z => some (HO.lst z)) (cut_end (m := 5) (by simp; rfl) (by decide))
end
end WH

set_option maxHeartbeats 4000000
namespace WH
open PySem PySem.Spec PyProof.Rows L2
theorem word_free {w : WN} (ok : okW w) : ∀ x ∈ wordsW w, (32 : Nat) ∉ TL.tl x := by
  have hn : ∀ i : Int, 0 ≤ i → (32 : Nat) ∉ TL.tl (numS i) := fun i h0 => by
    obtain ⟨n, rfl⟩ := Int.eq_ofNat_of_zero_le h0
    rw [numS_tl]; exact TL.numL_free (by decide)
  have hw : ∀ x, okS x → (32 : Nat) ∉ TL.tl (wordOf x) := fun x ⟨a, b, c, d⟩ => by
    unfold wordOf
    rw [TL.tl_append, TL.tl_append, TL.tl_append]
    intro h
    rcases List.mem_append.mp h with h | h
    · rcases List.mem_append.mp h with h | h
      · rcases List.mem_append.mp h with h | h
        · exact absurd h (by decide +kernel)
        · exact hn _ (by omega) h
      · exact absurd h (by decide +kernel)
    · exact hn _ c h
  intro x hx
  unfold wordsW moreS at hx
  simp only [List.mem_append, List.mem_map, List.mem_singleton, List.mem_cons, List.not_mem_nil, or_false] at hx
  rcases hx with ((⟨y, hy, rfl⟩ | rfl) | ⟨y, hy, rfl⟩) | hx
  · exact hw y (ok.h y hy)
  · decide +kernel
  · exact hw y (ok.t y hy)
  · rcases hx with rfl | rfl | rfl | rfl | rfl
    · decide +kernel
    · exact hn _ (by have := ok.c1; omega)
    · decide +kernel
    · exact hn _ ok.l1
    · cases w.anew <;> decide +kernel
theorem words_ne (w : WN) : wordsW w ≠ [] := by
  unfold wordsW moreS; simp
theorem split_text {w : WN} (ok : okW w) : Txt.split (textW w) " " = wordsW w := TL.split_join (s := 32) (S := []) (by decide +kernel) (by decide +kernel) (words_ne w) (word_free ok)
theorem joinL_len (S : List Nat) : ∀ l : List (List Nat), (TL.joinL S l).length ≤ (l.map (fun x => x.length + S.length)).sum
  | [] => Nat.zero_le _
  | [p] => by simp [TL.joinL]
  | p :: q :: r => by
    have := joinL_len S (q :: r)
    rw [List.map_cons, List.sum_cons]
    show (p ++ (S ++ TL.joinL S (q :: r))).length ≤ _
    rw [List.length_append, List.length_append]
    omega
theorem text_len {w : WN} (ok : okW w) : (textW w).length ≤ 2000 := by
  have h := joinL_len (TL.tl (" " : Str)) ((wordsW w).map TL.tl)
  have e : (textW w).length = (TL.joinL (TL.tl (" " : Str)) ((wordsW w).map TL.tl)).length := by
    rw [TL.len_tl, textW, TL.join_eq, TL.tl_join]
  rw [e]
  refine Nat.le_trans h ?_
  have s : ∀ l : List Str, (∀ x ∈ l, x.length ≤ 21) → ((l.map TL.tl).map (fun x => x.length + (TL.tl (" " : Str)).length)).sum ≤ l.length * 22 := by
    intro l
    induction l with
    | nil => intro _; simp
    | cons x r ih =>
      intro hl
      have a := hl x (List.mem_cons_self ..)
      have b := ih fun y hy => hl y (List.mem_cons_of_mem _ hy)
      have c : (TL.tl (" " : Str)).length = 1 := by decide +kernel
      rw [TL.len_tl] at a
      rw [List.map_cons, List.map_cons, List.sum_cons, List.length_cons, Nat.add_mul, c]
      rw [c] at b
      omega
  have := s (wordsW w) (words_len ok)
  have := words_many ok
  omega
section
variable {P : Program} {w : World} {K : PySem.W.Frag} {mg : Str → Option Value} {base : Heap}
def spWOW (K : PySem.W.Frag) : Sp := fun vs H Q _ => ∃ p w, vs = [.ref p] ∧ H p = some (.lst ((wordsW w).map V.str)) ∧ okW w ∧ ∀ x H', Same H H' → WaneAt K H' x w → (∀ D, H D ≠ none → WaneN K D H' x w) → Q (.ref x) H'
theorem cal_wane_of_words (T : Txt K mg) : C8.Cal P w K mg base 8 "wane_of_words" (spWOW K) [] := by
  refine calD T.f_wane_of_words T.g_wane_of_words sc_wane_of_words (fun fd F => F.bindsN fun _ _ _ _ _ _ us hl => match us, hl with | [_], _ => rfl) (fun vs H Q E h => by obtain ⟨_, _, rfl, _⟩ := h; rfl) fun cdv A outer s H vs Q E hr h => ?_
  refine ⟨_, (C8.pss_cut (ps_set (i := 1) sc_wane_of_words.nd rfl (by first | exact Or.inl rfl | exact Or.inr rfl) (C8.pe_c (cal_parts_of T) hr (by decide) rfl (pa_cons (pv 0) pa_nil))) (C8.pss_cut (ps_if (pt_cmpR op_isN (pv 1) pe_non (nomark _)) (pss_one (ps_ret pe_non)) pss_nil) (C8.pss_cut (ps_asg (pv 1) (pg_tup rfl (pgs_cons (pg_name (i := 2) sc_wane_of_words.nd rfl (by first | exact Or.inl rfl | exact Or.inr rfl)) (pgs_cons (pg_name (i := 3) sc_wane_of_words.nd rfl (by first | exact Or.inl rfl | exact Or.inr rfl)) (pgs_cons (pg_name (i := 4) sc_wane_of_words.nd rfl (by first | exact Or.inl rfl | exact Or.inr rfl)) pgs_nil))))) (C8.pss_cut (ps_set (i := 5) sc_wane_of_words.nd rfl (by first | exact Or.inl rfl | exact Or.inr rfl) (C8.pe_c (cal_figures_of T) hr (by decide) rfl (pa_cons (pe_ix ix_list (pv 4) pe_int (fun _ _ => rfl)) pa_nil))) (C8.pss_cut (ps_set (i := 6) sc_wane_of_words.nd rfl (by first | exact Or.inl rfl | exact Or.inr rfl) (C8.pe_c (cal_figures_of T) hr (by decide) rfl (pa_cons (pe_ix ix_list (pv 4) pe_int (fun _ _ => rfl)) pa_nil))) (C8.pss_cut (ps_if (PW.pt (pw_or (pt_cmpR (op_neD hr.units) (NW.pe_lstN (pa_cons (pe_ix ix_list (pv 4) pe_int (fun _ _ => rfl)) (pa_cons (pe_ix ix_list (pv 4) pe_int (fun _ _ => rfl)) pa_nil))) (NW.pe_lstN (pa_cons pe_str (pa_cons pe_str pa_nil))) (nomark _)) (pw_or1 (pt_cmpR op_notIn_seq (pe_ix ix_list (pv 4) pe_int (fun _ _ => rfl)) (NW.pe_tupN (pa_cons pe_str (pa_cons pe_str pa_nil))) (by rfl))))) (pss_one (ps_ret pe_non)) pss_nil) (pss_cons (ps_if (PW.pt (pw_or (pt_not (pt_val (C8.pe_c (cal_is_strength T) hr (by decide) rfl (pa_cons (pv 5) pa_nil)))) (pw_or1 (pt_not (pt_val (C8.pe_c (cal_is_size T) hr (by decide) rfl (pa_cons (pv 6) pa_nil))))))) (pss_one (ps_ret pe_non)) pss_nil) (pss_one (ps_ret (pe_mkK T.mk_Wane (init_Wane T) hr (by decide) rfl T.g_Wane (pa_cons (pv 2) (pa_cons (pv 3) pa_nil)) (pk_cons (pv 5) (pk_cons (pv 6) (pk_cons (pe_cmpR op_eq (pe_ix ix_list (pv 4) pe_int (fun _ _ => rfl)) pe_str (nomark _)) pk_nil))))))))))))), ?_⟩
  obtain ⟨p, w, rfl, hp, ok, q⟩ := h
  refine ⟨fun σ H' => Same H H' ∧ ∃ t h l m, H' t = some (.tup [.ref h, .ref l, .ref m]) ∧ Steps H' h w.head ∧ Steps H' l w.tail ∧ H' m = some (.lst ((moreS w).map V.str)) ∧ σ = [some (.ref p), some (.ref t), none, none, none, none, none], ?_, ?_⟩
  · exact ⟨_, rfl, p, w, rfl, hp, ok, fun t h l m H' S ht hh hl hm => ⟨S, t, h, l, m, ht, hh, hl, hm, rfl⟩⟩
  rintro σ H1 ⟨S1, t, h, l, m, ht, hh, hl, hm, rfl⟩
  refine ⟨fun σ H' => H' = H1 ∧ σ = [some (.ref p), some (.ref t), none, none, none, none, none], ?_, ?_⟩
  · exact ⟨_, rfl, rfl, _, rfl, iteF ⟨rfl, rfl⟩⟩
  rintro σ H2 ⟨rfl, rfl⟩
  refine ⟨fun σ H' => H' = H2 ∧ σ = [some (.ref p), some (.ref t), some (.ref h), some (.ref l), some (.ref m), none, none], ?_, ?_⟩
  · exact ⟨_, rfl, t, _, rfl, SqT.of ht, rfl, _, _, rfl, _, _, rfl, _, _, rfl, rfl, rfl, rfl⟩
  rintro σ H3 ⟨rfl, rfl⟩
  refine ⟨fun σ H' => Same H3 H' ∧ σ = [some (.ref p), some (.ref t), some (.ref h), some (.ref l), some (.ref m), some (.int w.cap), none], ?_, ?_⟩
  · exact ⟨_, rfl, m, _, _, _, rfl, rfl, SqL.of hm, rfl, w.cap, rfl, by have := ok.c1; omega, ok.c2, fun H' S => ⟨S, rfl⟩⟩
  rintro σ H4 ⟨S4, rfl⟩
  refine ⟨fun σ H' => Same H3 H' ∧ σ = [some (.ref p), some (.ref t), some (.ref h), some (.ref l), some (.ref m), some (.int w.cap), some (.int w.lift)], ?_, ?_⟩
  · exact ⟨_, rfl, m, _, _, _, rfl, rfl, SqL.of (S4 _ _ hm), rfl, w.lift, rfl, ok.l1, ok.l2, fun H' S => ⟨S4.trans S, rfl⟩⟩
  rintro σ H5 ⟨S5, rfl⟩
  refine ⟨fun σ H' => Same H3 H' ∧ σ = [some (.ref p), some (.ref t), some (.ref h), some (.ref l), some (.ref m), some (.int w.cap), some (.int w.lift)], ?_, ?_⟩
  · have hm5 := S5 _ _ hm
    refine ⟨_, rfl, m, _, _, _, rfl, rfl, SqL.of hm5, rfl, _, rfl, m, _, _, _, rfl, rfl, SqL.of hm5, rfl, by show 2 ≤ sizeLine; decide, fun a H6 na S6 ha => ?_⟩
    refine ⟨by show 2 ≤ sizeLine; decide, fun b H7 nb S7 hb => ?_⟩
    refine ⟨.list [.str "cap", .str "lift"], .list [.str "cap", .str "lift"], .lst (SqL.of (S7 _ _ ha)) (.cons (.str _) (.cons (.str _) .nil)), .lst (SqL.of hb) (.cons (.str _) (.cons (.str _) .nil)), by decide +kernel, by decide +kernel, _, rfl, ?_⟩
    rw [show (!PyData.eqv (.list [.str "cap", .str "lift"]) (.list [.str "cap", .str "lift"])) = false by decide +kernel]
    refine iteF ⟨_, rfl, m, _, _, _, rfl, rfl, SqL.of (S7 _ _ (S6 _ _ hm5)), rfl, by show 2 ≤ sizeLine; decide, fun c H8 nc S8 hc => ?_⟩
    refine ⟨c, _, rfl, .inr (SqT.of hc), rfl, rfl, _, rfl, ?_⟩
    have e : (if true then !inV (.str (if w.anew then "anew" else "on")) [V.str "anew", .str "on"] else inV (.str (if w.anew then "anew" else "on")) [V.str "anew", .str "on"]) = false := by
      cases w.anew <;> decide +kernel
    rw [e]
    exact iteF ⟨(((S5.trans S6).trans S7).trans S8), rfl⟩
  rintro σ H6 ⟨S6, rfl⟩
  have hm6 := S6 _ _ hm
  refine ⟨_, rfl, _, rfl, knw_int _, _, rfl, ?_⟩
  rw [wi_int ok.c1 ok.c2]
  refine iteF ⟨_, rfl, _, rfl, knw_int _, _, rfl, ?_⟩
  rw [wi_int ok.l1 ok.l2]
  refine iteF ⟨_, rfl, _, rfl, _, rfl, _, rfl, _, rfl, m, _, _, _, rfl, rfl, SqL.of hm6, rfl, rfl, rfl, rfl, fun x dx nx nd ne => ?_⟩
  have e : decide (V.str (if w.anew then "anew" else "on") = V.str "anew") = w.anew := by cases w.anew <;> decide +kernel
  refine ⟨H6, x, dx, h, l, w, ?_, rfl, nx, nd, ne, hh.mono S6, hl.mono S6, ok, fun H' s3 hw hn => ⟨rfl, q x H' ((S1.trans S6).trans s3) hw fun D hD => hn D (by cases hh : H D with | none => exact absurd hh hD | some o => intro e; rw [S6 _ _ (S1 _ _ hh)] at e; cases e)⟩⟩
  exact congrArg (fun b => [V.ref x, V.ref h, V.ref l, V.int w.cap, V.int w.lift, V.bl b]) e
def spReadWane (K : PySem.W.Frag) : Sp := fun vs H Q _ => ∃ w, vs = [.str (textW w)] ∧ okW w ∧ ∀ x H', Same H H' → WaneAt K H' x w → (∀ D, H D ≠ none → WaneN K D H' x w) → Q (.ref x) H'
theorem cal_read_wane (T : Txt K mg) : C8.Cal P w K mg base 9 "read_wane" (spReadWane K) [] := by
  refine calD T.f_read_wane T.g_read_wane sc_read_wane (fun fd F => F.bindsN fun _ _ _ _ _ _ us hl => match us, hl with | [_], _ => rfl) (fun vs H Q E h => by obtain ⟨_, rfl, _⟩ := h; rfl) fun cdv A outer s H vs Q E hr h => ?_
  refine ⟨_, (pss_cons (ps_if (pt_not (pt_val (pe_callB call_isi (by rfl) T.b_isinstance (by decide +kernel) (pa_cons (pv 0) (pa_cons (pe_bltn (v := .ty "str") (by rfl) T.b_str (by decide +kernel) rfl) pa_nil))))) (pss_one ps_never) pss_nil) (pss_cons (ps_set (i := 1) sc_read_wane.nd rfl (by first | exact Or.inl rfl | exact Or.inr rfl) (C8.pe_c (cal_wane_of_words T) hr (by decide) rfl (pa_cons (pe_split (pv 0) pe_str) pa_nil))) (pss_cons (ps_if (pt_cmpR op_isN (pv 1) pe_non (nomark _)) (pss_one ps_never) pss_nil) (pss_one (ps_ret (pv 1)))))), ?_⟩
  obtain ⟨w, rfl, ok, q⟩ := h
  refine ⟨_, rfl, _, _, .type "str", _, _, rfl, .ty _, .base (.str _), T.kit (by simp [tys]) (by simp [cls]), _, rfl, ?_⟩
  rw [show isk (.type "str") (.type "str") = true by decide +kernel]
  refine iteF ⟨_, rfl, ⟨_, rfl⟩, _, _, rfl, rfl, by decide +kernel, ?_, ?_⟩
  · exact Nat.le_trans (Nat.add_le_add_right (text_len ok) 2) (by decide)
  rw [split_text ok]
  intro p np
  have S1 : Same H (upd H p (.lst ((wordsW w).map V.str))) := same_new np
  refine ⟨p, w, rfl, upd_same, ok, fun x H1 S hw hn => ?_⟩
  refine ⟨_, rfl, rfl, _, rfl, iteF ⟨_, rfl, q x H1 (S1.trans S) hw fun D hD => hn D ?_⟩⟩
  cases hh : H D with
  | none => exact absurd hh hD
  | some o => intro e; rw [S1 _ _ hh] at e; cases e
end
end WH

set_option maxHeartbeats 4000000
namespace WH
open PySem PySem.Spec PyProof.Rows L2
section
variable {w1 w2 : WN} {s f : Int}
/-- just one of the two is there -/
def lparts (w1 : WN) (s : Int) (w2 : WN) (f : Int) (l : List Bool) : Bool := !decide (decide (0 < (stA w1 (s, 0) l).1) = decide (0 < (stA w2 (f, 0) l).1))
theorem lparts_eq (ok : okTwo w1 s w2 f) (l : List Bool) : lparts w1 s w2 f l = parts (stOf w1 s l, stOf w2 f l) := by
  have a := stA_ok ok.a (show 0 ≤ s by have := ok.s1; omega) ok.s2 0 l
  have b := stA_ok ok.b (show 0 ≤ f by have := ok.f1; omega) ok.f2 0 l
  unfold lparts parts
  rw [stOf_eq ok.a ok.s1 ok.s2, stOf_eq ok.b ok.f1 ok.f2]
  generalize stA w1 (s, 0) l = p at a
  generalize stA w2 (f, 0) l = q at b
  by_cases h1 : p.1 = 0 <;> by_cases h2 : q.1 = 0
  · simp [h1, h2]
  · have : 0 < q.1 := by omega
    simp [h1, h2, this]
  · have : 0 < p.1 := by omega
    simp [h1, h2, this]
  · have : 0 < q.1 := by omega
    have : 0 < p.1 := by omega
    simp [h1, h2, *]
theorem told_row {k : Nat} {row : List Bool} {p : Stt × Stt} (ok : okTwo w1 s w2 f) (hk : (run w1 w2 s f k)[k]? = some (row, p)) (hp : parts p = true) :
    row ≠ [] ∧ row.length ≤ k ∧ lparts w1 s w2 f row = true := by
  have I := run_RI (w1 := w1) (w2 := w2) (s := s) (f := f) k
  have v : p = (stOf w1 s row, stOf w2 f row) := I.val _ (List.mem_of_getElem? hk)
  refine ⟨fun e => ?_, ?_, ?_⟩
  · rw [v, e] at hp; cases hp
  · have t1 := ok.a.tpos
    have t2 := ok.b.tpos
    exact (run_ok ok.a ok.b ⟨ok.s1, ok.s2, by omega⟩ ⟨ok.f1, ok.f2, by omega⟩ k _ (List.mem_of_getElem? hk)).l
  · rw [lparts_eq ok, ← v, hp]
/-- a closed list without parting: never just one of the two is there -/
theorem closed_row {k : Nat} (hc : Clean w1 w2 s f k) (hk : k = (run w1 w2 s f k).length) (l : List Bool) : ∃ (j : Nat) (q : Row), (run w1 w2 s f k)[j]? = some q ∧ q.2 = (stOf w1 s l, stOf w2 f l) := by
  refine rev_ind (P := fun l => ∃ (j : Nat) (q : Row), (run w1 w2 s f k)[j]? = some q ∧ q.2 = (stOf w1 s l, stOf w2 f l)) ?_ ?_ l
  · exact ⟨0, _, run_get (Nat.zero_le _) (show (run w1 w2 s f 0)[0]? = some _ from rfl), rfl⟩
  · rintro l b ⟨j, q, hj, e⟩
    obtain ⟨i, q', hi, e', _⟩ := run_closed hc hk hj b
    refine ⟨i, q', hi, ?_⟩
    rw [e', stOf_snoc, stOf_snoc]
    show (w1.led b q.2.1, w2.led b q.2.2) = _
    rw [e]
theorem closed_none {k : Nat} (ok : okTwo w1 s w2 f) (hc : Clean w1 w2 s f k) (hk : k = (run w1 w2 s f k).length) (l : List Bool) : lparts w1 s w2 f l = false := by
  obtain ⟨j, q, hj, e⟩ := closed_row hc hk l
  have lt : j < k := by rw [hk]; exact (List.getElem?_eq_some_iff.mp hj).1
  rw [lparts_eq ok, ← e]
  exact (run_back (Nat.le_of_lt lt) hc lt hj).2
/-- never just one of the two is there -/
def Alk (w1 : WN) (s : Int) (w2 : WN) (f : Int) : Prop := ∀ l, lparts w1 s w2 f l = false
theorem Alk.pos (h : Alk w1 s w2 f) (l : List Bool) : decide (0 < (stA w1 (s, 0) l).1) = decide (0 < (stA w2 (f, 0) l).1) := by
  have := h l
  unfold lparts at this
  simpa using this
theorem Alk.zero (ok : okTwo w1 s w2 f) (h : Alk w1 s w2 f) (l : List Bool) : (stA w1 (s, 0) l).1 = 0 ↔ (stA w2 (f, 0) l).1 = 0 := by
  have a := stA_ok ok.a (show 0 ≤ s by have := ok.s1; omega) ok.s2 0 l
  have b := stA_ok ok.b (show 0 ≤ f by have := ok.f1; omega) ok.f2 0 l
  have p := h.pos l
  by_cases x : 0 < (stA w1 (s, 0) l).1 <;> by_cases y : 0 < (stA w2 (f, 0) l).1 <;> simp [x, y] at p <;> omega
theorem stA_rnd (w : WN) (s : Int) (l m : List Bool) (t : Nat) : stA w (rndN w l t (s, 0)) m = stA w (s, 0) ((List.replicate t l).flatten ++ m) := by rw [stA_app, rndN_flat]
theorem Alk.rnd (ok : okTwo w1 s w2 f) (h : Alk w1 s w2 f) (l m : List Bool) (t : Nat) : (stA w1 (rndN w1 l t (s, 0)) m).1 = 0 ↔ (stA w2 (rndN w2 l t (f, 0)) m).1 = 0 := by
  rw [stA_rnd, stA_rnd]; exact h.zero ok _
theorem Alk.rnd0 (ok : okTwo w1 s w2 f) (h : Alk w1 s w2 f) (l : List Bool) (t : Nat) : (rndN w1 l t (s, 0)).1 = 0 ↔ (rndN w2 l t (f, 0)).1 = 0 := h.rnd ok l [] t
theorem rnd_stays {w : WN} (ok : okW w) {s : Int} {l : List Bool} {t : Nat} (h : (rndN w l t (s, 0)).1 = 0) {u : Nat} (hu : t ≤ u) : (rndN w l u (s, 0)).1 = 0 := by
  obtain ⟨d, rfl⟩ : ∃ d, u = t + d := ⟨u - t, by omega⟩
  rw [rndN_add, ← rndN_flat w l d]
  have : rndN w l t (s, 0) = (0, (rndN w l t (s, 0)).2) := by rw [← h]
  rw [this]
  exact stA_zero ok _ _
theorem Alk.last (ok : okTwo w1 s w2 f) (h : Alk w1 s w2 f) {l : List Bool} {t u : Nat} (a0 : (rndN w1 l t (s, 0)).1 ≠ 0) (a1 : (rndN w1 l (t + 1) (s, 0)).1 = 0) (b0 : (rndN w2 l u (f, 0)).1 ≠ 0) (b1 : (rndN w2 l (u + 1) (f, 0)).1 = 0) : t = u := by
  have c0 : (rndN w1 l u (s, 0)).1 ≠ 0 := fun z => b0 ((h.rnd0 ok l u).mp z)
  have c1 : (rndN w1 l (u + 1) (s, 0)).1 = 0 := (h.rnd0 ok l (u + 1)).mpr b1
  rcases Nat.lt_trichotomy t u with x | x | x
  · exact absurd (rnd_stays ok.a a1 x) c0
  · exact x
  · exact absurd (rnd_stays ok.a c1 x) a0
theorem Alk.sign (ok : okTwo w1 s w2 f) (h : Alk w1 s w2 f) {l : List Bool} {t k j : Nat} (a1 : (stA w1 (rndN w1 l t (s, 0)) (l.take (k + 1))).1 = 0) (a0 : ∀ i, i ≤ k → (stA w1 (rndN w1 l t (s, 0)) (l.take i)).1 ≠ 0)
    (b1 : (stA w2 (rndN w2 l t (f, 0)) (l.take (j + 1))).1 = 0) (b0 : ∀ i, i ≤ j → (stA w2 (rndN w2 l t (f, 0)) (l.take i)).1 ≠ 0) : k = j := by
  rcases Nat.lt_trichotomy k j with x | x | x
  · exact absurd ((h.rnd ok l _ t).mp a1) (b0 (k + 1) x)
  · exact x
  · exact absurd ((h.rnd ok l _ t).mpr b1) (a0 (j + 1) x)
end
end WH

set_option maxHeartbeats 4000000
namespace WH
open PySem PySem.Spec PyProof.Rows L2
theorem But.tup {H H' : Hp} {b c : Addr} (g : Bag H b c) (s : But b H H') : Tup H H' := fun a vs h => s a _ (fun z => by
  obtain ⟨_, _, _, _, g⟩ := g
  rw [z, g.b] at h; cases h) h
theorem Bag.nc {H : Hp} {b c p : Addr} (g : Bag H b c) (n : H p = none) : p ≠ c := fun z => by
  obtain ⟨_, _, _, _, g⟩ := g
  rw [z, g.c] at n; cases n
theorem But.free {H H' : Hp} {b c p : Addr} (g : Bag H' b c) (s : But b H H') (n : H' p = none) : H p = none := by
  cases h : H p with
  | none => rfl
  | some o => rw [s p o (g.nb n) h] at n; cases n
theorem pick4V {a b c d : V} {v : Int} (h0 : 0 ≤ v) (h1 : v < 4) : ∃ y, (y = a ∨ y = b ∨ y = c ∨ y = d) ∧ atI [a, b, c, d] v = some y := by
  obtain rfl | rfl | rfl | rfl : v = 0 ∨ v = 1 ∨ v = 2 ∨ v = 3 := by omega
  · exact ⟨a, by simp, rfl⟩
  · exact ⟨b, by simp, rfl⟩
  · exact ⟨c, by simp, rfl⟩
  · exact ⟨d, by simp, rfl⟩
theorem WaneN.but {K : PySem.W.Frag} {D : Addr} {H H' : Hp} {b c : Addr} (g : Bag H b c) (s : But b H H') {a : Addr} {w : WN} (x : WaneN K D H a w) : WaneN K D H' a w := by
  obtain ⟨dx, h, t, n1, n2, n3, e, s1, s2, ok⟩ := x
  refine ⟨dx, h, t, n1, n2, n3, s _ _ (fun z => ?_) e, s1.but g s, s2.but g s, ok⟩
  obtain ⟨_, _, _, _, g⟩ := g
  rw [z, g.b] at e; cases e
theorem WaneAt.new {K : PySem.W.Frag} {D : Addr} {H : Hp} {a : Addr} {w : WN} (n : H D = none) (h : WaneAt K H a w) : WaneN K D H a w := by
  obtain ⟨dx, p, t, e, s1, s2, ok⟩ := h
  obtain ⟨v1, e1, _⟩ := id s1
  obtain ⟨v2, e2, _⟩ := id s2
  exact ⟨dx, p, t, fun z => (by rw [z, n] at e; cases e), fun z => (by rw [z, n] at e1; cases e1), fun z => (by rw [z, n] at e2; cases e2), e, s1, s2, ok⟩
theorem WaneAt.but {K : PySem.W.Frag} {H H' : Hp} {b c : Addr} (g : Bag H b c) (s : But b H H') {a : Addr} {w : WN} (x : WaneAt K H a w) : WaneAt K H' a w := by
  obtain ⟨dx, h, t, e, s1, s2, ok⟩ := x
  refine ⟨dx, h, t, s _ _ (fun z => ?_) e, s1.but g s, s2.but g s, ok⟩
  obtain ⟨_, _, _, _, g⟩ := g
  rw [z, g.b] at e; cases e
section
variable {P : Program} {w : World} {K : PySem.W.Frag} {mg : Str → Option Value} {base : Heap}
theorem call_alike (T : Txt K mg) : ∃ fd g, FnOk P w K mg base (L2.CX P w) 6 (He.fAd K d_alike.at_) fd ["one", "strength", "other", "far", "most"] (spAlike K) ∧ KBn K fd ["one", "strength", "other", "far", "most"] 4 ["most"] g (fun vs zs => vs ++ zs) ∧ PySem.W.keepIn K (.ref (He.fAd K d_alike.at_)) = true := by
  obtain ⟨fd, F⟩ := T.f_alike
  obtain ⟨mv, b⟩ := F.kbinds0 (ps := ["one", "strength", "other", "far", "most"]) 4 ["most"] [] (fun us _ ws => us ++ ws) (by simp [He.DefD.kws, d_alike]) (by simp) (fun r1 r2 r3 => ND.paired_app r1 r3) (fun D doc pm an cdv ct us mv ws l1 l2 l3 => by
    match us, ws, l1, l3 with
    | [_, _, _, _], [_], _, _ => rfl)
  exact ⟨fd, _, fn_alike T F, b, F.kp⟩
theorem call_alike0 (T : Txt K mg) : ∃ fd g, FnOk P w K mg base (L2.CX P w) 6 (He.fAd K d_alike.at_) fd ["one", "strength", "other", "far", "most"] (spAlike K) ∧ KBn K fd ["one", "strength", "other", "far", "most"] 4 [] g (fun vs _ => vs ++ [.int 200]) ∧ PySem.W.keepIn K (.ref (He.fAd K d_alike.at_)) = true := by
  obtain ⟨fd, F⟩ := T.f_alike
  obtain ⟨mv, b⟩ := F.kbinds0 (ps := ["one", "strength", "other", "far", "most"]) 4 [] [("most", .int 200)] (fun us mv _ => us ++ mv) (by simp [He.DefD.kws, d_alike]) (by simp [He.DefD.kws, d_alike, He.Dv.v]) (fun r1 r2 r3 => ND.paired_app r1 r2) (fun D doc pm an cdv ct us mv ws l1 l2 l3 => by
    match us, mv, ws, l1, l2, l3 with
    | [_, _, _, _], [_], [], _, _, _ => exact ⟨_, _, _, _, _, _, rfl, rfl, rfl⟩)
  exact ⟨fd, _, fn_alike T F, b, F.kp⟩

def ToldV (H : Hp) (t : Addr) (w1 : WN) (s : Int) (w2 : WN) (f : Int) : Prop :=
  (∃ row, H t = some (.tup [.str "parted", .str (rowS row)]) ∧ row ≠ [] ∧ row.length ≤ 1000 ∧ lparts w1 s w2 f row = true) ∨
  (∃ v, H t = some (.tup [.str "alike", v]) ∧ Alk w1 s w2 f) ∨ (∃ v, H t = some (.tup [.str "refused", v]))
def spTold (K : PySem.W.Frag) : Sp := fun vs H Q _ => ∃ b c v w1 s w2 f, vs = [.ref b, v, .int 200] ∧ Bag H b c ∧ TwoV H v w1 s w2 f ∧ okTwo w1 s w2 f ∧ ∀ t H', But b H H' → Bag H' b c → ToldV H' t w1 s w2 f → Q (.ref t) H'
theorem cal__law_told (T : Txt K mg) : C8.Cal P w K mg base 10 "_law_told" (spTold K) [] := by
  refine calD T.f__law_told T.g__law_told sc__law_told (fun fd F => F.bindsN fun _ _ _ _ _ _ us hl => match us, hl with | [_, _, _], _ => rfl) (fun vs H Q E h => by obtain ⟨_, _, _, _, _, _, _, rfl, _⟩ := h; rfl) fun cdv A outer s H vs Q E hr h => ?_
  refine ⟨_, (C8.pss_cut (ps_asg (pv 1) (pg_tup rfl (pgs_cons (pg_name (i := 3) sc__law_told.nd rfl (by first | exact Or.inl rfl | exact Or.inr rfl)) (pgs_cons (pg_name (i := 4) sc__law_told.nd rfl (by first | exact Or.inl rfl | exact Or.inr rfl)) (pgs_cons (pg_name (i := 5) sc__law_told.nd rfl (by first | exact Or.inl rfl | exact Or.inr rfl)) (pgs_cons (pg_name (i := 6) sc__law_told.nd rfl (by first | exact Or.inl rfl | exact Or.inr rfl)) pgs_nil)))))) (C8.pss_cut (ps_set (i := 7) sc__law_told.nd rfl (by first | exact Or.inl rfl | exact Or.inr rfl) (NW.pe_lstN (pa_cons (C8.pe_c (cal__law_made T) hr (by decide) rfl (pa_cons (pv 3) pa_nil)) (pa_cons (C8.pe_c (cal__law_made T) hr (by decide) rfl (pa_cons (pv 5) pa_nil)) pa_nil)))) (C8.pss_cut (ps_for PassesOwn.never rfl (pi_range1 (by rfl) T.b_range (pa_cons pe_int pa_nil)) (pg_name (i := 8) sc__law_told.nd rfl (by first | exact Or.inl rfl | exact Or.inr rfl)) (pss_one (ps_if (pt_cmpR op_eq (C8.pe_c (cal__law_take T) hr (by decide) rfl (pa_cons (pv 0) (pa_cons pe_int pa_nil))) pe_int (nomark _)) (pss_one (ps_asg (C8.pe_c (cal_read_wane T) hr (by decide) rfl (pa_cons (C8.pe_mt0 (met_Wane_text T) hr (by decide) (pe_ix ix_list (pv 7) (pv 8) (fun _ _ => rfl))) pa_nil)) (pg_sub (pv 7) (pv 8) set_list))) pss_nil))) (pss_one (ps_try_as (i := 9) (Wout := fun _ _ _ _ => False) rfl rfl sc__law_told.nd rfl rfl ⟨rfl, by decide, Or.inl T.g_TooMany⟩ takes0 (fun W pn xe tk _ => (pss_cons (ps_if (pt_cmpR op_eq (pv 2) pe_int (nomark _)) (pss_one (ps_ret (pe_cNS (call_alike0 T) hr (by decide) rfl T.g_alike (fun σ => passAt tk σ) (pa_cons (pe_ix (KX.ix_list (K := K) rfl) (pv 7) pe_int (fun _ _ => rfl)) (pa_cons (pv 4) (pa_cons (pe_ix (KX.ix_list (K := K) rfl) (pv 7) pe_int (fun _ _ => rfl)) (pa_cons (pv 6) pa_nil)))) pk_nil))) pss_nil) (pss_one (ps_ret (pe_cNS (call_alike T) hr (by decide) rfl T.g_alike (fun σ => passAt tk σ) (pa_cons (pe_ix (KX.ix_list (K := K) rfl) (pv 7) pe_int (fun _ _ => rfl)) (pa_cons (pv 4) (pa_cons (pe_ix (KX.ix_list (K := K) rfl) (pv 7) pe_int (fun _ _ => rfl)) (pa_cons (pv 6) pa_nil)))) (pk_cons (pv 2) pk_nil)))))) (fun a oe cls d pn hz hf => (pss_one (ps_ret (NW.pe_tupN (pa_cons pe_str (pa_cons (pe_xf T.xf_TooMany T.xn_TooMany hz hf (pv 9)) pa_nil))))))))))), ?_⟩
  obtain ⟨b, c, v, w1, s, w2, f, rfl, g, hv, ok, q⟩ := h
  obtain ⟨p, v1, v2, rfl, hp, p1, p2⟩ := id hv
  refine ⟨fun σ H' => H' = H ∧ σ = [some (.ref b), some (.ref p), some (.int 200), some v1, some (.int s), some v2, some (.int f), none, none, none], ?_, ?_⟩
  · exact ⟨_, rfl, p, _, rfl, SqT.of hp, rfl, _, _, rfl, _, _, rfl, _, _, rfl, _, _, rfl, rfl, rfl, rfl⟩
  rintro σ H' ⟨rfl, rfl⟩
  refine ⟨fun σ H2 => Same H' H2 ∧ ∃ D a1 a2, H' D = none ∧ H2 D = some (.lst [.ref a1, .ref a2]) ∧ WaneN K D H2 a1 w1 ∧ WaneN K D H2 a2 w2 ∧ σ = [some (.ref b), some (.ref p), some (.int 200), some v1, some (.int s), some v2, some (.int f), some (.ref D), none, none], ?_, ?_⟩
  · refine ⟨_, rfl, v1, w1, rfl, p1, ok.a, fun a1 H1 S1 h1 _ => ⟨_, rfl, v2, w2, rfl, p2.mono S1, ok.b, fun a2 H2 S2 h2 _ => ?_⟩⟩
    refine ⟨by show 2 ≤ sizeLine; decide, fun D H3 nD S3 hD => ?_⟩
    exact ⟨(S1.trans S2).trans S3, D, a1, a2, (by cases e : H' D with
      | none => rfl
      | some o => rw [S2 _ _ (S1 _ _ e)] at nD; cases nD), hD, ((h1.mono S2).new nD).mono S3, (h2.new nD).mono S3, rfl⟩
  rintro σ H2 ⟨S2, D, a1, a2, nD, hD, h1, h2, rfl⟩
  have Db := g.nb nD
  have Dc := g.nc nD
  have g2 := g.same S2
  refine ⟨fun σ H3 => But b H' H3 ∧ Bag H3 b c ∧ ∃ a1 a2 o8, H3 D = some (.lst [.ref a1, .ref a2]) ∧ WaneN K D H3 a1 w1 ∧ WaneN K D H3 a2 w2 ∧ σ = [some (.ref b), some (.ref p), some (.int 200), some v1, some (.int s), some v2, some (.int f), some (.ref D), o8, none], ?_, ?_⟩
  · refine ⟨_, rfl, by decide, by decide, for_it walk_range (fun i σ H3 => But b H' H3 ∧ Bag H3 b c ∧ ∃ a1 a2 o8, H3 D = some (.lst [.ref a1, .ref a2]) ∧ WaneN K D H3 a1 w1 ∧ WaneN K D H3 a2 w2 ∧ σ = [some (.ref b), some (.ref p), some (.int 200), some v1, some (.int s), some v2, some (.int f), some (.ref D), o8, none]) ⟨But.of S2, g2, a1, a2, _, hD, h1, h2, rfl⟩ (fun _ _ _ _ _ => trivial) ?_ ?_⟩
    · rintro i x σ H3 H4 hi ⟨S3, g3, a1, a2, o8, hD3, h1, h2, rfl⟩ ⟨rfl, rfl⟩
      refine ⟨_, rfl, b, c, 2, rfl, g3, by decide, by decide, fun v H5 _ _ s5 g5 => ⟨rfl, _, rfl, ite2 (fun _ => ?_) fun _ => ?_⟩⟩
      · have hD5 := s5 _ _ Db hD3
        have n1 := h1.but g3 s5
        have n2 := h2.but g3 s5
        match i, hi with
        | 0, _ =>
          obtain ⟨dx, _, _, _, _, _, ea, _⟩ := id n1
          refine ⟨_, rfl, _, rfl, D, _, _, _, rfl, rfl, SqL.of hD5, rfl, a1, dx, _, rfl, ea, by kernel_rfl, a1, w1, rfl, n1.at_, fun H6 S6 => ⟨w1, rfl, ok.a, fun x H7 S7 hx hn => ?_⟩⟩
          have hD7 := S7 _ _ (S6 _ _ hD5)
          have hn' := (hn D (by rw [S6 _ _ hD5]; simp)).updL (o := .lst [.ref x, .ref a2]) hD7
          have n2' := (((n2.mono S6).mono S7)).updL (o := .lst [.ref x, .ref a2]) hD7
          exact ⟨_, rfl, _, rfl, D, _, _, 0, rfl, rfl, hD7, rfl, But.mut (((S3.trans s5).same S6).same S7) nD, ((g5.same S6).same S7).put Db Dc, x, a2, _, upd_same, hn', n2', rfl⟩
        | 1, _ =>
          obtain ⟨dx, _, _, _, _, _, ea, _⟩ := id n2
          refine ⟨_, rfl, _, rfl, D, _, _, _, rfl, rfl, SqL.of hD5, rfl, a2, dx, _, rfl, ea, by kernel_rfl, a2, w2, rfl, n2.at_, fun H6 S6 => ⟨w2, rfl, ok.b, fun x H7 S7 hx hn => ?_⟩⟩
          have hD7 := S7 _ _ (S6 _ _ hD5)
          have hn' := (hn D (by rw [S6 _ _ hD5]; simp)).updL (o := .lst [.ref a1, .ref x]) hD7
          have n1' := (((n1.mono S6).mono S7)).updL (o := .lst [.ref a1, .ref x]) hD7
          exact ⟨_, rfl, _, rfl, D, _, _, 1, rfl, rfl, hD7, rfl, But.mut (((S3.trans s5).same S6).same S7) nD, ((g5.same S6).same S7).put Db Dc, a1, x, _, upd_same, n1', hn', rfl⟩
      · exact ⟨S3.trans s5, g5, a1, a2, _, s5 _ _ Db hD3, h1.but g3 s5, h2.but g3 s5, rfl⟩
    · rintro σ H3 h
      exact h
  rintro σ H3 ⟨S3, g3, a1, a2, o8, hD3, h1, h2, rfl⟩
  refine ⟨_, rfl, rfl, _, rfl, iteT ⟨_, rfl, _, _, _, _, rfl, rfl, SqL.of hD3, rfl, _, rfl, _, rfl, _, _, _, _, rfl, rfl, SqL.of hD3, rfl, _, rfl, rfl, rfl, ?_⟩⟩
  refine ⟨a1, w1, s, a2, w2, f, 200, rfl, h1.at_, h2.at_, ok.s1, ok.s2, ok.f1, ok.f2, by decide, by decide, ?_, ?_, ?_⟩
  · intro k row pp H7 t hk hc hrow hpp S7 ht
    obtain ⟨r1, r2, r3⟩ := told_row ok hrow hpp
    exact q t H7 (S3.same S7) (g3.same S7) (.inl ⟨row, ht, r1, by omega, r3⟩)
  · intro k H7 t l vs hc hk hkm S7 nl ht hl hvs
    exact q t H7 (S3.same S7) (g3.same S7) (.inr (.inl ⟨_, ht, closed_none ok hc hk⟩))
  · intro d H7 hc hm S7 hd
    refine ⟨true, T.xi_TooMany.2.2, fun _ x nx => ?_, fun z => (by cases z)⟩
    refine ⟨_, rfl, rfl, rfl, d, _, _, rfl, hd, rfl, by show 2 ≤ sizeLine; decide, fun t H9 nt S9 ht => q t H9 ((S3.same S7).same S9) ((g3.same S7).same S9) (.inr (.inr ⟨_, ht⟩))⟩
end
end WH

set_option maxHeartbeats 4000000
namespace WH
open PySem PySem.Spec PyProof.Rows L2
theorem joinL_nil : ∀ l : List Bool, TL.joinL [] (l.map fun b => [code b]) = l.map code
  | [] => rfl
  | [b] => rfl
  | a :: b :: l => by
    show [code a] ++ ([] ++ TL.joinL [] ((b :: l).map fun b => [code b])) = _
    rw [joinL_nil (b :: l)]; rfl
theorem join_row (l : List Bool) : Txt.join "" (l.map sgn) = rowS l := by
  have e : l.map sgn = (l.map fun b => [code b]).map SX.S := by
    rw [List.map_map]
    exact List.map_congr_left fun b _ => by cases b <;> decide +kernel
  rw [e, show ("" : Str) = SX.S [] from by decide +kernel, SX.join_S, joinL_nil]; rfl
theorem sum_ones (l : List Bool) : ((l.map sgn).map fun x => x.length).sum = l.length := by
  induction l with
  | nil => rfl
  | cons b l ih =>
    rw [List.map_cons, List.map_cons, List.sum_cons, ih]
    have : (sgn b).length = 1 := by cases b <;> decide +kernel
    rw [this, List.length_cons]; omega
theorem pick5 {z1 z2 z3 z4 z5 : V} {v : Int} (h0 : 0 ≤ v) (h1 : v < 5) {F : V → Prop} (f1 : F z1) (f2 : F z2) (f3 : F z3) (f4 : F z4) (f5 : F z5) : ∃ y, F y ∧ atI [z1, z2, z3, z4, z5] v = some y := by
  obtain rfl | rfl | rfl | rfl | rfl : v = 0 ∨ v = 1 ∨ v = 2 ∨ v = 3 ∨ v = 4 := by omega
  · exact ⟨_, f1, rfl⟩
  · exact ⟨_, f2, rfl⟩
  · exact ⟨_, f3, rfl⟩
  · exact ⟨_, f4, rfl⟩
  · exact ⟨_, f5, rfl⟩
def Often (v : V) : Prop := ∃ l : List Bool, v = .str (rowS l) ∧ 1 ≤ l.length ∧ l.length ≤ 5
theorem oft1 : Often (.str ".") := ⟨[true], congrArg V.str (by decide +kernel), by decide, by decide⟩
theorem oft2 : Often (.str "....a") := ⟨[true, true, true, true, false], congrArg V.str (by decide +kernel), by decide, by decide⟩
theorem oft3 : Often (.str "..a") := ⟨[true, true, false], congrArg V.str (by decide +kernel), by decide, by decide⟩
theorem oft4 : Often (.str ".a") := ⟨[true, false], congrArg V.str (by decide +kernel), by decide, by decide⟩
theorem oft5 : Often (.str ".aaa") := ⟨[true, false, false, false], congrArg V.str (by decide +kernel), by decide, by decide⟩
theorem row_at (l : List Bool) {i : Int} (h0 : 0 ≤ i) (h1 : i < l.length) : ∃ bb, atI (rowS l).cps.toList i = some (code bb) := by
  obtain ⟨n, rfl⟩ := Int.eq_ofNat_of_zero_le h0
  have hn : n < l.length := by omega
  refine ⟨l[n], atI_nat ?_⟩
  show (l.map code)[n]? = _
  rw [List.getElem?_map, List.getElem?_eq_getElem hn]; rfl
section
variable {P : Program} {w : World} {K : PySem.W.Frag} {mg : Str → Option Value} {base : Heap}
def spLRow : Sp := fun vs H Q _ => ∃ b c n, vs = [.ref b, .int n] ∧ 1 ≤ n ∧ n ≤ 200 ∧ Bag H b c ∧ ∀ l H', But b H H' → Bag H' b c → 1 ≤ l.length → (l.length : Int) ≤ n → Q (.str (rowS l)) H'
theorem cal__law_row (T : Txt K mg) : C8.Cal P w K mg base 2 "_law_row" spLRow [] := by
  refine calD T.f__law_row T.g__law_row sc__law_row (fun fd F => F.bindsN fun _ _ _ _ _ _ us hl => match us, hl with | [_, _], _ => rfl) (fun vs H Q E h => by obtain ⟨_, _, _, rfl, _⟩ := h; rfl) fun cdv A outer s H vs Q E hr h => ?_
  refine ⟨_, (C8.pss_cut (ps_set (i := 2) sc__law_row.nd rfl (by first | exact Or.inl rfl | exact Or.inr rfl) (pe_op op_add pe_int (C8.pe_c (cal__law_take T) hr (by decide) rfl (pa_cons (pv 0) (pa_cons (pv 1) pa_nil))))) (C8.pss_cut (ps_set (i := 3) sc__law_row.nd rfl (by first | exact Or.inl rfl | exact Or.inr rfl) (pe_ix ix_list (NW.pe_lstN (pa_cons pe_str (pa_cons pe_str (pa_cons pe_str (pa_cons pe_str (pa_cons pe_str pa_nil)))))) (C8.pe_c (cal__law_take T) hr (by decide) rfl (pa_cons (pv 0) (pa_cons pe_int pa_nil))) (fun _ _ => rfl))) (pss_one (ps_ret (pe_join pe_str (pe_lc (own := [("_law_k", 4)]) (by rfl) sc__law_row.nd (pi_range1 (by rfl) T.b_range (pa_cons (pv 2) pa_nil)) (blkOk_by (own := [("_law_k", 4)]) (N := n__law_row) (sc := defScope s__law_row) (by decide +kernel)) (fun _ _ _ _ _ => (pg_name (i := 4) sc__law_row.nd rfl (by first | exact Or.inl rfl | exact Or.inr rfl))) (fun _ _ _ _ _ => pts_nil) (fun _ _ _ _ _ => (pe_ix ix_str (pv 3) (C8.pe_c (cal__law_take T) hr (by decide) rfl (pa_cons (pv 0) (pa_cons (pe_callB (KX.call_len (K := K) rfl) (by rfl) T.b_len (by decide +kernel) (pa_cons (pv 3) pa_nil)) pa_nil))) (fun _ _ => rfl))))))))), ?_⟩
  obtain ⟨b, c, n, rfl, n1, n2, g, q⟩ := h
  refine ⟨fun σ H' => But b H H' ∧ Bag H' b c ∧ ∃ m : Nat, 1 ≤ m ∧ (m : Int) ≤ n ∧ σ = [some (.ref b), some (.int n), some (.int (m : Nat)), none, none], ?_, ?_⟩
  · refine ⟨_, rfl, _, rfl, b, c, _, rfl, g, by omega, by omega, fun v H1 a1 a2 s1 g1 => ⟨_, _, rfl, rfl, s1, g1, (1 + v).toNat, by omega, by omega, ?_⟩⟩
    rw [show (((1 + v).toNat : Nat) : Int) = 1 + v by omega]; rfl
  rintro σ H1 ⟨s1, g1, m, m1, mn, rfl⟩
  refine ⟨fun σ H' => But b H H' ∧ Bag H' b c ∧ ∃ z, Often z ∧ σ = [some (.ref b), some (.int n), some (.int (m : Nat)), some z, none], ?_, ?_⟩
  · refine ⟨by show 5 ≤ sizeLine; decide, fun D H2 nD S2 hD => ⟨_, rfl, b, c, 5, rfl, g1.same S2, by decide, by decide, fun v H3 v0 v1 s3 g3 => ?_⟩⟩
    have hD3 := s3 _ _ (g1.nb nD) hD
    obtain ⟨y, hy, ey⟩ := pick5 (F := Often) v0 v1 oft1 oft2 oft3 oft4 oft5
    exact ⟨D, _, _, _, rfl, rfl, SqL.of hD3, ey, (s1.same S2).trans s3, g3, y, hy, rfl⟩
  rintro σ H2 ⟨s2, g2, z, ⟨lo, rfl, lo1, lo5⟩, rfl⟩
  refine ⟨⟨_, rfl⟩, _, rfl, _, rfl, by omega, by omega, fun E nE => ?_⟩
  have Eb := g2.nb nE
  have Ec := g2.nc nE
  refine lc_it walk_range (fun i H' => But b H2 H' ∧ Bag H' b c ∧ ∃ ms : List Bool, H' E = some (.lst ((ms.map sgn).map V.str)) ∧ ms.length = i) ⟨But.of (same_new nE), g2.same (same_new nE), [], upd_same, rfl⟩ (fun _ _ _ _ => trivial) ?_ ?_
  · rintro i x HA H' hi ⟨S4, gA, ms, hm, hml⟩ ⟨rfl, rfl⟩
    have ll := rowS_len lo
    refine ⟨rfl, _, rfl, _, rfl, _, rfl, _, _, rfl, ⟨Nat.le_of_lt (small1000 (by omega)), rfl⟩, b, c, _, rfl, gA, by omega, by omega, fun v HB v0 v1 sB gB => ?_⟩
    obtain ⟨bb, eb⟩ := row_at lo v0 (by omega)
    refine ⟨_, _, _, rfl, rfl, Nat.le_of_lt (small1000 (by omega)), eb, _, sB _ _ Eb hm, ?_, (S4.trans sB).mut nE, gB.put Eb Ec, ms ++ [bb], ?_, by simp [hml]⟩
    · rw [List.length_map, List.length_map]; exact small1000 (by omega)
    · rw [upd_same, List.map_append, List.map_append, show V.str ⟨#[code bb]⟩ = V.str (sgn bb) by cases bb <;> decide +kernel]; rfl
  · rintro HA ⟨S4, gA, ms, hm, hml⟩
    refine ⟨_, E, ms.map sgn, rfl, rfl, .inl (SqL.of hm), ?_, ?_⟩
    · rw [sum_ones]
      show ms.length + (ms.map sgn).length * 0 ≤ 16777216
      omega
    rw [join_row]
    exact q _ HA (s2.trans S4) gA (by omega) (by omega)
def aliveL (w : WN) (s : Int) (l : List Bool) : List Bool := (List.range (l.length + 1)).map fun j => decide (0 < (stA w (s, 0) (l.take j)).1)
theorem bools_lay : ∀ bs : List Bool, PyData.canLayAll0 (bs.map PyData.bool) = true ∧ PyData.depthAll (bs.map PyData.bool) ≤ 1
  | [] => by simp [PyData.canLayAll0, PyData.depthAll]
  | b :: r => by
    have ih := bools_lay r
    exact ⟨by simp [PyData.canLayAll0, PyData.canLay0, ih.1], by
      have := ih.2
      simp only [List.map_cons, PyData.depthAll, PyData.depth]; omega⟩
theorem bools_eqvAll : ∀ bs : List Bool, PyData.eqvAll (bs.map PyData.bool) (bs.map PyData.bool) = true
  | [] => by simp [PyData.eqvAll]
  | b :: r => by simp [PyData.eqvAll, PyData.eqv, bools_eqvAll r]
theorem bools_eqv (bs : List Bool) : PyData.eqv (.list (bs.map PyData.bool)) (.list (bs.map PyData.bool)) = true := by
  rw [PyData.eqv]; exact bools_eqvAll bs
theorem bools_shaped (bs : List Bool) : SeqAt.shaped (.list (bs.map PyData.bool)) = true := by
  obtain ⟨a1, a2⟩ := bools_lay bs
  unfold SeqAt.shaped
  rw [show PyData.canLay0 (.list (bs.map PyData.bool)) = true by simp [PyData.canLay0, a1], decide_eq_true (by simp only [PyData.depth]; omega)]; rfl
theorem dpAll_bools {K : PySem.W.Frag} {H : Hp} : ∀ bs : List Bool, DpAll K H (bs.map V.bl) (bs.map PyData.bool)
  | [] => .nil
  | b :: r => .cons (.bl b) (dpAll_bools r)
theorem ends_lc {K : PySem.W.Frag} {H : Hp} {w : WN} {s : Int} {l : List Bool} (hl : l.length ≤ 200) {te : TE} {o0 o1 o2 o3 o4 o5 o6 o7 o8 : Option V} (hte : ∀ R : VK, (∀ p vs H', Same H H' → H' p = some (.lst vs) → Paired (PairV H') vs (alongS w (s, (0 : Nat)) l (l.length + 1)) → R (.ref p) H') → te [o0, o1, o2, o3, o4, o5, o6, o7, o8] H R) {Q : VK}
    (q : ∀ D H', Same H H' → H' D = some (.lst ((aliveL w s l).map V.bl)) → Q (.ref D) H') :
    tLc (iList K te) (gTup K 2 (gCons (gName 6) (gCons (gName 7) gNil))) tYes (tOp (rI0 fun i j => V.bl (decide (j < i))) (tVar 6) (tC (V.int 0))) [6, 7] [o0, o1, o2, o3, o4, o5, o6, o7, o8] H Q := by
  refine hte _ fun p vs H0 S0 hv hp => ⟨p, rfl, ⟨_, SqL.of hv⟩, fun D nD => ?_⟩
  have le := paired_len hp
  rw [alongS, List.length_map, List.length_range] at le
  refine lc_it (g := gTup K 2 (gCons (gName 6) (gCons (gName 7) gNil))) (tt := tYes) (te := tOp (rI0 fun i j => V.bl (decide (j < i))) (tVar 6) (tC (V.int 0))) (vs := [6, 7]) (σ := [o0, o1, o2, o3, o4, o5, o6, o7, o8]) (Qd := Q (.ref D)) (walk_list (K := K) (xs := vs)) (fun i H' => Same H0 H' ∧ H' D = some (.lst (((aliveL w s l).take i).map V.bl))) ⟨same_new nD, upd_same⟩ (fun i H' _ h => SqL.of (h.1 _ _ hv)) ?_ ?_
  · rintro i x H3 H4 hi ⟨S3, hD⟩ ⟨rfl, hy⟩
    have i2 : i < l.length + 1 := by omega
    obtain ⟨r, hr, t, rfl, ht⟩ := paired_get hp hy
    have er : r = stA w (s, 0) (l.take i) := by
      unfold alongS at hr
      rw [List.getElem?_map, List.getElem?_range i2] at hr
      exact (Option.some.inj hr).symm
    subst er
    refine ⟨t, _, rfl, SqT.of (S3 _ _ ht), rfl, _, _, rfl, _, _, rfl, rfl, rfl, _, rfl, _, _, rfl, rfl, ?_⟩
    have ea : (aliveL w s l)[i]? = some (decide (0 < (stA w (s, 0) (l.take i)).1)) := by
      unfold aliveL
      rw [List.getElem?_map, List.getElem?_range i2]; rfl
    refine ⟨_, hD, small1000 ?_, Same.mut S3 nD, ?_⟩
    · rw [List.length_map, List.length_take]; omega
    · rw [upd_same, take_snoc ea, List.map_append]; rfl
  · rintro H3 ⟨S3, hD⟩
    rw [List.take_of_length_le (by rw [le, aliveL, List.length_map, List.length_range]; exact Nat.le_refl _)] at hD
    exact q D H3 (S0.trans S3) hD
def spStand (K : PySem.W.Frag) : Sp := fun vs H Q _ => ∃ a1 w1 s a2 w2 f l, vs = [.ref a1, .int s, .ref a2, .int f, .str (rowS l)] ∧ WaneAt K H a1 w1 ∧ WaneAt K H a2 w2 ∧ okTwo w1 s w2 f ∧ Alk w1 s w2 f ∧ l.length ≤ 200 ∧ ∀ H', Same H H' → Q (.bl true) H'
theorem cal__law_stand (T : Txt K mg) : C8.Cal P w K mg base 5 "_law_stand" (spStand K) [] := by
  refine calD T.f__law_stand T.g__law_stand sc__law_stand (fun fd F => F.bindsN fun _ _ _ _ _ _ us hl => match us, hl with | [_, _, _, _, _], _ => rfl) (fun vs H Q E h => by obtain ⟨_, _, _, _, _, _, _, rfl, _⟩ := h; rfl) fun cdv A outer s H vs Q E hr h => ?_
  refine ⟨_, (C8.pss_cut (ps_setLc (i := 5) (own := [("_law_end", 6), ("_law_since", 7)]) (by rfl) sc__law_stand.nd rfl rfl (sw_true rfl rfl rfl (by decide +kernel)) (pi_list (C8.pe_c (cal_along T) hr (by decide) rfl (pa_cons (pv 0) (pa_cons (pv 1) (pa_cons (pv 4) pa_nil))))) (blkOk_by (own := [("_law_end", 6), ("_law_since", 7)]) (N := n__law_stand) (sc := defScope s__law_stand) (by decide +kernel)) (fun _ _ _ _ _ => (KX.pg_tup (K := K) (n := 2) rfl rfl (pgs_cons (pg_name (i := 6) sc__law_stand.nd rfl (by first | exact Or.inl rfl | exact Or.inr rfl)) (pgs_cons (pg_name (i := 7) sc__law_stand.nd rfl (by first | exact Or.inl rfl | exact Or.inr rfl)) pgs_nil)))) (fun _ _ _ _ _ => pts_nil) (fun _ _ _ _ _ => (pe_cmpR op_gt (pv 6) pe_int (nomark _)))) (C8.pss_cut (ps_setLc (i := 8) (own := [("_law_end", 6), ("_law_since", 7)]) (by rfl) sc__law_stand.nd rfl rfl (sw_true rfl rfl rfl (by decide +kernel)) (pi_list (C8.pe_c (cal_along T) hr (by decide) rfl (pa_cons (pv 2) (pa_cons (pv 3) (pa_cons (pv 4) pa_nil))))) (blkOk_by (own := [("_law_end", 6), ("_law_since", 7)]) (N := n__law_stand) (sc := defScope s__law_stand) (by decide +kernel)) (fun _ _ _ _ _ => (KX.pg_tup (K := K) (n := 2) rfl rfl (pgs_cons (pg_name (i := 6) sc__law_stand.nd rfl (by first | exact Or.inl rfl | exact Or.inr rfl)) (pgs_cons (pg_name (i := 7) sc__law_stand.nd rfl (by first | exact Or.inl rfl | exact Or.inr rfl)) pgs_nil)))) (fun _ _ _ _ _ => pts_nil) (fun _ _ _ _ _ => (pe_cmpR op_gt (pv 6) pe_int (nomark _)))) (pss_one (ps_ret (pe_cmpR (op_eqD hr.units) (pv 5) (pv 8) (nomark _)))))), ?_⟩
  obtain ⟨a1, w1, s, a2, w2, f, l, rfl, h1, h2, ok, al, hl, q⟩ := h
  refine ⟨fun σ H' => Same H H' ∧ ∃ D, H' D = some (.lst ((aliveL w1 s l).map V.bl)) ∧ ∃ o6 o7, σ = [some (.ref a1), some (.int s), some (.ref a2), some (.int f), some (.str (rowS l)), some (.ref D), o6, o7, none], ?_, ?_⟩
  · exact ends_lc hl (fun R r => ⟨_, rfl, _, rfl, _, rfl, a1, w1, s, l, 0, rfl, h1, by have := ok.s1; omega, ok.s2, hl, by decide, fun H' p vs S hv hp => r p vs H' S hv hp⟩) fun D H' S hD => ⟨S, D, hD, _, _, rfl⟩
  rintro σ H1 ⟨S1, D, hD, o6, o7, rfl⟩
  refine ⟨fun σ H' => Same H H' ∧ ∃ D D2, H' D = some (.lst ((aliveL w1 s l).map V.bl)) ∧ H' D2 = some (.lst ((aliveL w2 f l).map V.bl)) ∧ ∃ o6 o7, σ = [some (.ref a1), some (.int s), some (.ref a2), some (.int f), some (.str (rowS l)), some (.ref D), o6, o7, some (.ref D2)], ?_, ?_⟩
  · exact ends_lc hl (fun R r => ⟨_, rfl, _, rfl, _, rfl, a2, w2, f, l, 0, rfl, h2.mono S1, by have := ok.f1; omega, ok.f2, hl, by decide, fun H' p vs S hv hp => r p vs H' S hv hp⟩) fun D2 H' S hD2 => ⟨S1.trans S, D, D2, S _ _ hD, hD2, _, _, rfl⟩
  rintro σ H2 ⟨S2, D, D2, hD, hD2, o6, o7, rfl⟩
  have e : aliveL w2 f l = aliveL w1 s l := by
    unfold aliveL
    exact List.map_congr_left fun j _ => (al.pos _).symm
  rw [e] at hD2
  refine ⟨_, rfl, _, rfl, _, _, .lst (SqL.of hD) (dpAll_bools _), .lst (SqL.of hD2) (dpAll_bools _), bools_shaped _, bools_shaped _, ?_⟩
  rw [bools_eqv]
  exact q H2 S2
end
end WH

set_option maxHeartbeats 4000000
namespace WH
open PySem PySem.Spec PyProof.Rows L2
theorem iteFo {c : Bool} {A B : Prop} (h : c = false) (b : B) : if c = true then A else B := by rw [h]; exact b
/-- the two fates: both go in the same round at the same sign, or both stay -/
def FF (H : Hp) (u1 u2 : Addr) (w1 : WN) (s : Int) (l : List Bool) : Prop :=
  (∃ t k : Nat, H u1 = some (.tup [.str "goes", .int (t : Nat), .int (k : Nat)]) ∧ H u2 = some (.tup [.str "goes", .int (t : Nat), .int (k : Nat)]) ∧ (rndN w1 l t (s, 0)).1 ≠ 0 ∧ (rndN w1 l (t + 1) (s, 0)).1 = 0) ∨
  (∃ (t1 t2 : Nat) (v1 v2 : V), H u1 = some (.tup [.str "stays", .int (t1 : Nat), v1]) ∧ H u2 = some (.tup [.str "stays", .int (t2 : Nat), v2]))
theorem FF.tup {H H' : Hp} (S : Tup H H') {u1 u2 : Addr} {w1 : WN} {s : Int} {l : List Bool} : FF H u1 u2 w1 s l → FF H' u1 u2 w1 s l
  | .inl ⟨t, k, a, b, c⟩ => .inl ⟨t, k, S _ _ a, S _ _ b, c⟩
  | .inr ⟨t1, t2, v1, v2, a, b⟩ => .inr ⟨t1, t2, v1, v2, S _ _ a, S _ _ b⟩
section
variable {P : Program} {w : World} {K : PySem.W.Frag} {mg : Str → Option Value} {base : Heap}
def spRounds (K : PySem.W.Frag) : Sp := fun vs H Q _ => ∃ b c a1 w1 s a2 w2 f, vs = [.ref b, .ref a1, .int s, .ref a2, .int f] ∧ Bag H b c ∧ WaneAt K H a1 w1 ∧ WaneAt K H a2 w2 ∧ okTwo w1 s w2 f ∧ Alk w1 s w2 f ∧ ∀ H', But b H H' → Bag H' b c → Q (.bl true) H'
theorem cal__law_rounds (T : Txt K mg) : C8.Cal P w K mg base 9 "_law_rounds" (spRounds K) [] := by
  refine calD T.f__law_rounds T.g__law_rounds sc__law_rounds (fun fd F => F.bindsN fun _ _ _ _ _ _ us hl => match us, hl with | [_, _, _, _, _], _ => rfl) (fun vs H Q E h => by obtain ⟨_, _, _, _, _, _, _, _, rfl, _⟩ := h; rfl) fun cdv A outer s H vs Q E hr h => ?_
  refine ⟨_, (C8.pss_cut (ps_set (i := 5) sc__law_rounds.nd rfl (by first | exact Or.inl rfl | exact Or.inr rfl) (C8.pe_c (cal__law_row T) hr (by decide) rfl (pa_cons (pv 0) (pa_cons pe_int pa_nil)))) (C8.pss_cut (ps_set (i := 6) sc__law_rounds.nd rfl (by first | exact Or.inl rfl | exact Or.inr rfl) (NW.pe_lstN (pa_cons (C8.pe_c (cal_fate T) hr (by decide) rfl (pa_cons (pv 1) (pa_cons (pv 2) (pa_cons (pv 5) pa_nil)))) (pa_cons (C8.pe_c (cal_fate T) hr (by decide) rfl (pa_cons (pv 3) (pa_cons (pv 4) (pa_cons (pv 5) pa_nil)))) pa_nil)))) (C8.pss_cut (ps_if (PW.pt (pw_or (pt_cmpR op_ne (pe_ix ix_tup (pe_ix ix_list (pv 6) pe_int (fun _ _ => rfl)) pe_int (fun _ _ => rfl)) (pe_ix ix_tup (pe_ix ix_list (pv 6) pe_int (fun _ _ => rfl)) pe_int (fun _ _ => rfl)) (nomark _)) (pw_or1 (PW.pt (pw_and (pt_cmpR op_eq (pe_ix ix_tup (pe_ix ix_list (pv 6) pe_int (fun _ _ => rfl)) pe_int (fun _ _ => rfl)) pe_str (nomark _)) (pw_and1 (pt_cmpR (op_neD hr.units) (pe_ix ix_list (pv 6) pe_int (fun _ _ => rfl)) (pe_ix ix_list (pv 6) pe_int (fun _ _ => rfl)) (nomark _)))))))) (pss_one (ps_ret pe_bl)) pss_nil) (pss_cons (ps_for PassesOwn.never rfl (pi_range1 (by rfl) T.b_range (pa_cons pe_int pa_nil)) (pg_name (i := 7) sc__law_rounds.nd rfl (by first | exact Or.inl rfl | exact Or.inr rfl)) (C8.pss_cut (ps_set (i := 8) sc__law_rounds.nd rfl (by first | exact Or.inl rfl | exact Or.inr rfl) (pe_ix ix_list (NW.pe_lstN (pa_cons (C8.pe_c (cal__law_take T) hr (by decide) rfl (pa_cons (pv 0) (pa_cons pe_int pa_nil))) (pa_cons (C8.pe_c (cal__law_take T) hr (by decide) rfl (pa_cons (pv 0) (pa_cons (pe_op op_pow pe_int pe_int) pa_nil))) (pa_cons (pe_op op_sub (pe_op op_pow pe_int pe_int) (C8.pe_c (cal__law_take T) hr (by decide) rfl (pa_cons (pv 0) (pa_cons pe_int pa_nil)))) pa_nil)))) (C8.pe_c (cal__law_take T) hr (by decide) rfl (pa_cons (pv 0) (pa_cons pe_int pa_nil))) (fun _ _ => rfl))) (C8.pss_cut (ps_set (i := 9) sc__law_rounds.nd rfl (by first | exact Or.inl rfl | exact Or.inr rfl) (NW.pe_lstN (pa_cons (pe_ix ix_tup (C8.pe_c (cal_behind T) hr (by decide) rfl (pa_cons (pv 1) (pa_cons (pv 2) (pa_cons (pv 5) (pa_cons (pv 8) pa_nil))))) pe_int (fun _ _ => rfl)) (pa_cons (pe_ix ix_tup (C8.pe_c (cal_behind T) hr (by decide) rfl (pa_cons (pv 3) (pa_cons (pv 4) (pa_cons (pv 5) (pa_cons (pv 8) pa_nil))))) pe_int (fun _ _ => rfl)) pa_nil)))) (C8.pss_cut (ps_if (pt_cmpR op_ne (pe_cmpR op_gt (pe_ix ix_list (pv 9) pe_int (fun _ _ => rfl)) pe_int (nomark _)) (pe_cmpR op_gt (pe_ix ix_list (pv 9) pe_int (fun _ _ => rfl)) pe_int (nomark _)) (nomark _)) (pss_one (ps_ret pe_bl)) pss_nil) (pss_one (ps_if (PW.pt (pw_and (pt_cmpR op_eq (pe_ix ix_tup (pe_ix ix_list (pv 6) pe_int (fun _ _ => rfl)) pe_int (fun _ _ => rfl)) pe_str (nomark _)) (pw_and1 (pt_cmpR op_ne (pe_cmpR op_gt (pe_ix ix_list (pv 9) pe_int (fun _ _ => rfl)) pe_int (nomark _)) (pe_cmpR op_le (pv 8) (pe_ix ix_tup (pe_ix ix_list (pv 6) pe_int (fun _ _ => rfl)) pe_int (fun _ _ => rfl)) (nomark _)) (nomark _))))) (pss_one (ps_ret pe_bl)) pss_nil)))))) (pss_one (ps_ret pe_bl)))))), ?_⟩
  obtain ⟨b, c, a1, w1, s, a2, w2, f, rfl, g, h1, h2, ok, al, q⟩ := h
  have s1 := ok.s1
  have f1 := ok.f1
  refine ⟨fun σ H' => But b H H' ∧ Bag H' b c ∧ ∃ l : List Bool, 1 ≤ l.length ∧ l.length ≤ 48 ∧ σ = [some (.ref b), some (.ref a1), some (.int s), some (.ref a2), some (.int f), some (.str (rowS l)), none, none, none, none], ?_, ?_⟩
  · exact ⟨_, rfl, b, c, 48, rfl, by decide, by decide, g, fun l H' S g' l1 l48 => ⟨S, g', l, l1, by omega, rfl⟩⟩
  rintro σ H1 ⟨S1, g1, l, l1, l48, rfl⟩
  refine ⟨fun σ H' => But b H H' ∧ Bag H' b c ∧ ∃ D u1 u2, D ≠ b ∧ H' D = some (.lst [.ref u1, .ref u2]) ∧ FF H' u1 u2 w1 s l ∧ σ = [some (.ref b), some (.ref a1), some (.int s), some (.ref a2), some (.int f), some (.str (rowS l)), some (.ref D), none, none, none], ?_, ?_⟩
  · refine ⟨_, rfl, _, rfl, _, rfl, a1, w1, s, l, 0, rfl, h1.but g S1, s1, ok.s2, l1, l48, by decide, ?_, ?_⟩
    · intro t k u1 H2 S2 hu tl r0 r1 kl k1 k0
      refine ⟨_, rfl, _, rfl, _, rfl, a2, w2, f, l, 0, rfl, (h2.but g S1).mono S2, f1, ok.f2, l1, l48, by decide, ?_, ?_⟩
      · intro t2 k2 u2 H3 S3 hu2 tl2 q0 q1 kl2 j1 j0
        refine ⟨by show 2 ≤ sizeLine; decide, fun D H4 nD S4 hD => ⟨((S1.same S2).same S3).same S4, ((g1.same S2).same S3).same S4, D, u1, u2, ((g1.same S2).same S3).nb nD, hD, ?_, rfl⟩⟩
        obtain rfl := al.last ok r0 r1 q0 q1
        obtain rfl := al.sign ok k1 k0 j1 j0
        exact .inl ⟨t, k, S4 _ _ (S3 _ _ hu), S4 _ _ hu2, r0, r1⟩
      · intro t2 v u2 H3 S3 hu2 q0
        exact absurd ((al.rnd0 ok l _).mp (rnd_stays ok.a r1 (by omega))) q0
    · intro t v u1 H2 S2 hu r0
      refine ⟨_, rfl, _, rfl, _, rfl, a2, w2, f, l, 0, rfl, (h2.but g S1).mono S2, f1, ok.f2, l1, l48, by decide, ?_, ?_⟩
      · intro t2 k2 u2 H3 S3 hu2 tl2 q0 q1 kl2 j1 j0
        exact absurd ((al.rnd0 ok l _).mpr (rnd_stays ok.b q1 (by omega))) r0
      · intro t2 v2 u2 H3 S3 hu2 q0
        refine ⟨by show 2 ≤ sizeLine; decide, fun D H4 nD S4 hD => ⟨((S1.same S2).same S3).same S4, ((g1.same S2).same S3).same S4, D, u1, u2, ((g1.same S2).same S3).nb nD, hD, ?_, rfl⟩⟩
        exact .inr ⟨t, t2, v, v2, S4 _ _ (S3 _ _ hu), S4 _ _ hu2⟩
  rintro σ H2 ⟨S2, g2, D, u1, u2, Db, hD, ff, rfl⟩
  refine ⟨fun σ H' => H' = H2 ∧ σ = [some (.ref b), some (.ref a1), some (.int s), some (.ref a2), some (.int f), some (.str (rowS l)), some (.ref D), none, none, none], ?_, ?_⟩
  · rcases ff with ⟨t, k, e1, e2, _⟩ | ⟨t1, t2, v1, v2, e1, e2⟩
    · refine ⟨_, rfl, D, _, _, _, rfl, rfl, SqL.of hD, rfl, u1, _, _, _, rfl, rfl, SqT.of e1, rfl, _, rfl, D, _, _, _, rfl, rfl, SqL.of hD, rfl, u2, _, _, _, rfl, rfl, SqT.of e2, rfl, rfl, _, rfl, ?_⟩
      rw [show (!decide (V.str "goes" = V.str "goes")) = false by decide +kernel]
      refine iteF ⟨_, rfl, D, _, _, _, rfl, rfl, SqL.of hD, rfl, u1, _, _, _, rfl, rfl, SqT.of e1, rfl, rfl, _, rfl, ?_⟩
      rw [show decide (V.str "goes" = V.str "goes") = true by decide +kernel]
      refine iteT ⟨_, rfl, D, _, _, _, rfl, rfl, SqL.of hD, rfl, _, rfl, D, _, _, _, rfl, rfl, SqL.of hD, rfl, ?_⟩
      have d1 : ∀ u, H2 u = some (.tup [.str "goes", .int (t : Nat), .int (k : Nat)]) → Dp K H2 (.ref u) (.tuple [.str "goes", .int (t : Nat), .int (k : Nat)]) := fun u e => .tup (SqT.of e) (.cons (.str _) (.cons (.int _) (.cons (.int _) .nil)))
      have sh : SeqAt.shaped (.tuple [.str "goes", .int (t : Nat), .int (k : Nat)]) = true := by
        simp [SeqAt.shaped, PyData.canLay0, PyData.canLayAll0, PyData.depth, PyData.depthAll]
        decide +kernel
      refine ⟨_, _, d1 u1 e1, d1 u2 e2, sh, sh, _, rfl, ?_⟩
      have ev : PyData.eqv (.tuple [.str "goes", .int (t : Nat), .int (k : Nat)]) (.tuple [.str "goes", .int (t : Nat), .int (k : Nat)]) = true := by simp [PyData.eqv, PyData.eqvAll]
      rw [ev]
      exact iteF ⟨rfl, rfl⟩
    · refine ⟨_, rfl, D, _, _, _, rfl, rfl, SqL.of hD, rfl, u1, _, _, _, rfl, rfl, SqT.of e1, rfl, _, rfl, D, _, _, _, rfl, rfl, SqL.of hD, rfl, u2, _, _, _, rfl, rfl, SqT.of e2, rfl, rfl, _, rfl, ?_⟩
      rw [show (!decide (V.str "stays" = V.str "stays")) = false by decide +kernel]
      refine iteF ⟨_, rfl, D, _, _, _, rfl, rfl, SqL.of hD, rfl, u1, _, _, _, rfl, rfl, SqT.of e1, rfl, rfl, _, rfl, ?_⟩
      rw [show decide (V.str "stays" = V.str "goes") = false by decide +kernel]
      exact iteF (iteF ⟨rfl, rfl⟩)
  rintro σ H3 ⟨rfl, rfl⟩
  refine ⟨_, rfl, by decide, by decide, for_it walk_range (fun i σ H' => But b H3 H' ∧ Bag H' b c ∧ ∃ o7 o8 o9, σ = [some (.ref b), some (.ref a1), some (.int s), some (.ref a2), some (.int f), some (.str (rowS l)), some (.ref D), o7, o8, o9]) ⟨But.refl _ _, g2, _, _, _, rfl⟩ (fun _ _ _ _ _ => trivial) ?_ ?_⟩
  · rintro i x σ H4 H5 hi ⟨S4, g4, o7, o8, o9, rfl⟩ ⟨rfl, rfl⟩
    refine ⟨fun σ H' => But b H3 H' ∧ Bag H' b c ∧ ∃ (n : Nat) (o9 : Option V), (n : Int) ≤ 1000000000000000000000000000000 ∧ σ = [some (.ref b), some (.ref a1), some (.int s), some (.ref a2), some (.int f), some (.str (rowS l)), some (.ref D), some (.int (0 + i)), some (.int (n : Nat)), o9], ?_, ?_⟩
    · refine ⟨_, rfl, b, c, 60, rfl, g4, by decide, by decide, fun v1 H6 x0 x1 s6 g6 => ⟨_, rfl, _, _, rfl, rfl, ⟨by decide, by decide, by decide⟩, b, c, _, rfl, g6, by decide, by decide, fun v2 H7 y0 y1 s7 g7 => ⟨_, _, rfl, rfl, ⟨by decide, by decide, by decide⟩, _, rfl, b, c, 9, rfl, g7, by decide, by decide, fun v3 H8 z0 z1 s8 g8 => ⟨_, _, rfl, rfl, by show 3 ≤ sizeLine; decide, fun F H9 nF S9 hF => ?_⟩⟩⟩⟩
      refine ⟨_, rfl, b, c, 3, rfl, g8.same S9, by decide, by decide, fun v4 H10 t0 t1 s10 g10 => ?_⟩
      have hF' := s10 _ _ (g8.nb nF) hF
      have y1 : v2 < 1000000000 := y1
      obtain ⟨y, ⟨n, rfl, hn⟩, ey⟩ : ∃ y, (∃ n : Nat, y = V.int (n : Nat) ∧ (n : Int) ≤ 1000000000000000000000000000000) ∧ atI [V.int v1, V.int v2, V.int (1000000000000000000000000000000 - v3)] v4 = some y := by
        obtain rfl | rfl | rfl : v4 = 0 ∨ v4 = 1 ∨ v4 = 2 := by omega
        · exact ⟨_, ⟨v1.toNat, congrArg V.int (by omega), by omega⟩, rfl⟩
        · exact ⟨_, ⟨v2.toNat, congrArg V.int (by omega), by omega⟩, rfl⟩
        · exact ⟨_, ⟨(1000000000000000000000000000000 - v3).toNat, congrArg V.int (by omega), by omega⟩, rfl⟩
      exact ⟨F, _, _, _, rfl, rfl, SqL.of hF', ey, ((((S4.trans s6).trans s7).trans s8).same S9).trans s10, g10, n, _, hn, rfl⟩
    rintro σ H5 ⟨S5, g5, n, o9, nb, rfl⟩
    have T5 := But.tup g2 S5
    have h15 := (h1.but g S2).but g2 S5
    have h25 := (h2.but g S2).but g2 S5
    have hD5 := S5 _ _ Db hD
    have pos : decide (0 < (rndN w1 l n (s, 0)).1) = decide (0 < (rndN w2 l n (f, 0)).1) := by
      rw [← rndN_flat, ← rndN_flat]; exact al.pos _
    refine ⟨fun σ H' => Same H5 H' ∧ ∃ F, H' F = some (.lst [.int (rndN w1 l n (s, 0)).1, .int (rndN w2 l n (f, 0)).1]) ∧ σ = [some (.ref b), some (.ref a1), some (.int s), some (.ref a2), some (.int f), some (.str (rowS l)), some (.ref D), some (.int (0 + i)), some (.int (n : Nat)), some (.ref F)], ?_, ?_⟩
    · refine ⟨_, rfl, _, rfl, _, rfl, _, rfl, a1, w1, s, l, n, 0, rfl, h15, by omega, ok.s2, l1, l48, nb, by decide, fun v H6 S6 hp => ?_⟩
      obtain ⟨t, rfl, ht⟩ := hp
      refine ⟨t, _, _, _, rfl, rfl, SqT.of ht, rfl, _, rfl, _, rfl, _, rfl, _, rfl, a2, w2, f, l, n, 0, rfl, h25.mono S6, by omega, ok.f2, l1, l48, nb, by decide, fun v H7 S7 hp => ?_⟩
      obtain ⟨t, rfl, ht⟩ := hp
      refine ⟨t, _, _, _, rfl, rfl, SqT.of ht, rfl, by show 2 ≤ sizeLine; decide, fun F H8 nF S8 hF => ⟨(S6.trans S7).trans S8, F, hF, rfl⟩⟩
    rintro σ H6 ⟨S6, F, hF, rfl⟩
    refine ⟨fun σ H' => H' = H6 ∧ σ = [some (.ref b), some (.ref a1), some (.int s), some (.ref a2), some (.int f), some (.str (rowS l)), some (.ref D), some (.int (0 + i)), some (.int (n : Nat)), some (.ref F)], ?_, ?_⟩
    · refine ⟨_, rfl, F, _, _, _, rfl, rfl, SqL.of hF, rfl, _, _, rfl, rfl, _, rfl, F, _, _, _, rfl, rfl, SqL.of hF, rfl, _, _, rfl, rfl, rfl, _, rfl, ?_⟩
      have e : (!decide (V.bl (decide (0 < (rndN w1 l n (s, 0)).1)) = V.bl (decide (0 < (rndN w2 l n (f, 0)).1)))) = false := by rw [pos]; simp
      exact iteFo e ⟨rfl, rfl⟩
    rintro σ H7 ⟨rfl, rfl⟩
    have hD7 := S6 _ _ hD5
    have T7 := Tup.trans T5 (Tup.of S6)
    rcases ff with ⟨t, k, e1, e2, r0, r1⟩ | ⟨t1, t2, v1, v2, e1, e2⟩
    · have e1 := T7 _ _ e1
      refine ⟨_, rfl, D, _, _, _, rfl, rfl, SqL.of hD7, rfl, u1, _, _, _, rfl, rfl, SqT.of e1, rfl, rfl, _, rfl, ?_⟩
      rw [show decide (V.str "goes" = V.str "goes") = true by decide +kernel]
      refine iteT ⟨_, rfl, F, _, _, _, rfl, rfl, SqL.of hF, rfl, _, _, rfl, rfl, _, rfl, _, rfl, D, _, _, _, rfl, rfl, SqL.of hD7, rfl, u1, _, _, _, rfl, rfl, SqT.of e1, rfl, _, _, rfl, rfl, rfl, _, rfl, ?_⟩
      have en : decide (0 < (rndN w1 l n (s, 0)).1) = decide (((n : Nat) : Int) ≤ (t : Nat)) := by
        have b0 := rndN_ok ok.a (show 0 ≤ s by omega) ok.s2 l 0 n
        by_cases z : n ≤ t
        · have : (rndN w1 l n (s, 0)).1 ≠ 0 := fun e => r0 (rnd_stays ok.a e z)
          rw [decide_eq_true (by omega), decide_eq_true (by omega)]
        · have : (rndN w1 l n (s, 0)).1 = 0 := rnd_stays ok.a r1 (by omega)
          rw [decide_eq_false (by omega), decide_eq_false (by omega)]
      have e : (!decide (V.bl (decide (0 < (rndN w1 l n (s, 0)).1)) = V.bl (decide (((n : Nat) : Int) ≤ (t : Nat))))) = false := by rw [en]; simp
      exact iteFo e ⟨S5.same S6, g5.same S6, _, _, _, rfl⟩
    · have e1 := T7 _ _ e1
      refine ⟨_, rfl, D, _, _, _, rfl, rfl, SqL.of hD7, rfl, u1, _, _, _, rfl, rfl, SqT.of e1, rfl, rfl, _, rfl, ?_⟩
      rw [show decide (V.str "stays" = V.str "goes") = false by decide +kernel]
      exact iteF (iteF ⟨S5.same S6, g5.same S6, _, _, _, rfl⟩)
  · rintro σ H4 ⟨S4, g4, o7, o8, o9, rfl⟩
    exact q H4 (S2.trans S4) g4
end
end WH

set_option maxHeartbeats 4000000
namespace WH
open PySem PySem.Spec PyProof.Rows L2
theorem iteTo {c : Bool} {A B : Prop} (h : c = true) (a : A) : if c = true then A else B := by rw [h]; exact a
section
variable {P : Program} {w : World} {K : PySem.W.Frag} {mg : Str → Option Value} {base : Heap}
def spGone (K : PySem.W.Frag) : Sp := fun vs H Q _ => ∃ a1 w1 s a2 w2 f l, vs = [.ref a1, .int s, .ref a2, .int f, .str (rowS l)] ∧ WaneAt K H a1 w1 ∧ WaneAt K H a2 w2 ∧ okTwo w1 s w2 f ∧ lparts w1 s w2 f l = true ∧ 1 ≤ l.length ∧ l.length ≤ 48 ∧ ∀ H', Same H H' → Q (.bl true) H'
theorem cal__law_gone_stays (T : Txt K mg) : C8.Cal P w K mg base 6 "_law_gone_stays" (spGone K) [] := by
  refine calD T.f__law_gone_stays T.g__law_gone_stays sc__law_gone_stays (fun fd F => F.bindsN fun _ _ _ _ _ _ us hl => match us, hl with | [_, _, _, _, _], _ => rfl) (fun vs H Q E h => by obtain ⟨_, _, _, _, _, _, _, rfl, _⟩ := h; rfl) fun cdv A outer s H vs Q E hr h => ?_
  refine ⟨_, (C8.pss_cut (ps_set (i := 5) sc__law_gone_stays.nd rfl (by first | exact Or.inl rfl | exact Or.inr rfl) (NW.pe_lstN (pa_cons (pe_ix ix_tup (C8.pe_c (cal_behind T) hr (by decide) rfl (pa_cons (pv 0) (pa_cons (pv 1) (pa_cons (pv 4) (pa_cons pe_int pa_nil))))) pe_int (fun _ _ => rfl)) (pa_cons (pe_ix ix_tup (C8.pe_c (cal_behind T) hr (by decide) rfl (pa_cons (pv 2) (pa_cons (pv 3) (pa_cons (pv 4) (pa_cons pe_int pa_nil))))) pe_int (fun _ _ => rfl)) pa_nil)))) (C8.pss_cut (ps_set (i := 6) sc__law_gone_stays.nd rfl (by first | exact Or.inl rfl | exact Or.inr rfl) (NW.pe_lstN (pa_cons (pe_ix ix_tup (C8.pe_c (cal_behind T) hr (by decide) rfl (pa_cons (pv 0) (pa_cons (pv 1) (pa_cons (pv 4) (pa_cons pe_int pa_nil))))) pe_int (fun _ _ => rfl)) (pa_cons (pe_ix ix_tup (C8.pe_c (cal_behind T) hr (by decide) rfl (pa_cons (pv 2) (pa_cons (pv 3) (pa_cons (pv 4) (pa_cons pe_int pa_nil))))) pe_int (fun _ _ => rfl)) pa_nil)))) (pss_one (ps_ret (pe_and (pe_cmpR op_ne (pe_cmpR op_gt (pe_ix ix_list (pv 5) pe_int (fun _ _ => rfl)) pe_int (nomark _)) (pe_cmpR op_gt (pe_ix ix_list (pv 5) pe_int (fun _ _ => rfl)) pe_int (nomark _)) (nomark _)) (pe_one (pe_cmpR op_eq pe_int (pe_ix ix_list (pe_lc (own := [("_law_k", 7)]) (by rfl) sc__law_gone_stays.nd (pi_range1 (by rfl) T.b_range (pa_cons pe_int pa_nil)) (blkOk_by (own := [("_law_k", 7)]) (N := n__law_gone_stays) (sc := defScope s__law_gone_stays) (by decide +kernel)) (fun _ _ _ _ _ => (pg_name (i := 7) sc__law_gone_stays.nd rfl (by first | exact Or.inl rfl | exact Or.inr rfl))) (fun _ _ _ _ _ => (pts_one (pt_cmpR op_eq (pe_ix (KX.ix_list (K := K) rfl) (pv 5) (pv 7) (fun _ _ => rfl)) pe_int (nomark _)))) (fun _ _ _ _ _ => (pe_ix (KX.ix_list (K := K) rfl) (pv 6) (pv 7) (fun _ _ => rfl)))) pe_int (fun _ _ => rfl)) (nomark _)))))))), ?_⟩
  obtain ⟨a1, w1, s, a2, w2, f, l, rfl, h1, h2, ok, lp, l1, l48, q⟩ := h
  have s1 := ok.s1
  have f1 := ok.f1
  refine ⟨fun σ H' => Same H H' ∧ ∃ F, H' F = some (.lst [.int (rndN w1 l 1 (s, 0)).1, .int (rndN w2 l 1 (f, 0)).1]) ∧ σ = [some (.ref a1), some (.int s), some (.ref a2), some (.int f), some (.str (rowS l)), some (.ref F), none, none], ?_, ?_⟩
  · refine ⟨_, rfl, _, rfl, _, rfl, a1, w1, s, l, 1, 0, rfl, h1, by omega, ok.s2, l1, l48, by decide, by decide, fun v H6 S6 hp => ?_⟩
    obtain ⟨t, rfl, ht⟩ := hp
    refine ⟨t, _, _, _, rfl, rfl, SqT.of ht, rfl, _, rfl, _, rfl, _, rfl, a2, w2, f, l, 1, 0, rfl, h2.mono S6, by omega, ok.f2, l1, l48, by decide, by decide, fun v H7 S7 hp => ?_⟩
    obtain ⟨t, rfl, ht⟩ := hp
    exact ⟨t, _, _, _, rfl, rfl, SqT.of ht, rfl, by show 2 ≤ sizeLine; decide, fun F H8 nF S8 hF => ⟨(S6.trans S7).trans S8, F, hF, rfl⟩⟩
  rintro σ H1 ⟨S1, F, hF, rfl⟩
  refine ⟨fun σ H' => Same H1 H' ∧ ∃ G, H' G = some (.lst [.int (rndN w1 l 5 (s, 0)).1, .int (rndN w2 l 5 (f, 0)).1]) ∧ σ = [some (.ref a1), some (.int s), some (.ref a2), some (.int f), some (.str (rowS l)), some (.ref F), some (.ref G), none], ?_, ?_⟩
  · refine ⟨_, rfl, _, rfl, _, rfl, a1, w1, s, l, 5, 0, rfl, h1.mono S1, by omega, ok.s2, l1, l48, by decide, by decide, fun v H6 S6 hp => ?_⟩
    obtain ⟨t, rfl, ht⟩ := hp
    refine ⟨t, _, _, _, rfl, rfl, SqT.of ht, rfl, _, rfl, _, rfl, _, rfl, a2, w2, f, l, 5, 0, rfl, (h2.mono S1).mono S6, by omega, ok.f2, l1, l48, by decide, by decide, fun v H7 S7 hp => ?_⟩
    obtain ⟨t, rfl, ht⟩ := hp
    exact ⟨t, _, _, _, rfl, rfl, SqT.of ht, rfl, by show 2 ≤ sizeLine; decide, fun G H8 nG S8 hG => ⟨(S6.trans S7).trans S8, G, hG, rfl⟩⟩
  rintro σ H2 ⟨S2, G, hG, rfl⟩
  have hF2 := S2 _ _ hF
  refine ⟨_, rfl, F, _, _, _, rfl, rfl, SqL.of hF2, rfl, _, _, rfl, rfl, _, rfl, F, _, _, _, rfl, rfl, SqL.of hF2, rfl, _, _, rfl, rfl, rfl, ?_⟩
  have hz : ((rndN w1 l 1 (s, 0)).1 = 0 ∧ 0 < (rndN w2 l 1 (f, 0)).1 ∧ (rndN w1 l 5 (s, 0)).1 = 0) ∨ (0 < (rndN w1 l 1 (s, 0)).1 ∧ (rndN w2 l 1 (f, 0)).1 = 0 ∧ (rndN w2 l 5 (f, 0)).1 = 0) := by
    have b1 := rndN_ok ok.a (show 0 ≤ s by omega) ok.s2 l 0 1
    have b2 := rndN_ok ok.b (show 0 ≤ f by omega) ok.f2 l 0 1
    have lp' : decide (0 < (rndN w1 l 1 (s, 0)).1) ≠ decide (0 < (rndN w2 l 1 (f, 0)).1) := by
      show decide (0 < (stA w1 (s, 0) l).1) ≠ decide (0 < (stA w2 (f, 0) l).1)
      unfold lparts at lp
      simpa using lp
    by_cases z : (rndN w1 l 1 (s, 0)).1 = 0
    · refine .inl ⟨z, ?_, rnd_stays ok.a z (by decide)⟩
      by_cases y : 0 < (rndN w2 l 1 (f, 0)).1
      · exact y
      · exact absurd (by rw [z, decide_eq_false y]; rfl) lp'
    · have z : 0 < (rndN w1 l 1 (s, 0)).1 := by omega
      have y : (rndN w2 l 1 (f, 0)).1 = 0 := by
        by_cases y : 0 < (rndN w2 l 1 (f, 0)).1
        · exact absurd (by rw [decide_eq_true y, decide_eq_true z]) lp'
        · omega
      exact .inr ⟨z, y, rnd_stays ok.b y (by decide)⟩
  generalize (rndN w1 l 1 (s, 0)).1 = E1 at hF hF2 hz ⊢
  generalize (rndN w2 l 1 (f, 0)).1 = E2 at hF hF2 hz ⊢
  generalize (rndN w1 l 5 (s, 0)).1 = L1 at hG hz ⊢
  generalize (rndN w2 l 5 (f, 0)).1 = L2 at hG hz ⊢
  have e : (!decide (V.bl (decide (0 < E1)) = V.bl (decide (0 < E2)))) = true := by
    rcases hz with ⟨z, y, _⟩ | ⟨z, y, _⟩
    · rw [decide_eq_true y, decide_eq_false (show ¬ 0 < E1 by omega)]; decide
    · rw [decide_eq_true z, decide_eq_false (show ¬ 0 < E2 by omega)]; decide
  refine ⟨_, rfl, iteTo e ⟨_, rfl, by decide, by decide, fun D nD => ?_⟩⟩
  refine lc_it walk_range (fun i H' => Same H2 H' ∧ H' D = some (.lst (((if 1 ≤ i ∧ E1 = 0 then [L1] else []) ++ (if 2 ≤ i ∧ E2 = 0 then [L2] else [])).map V.int))) ⟨same_new nD, upd_same⟩ (fun _ _ _ _ => trivial) ?_ ?_
  · rintro i x H3 H4 hi ⟨S3, hD⟩ ⟨rfl, rfl⟩
    match i, hi with
    | 0, _ =>
      refine ⟨rfl, _, rfl, _, rfl, F, _, _, _, rfl, rfl, SqL.of (S3 _ _ hF2), rfl, rfl, _, rfl, ite2 (fun z => ?_) fun z => ?_⟩
      · have z : E1 = 0 := V.int.inj (of_decide_eq_true z)
        refine ⟨_, rfl, _, rfl, G, _, _, _, rfl, rfl, SqL.of (S3 _ _ hG), rfl, _, hD, by simp; decide, Same.mut S3 nD, ?_⟩
        rw [upd_same]; simp [z]
      · have z : E1 ≠ 0 := fun y => z (decide_eq_true (congrArg V.int y))
        exact ⟨S3, by rw [hD]; simp [z]⟩
    | 1, _ =>
      refine ⟨rfl, _, rfl, _, rfl, F, _, _, _, rfl, rfl, SqL.of (S3 _ _ hF2), rfl, rfl, _, rfl, ite2 (fun z => ?_) fun z => ?_⟩
      · have z : E2 = 0 := V.int.inj (of_decide_eq_true z)
        have z1 : E1 ≠ 0 := by omega
        refine ⟨_, rfl, _, rfl, G, _, _, _, rfl, rfl, SqL.of (S3 _ _ hG), rfl, _, hD, by simp [z1]; decide, Same.mut S3 nD, ?_⟩
        rw [upd_same]; simp [z, z1]
      · have z : E2 ≠ 0 := fun y => z (decide_eq_true (congrArg V.int y))
        exact ⟨S3, by rw [hD]; simp [z]⟩
  · rintro H3 ⟨S3, hD⟩
    have hD : H3 D = some (.lst [.int 0]) := by
      rw [hD]
      rcases hz with ⟨z, y, x⟩ | ⟨z, y, x⟩
      · have y : E2 ≠ 0 := by omega
        simp [z, y, x]
      · have z : E1 ≠ 0 := by omega
        simp [z, y, x]
    refine ⟨D, _, _, _, rfl, rfl, SqL.of hD, rfl, rfl, ?_⟩
    rw [show decide (V.int 0 = V.int 0) = true by decide]
    exact q H3 ((S1.trans S2).trans S3)
end
end WH

set_option maxHeartbeats 4000000
namespace WH
open PySem PySem.Spec PyProof.Rows L2
theorem ToldV.tup {H H' : Hp} (S : Tup H H') {t : Addr} {w1 w2 : WN} {s f : Int} : ToldV H t w1 s w2 f → ToldV H' t w1 s w2 f
  | .inl ⟨row, a, b⟩ => .inl ⟨row, S _ _ a, b⟩
  | .inr (.inl ⟨v, a, b⟩) => .inr (.inl ⟨v, S _ _ a, b⟩)
  | .inr (.inr ⟨v, a⟩) => .inr (.inr ⟨v, S _ _ a⟩)
section
variable {P : Program} {w : World} {K : PySem.W.Frag} {mg : Str → Option Value} {base : Heap}
def spLaw (K : PySem.W.Frag) : Sp := fun vs H Q _ => ∃ (a : Addr) (ns : List Int), vs = [.ref a] ∧ SqL K H a (ns.map V.int) ∧ ∀ H', Q (.bl true) H'
theorem fn_law (T : Txt K mg) {fd : FuncData} (F : FD K d_law fd) : FnOk P w K mg base C8.CX0 11 (He.fAd K d_law.at_) fd ["_law_script"] (spLaw K) := by
  refine F.ok sc_law (fun vs H Q E h => by obtain ⟨_, _, rfl, _⟩ := h; rfl) fun cdv A outer s H vs Q E hr h => ?_
  refine ⟨_, PSs.nox ((pss_cons (ps_set (i := 1) sc_law.nd rfl (by first | exact Or.inl rfl | exact Or.inr rfl) (C8.pe_c (cal__law_bag T) hr (by decide) rfl (pa_cons (pv 0) pa_nil))) (pss_cons (ps_for PassesOwn.never rfl (pi_range1 (by rfl) T.b_range (pa_cons pe_int pa_nil)) (pg_name (i := 2) sc_law.nd rfl (by first | exact Or.inl rfl | exact Or.inr rfl)) (pss_cons (ps_set (i := 3) sc_law.nd rfl (by first | exact Or.inl rfl | exact Or.inr rfl) (C8.pe_c (cal__law_two T) hr (by decide) rfl (pa_cons (pv 1) (pa_cons pe_int pa_nil)))) (C8.pss_cut (ps_if (pt_cmpR op_eq (C8.pe_c (cal__law_take T) hr (by decide) rfl (pa_cons (pv 1) (pa_cons pe_int pa_nil))) pe_int (nomark _)) (pss_one (ps_set (i := 3) sc_law.nd rfl (by first | exact Or.inl rfl | exact Or.inr rfl) (C8.pe_c (cal__law_long T) hr (by decide) rfl (pa_cons (pv 1) pa_nil)))) pss_nil) (C8.pss_cut (ps_set (i := 4) sc_law.nd rfl (by first | exact Or.inl rfl | exact Or.inr rfl) (C8.pe_c (cal__law_told T) hr (by decide) rfl (pa_cons (pv 1) (pa_cons (pv 3) (pa_cons pe_int pa_nil))))) (C8.pss_cut (ps_if (pt_cmpR op_notIn_seq (pe_ix ix_tup (pv 4) pe_int (fun _ _ => rfl)) (NW.pe_tupN (pa_cons pe_str (pa_cons pe_str (pa_cons pe_str pa_nil)))) (by rfl)) (pss_one (ps_ret pe_bl)) pss_nil) (C8.pss_cut (ps_asg (NW.pe_tupN (pa_cons (C8.pe_c (cal__law_made T) hr (by decide) rfl (pa_cons (pe_ix ix_tup (pv 3) pe_int (fun _ _ => rfl)) pa_nil)) (pa_cons (pe_ix ix_tup (pv 3) pe_int (fun _ _ => rfl)) (pa_cons (C8.pe_c (cal__law_made T) hr (by decide) rfl (pa_cons (pe_ix ix_tup (pv 3) pe_int (fun _ _ => rfl)) pa_nil)) (pa_cons (pe_ix ix_tup (pv 3) pe_int (fun _ _ => rfl)) pa_nil))))) (pg_tup rfl (pgs_cons (pg_name (i := 5) sc_law.nd rfl (by first | exact Or.inl rfl | exact Or.inr rfl)) (pgs_cons (pg_name (i := 6) sc_law.nd rfl (by first | exact Or.inl rfl | exact Or.inr rfl)) (pgs_cons (pg_name (i := 7) sc_law.nd rfl (by first | exact Or.inl rfl | exact Or.inr rfl)) (pgs_cons (pg_name (i := 8) sc_law.nd rfl (by first | exact Or.inl rfl | exact Or.inr rfl)) pgs_nil)))))) (C8.pss_cut (ps_for PassesOwn.never rfl (pi_range1 (by rfl) T.b_range (pa_cons (pe_op op_mul pe_int (pe_callTy call_int1 (by rfl) T.b_int (by decide +kernel) (pa_cons (pe_cmpR op_eq (pe_ix ix_tup (pv 4) pe_int (fun _ _ => rfl)) pe_str (nomark _)) pa_nil))) pa_nil)) (pg_name (i := 9) sc_law.nd rfl (by first | exact Or.inl rfl | exact Or.inr rfl)) (C8.pss_cut (ps_if (pt_not (pt_val (C8.pe_c (cal__law_stand T) hr (by decide) rfl (pa_cons (pv 5) (pa_cons (pv 6) (pa_cons (pv 7) (pa_cons (pv 8) (pa_cons (C8.pe_c (cal__law_row T) hr (by decide) rfl (pa_cons (pv 1) (pa_cons pe_int pa_nil))) pa_nil)))))))) (pss_one (ps_ret pe_bl)) pss_nil) (pss_one (ps_if (pt_not (pt_val (C8.pe_c (cal__law_rounds T) hr (by decide) rfl (pa_cons (pv 1) (pa_cons (pv 5) (pa_cons (pv 6) (pa_cons (pv 7) (pa_cons (pv 8) pa_nil)))))))) (pss_one (ps_ret pe_bl)) pss_nil)))) (pss_one (ps_if (PW.pt (pw_and (pt_cmpR op_eq (pe_ix ix_tup (pv 4) pe_int (fun _ _ => rfl)) pe_str (nomark _)) (pw_and1 (pt_cmpR op_le (pe_callB call_len (by rfl) T.b_len (by decide +kernel) (pa_cons (pe_ix ix_tup (pv 4) pe_int (fun _ _ => rfl)) pa_nil)) pe_int (nomark _))))) (pss_one (ps_if (pt_not (pt_val (C8.pe_c (cal__law_gone_stays T) hr (by decide) rfl (pa_cons (pv 5) (pa_cons (pv 6) (pa_cons (pv 7) (pa_cons (pv 8) (pa_cons (pe_ix ix_tup (pv 4) pe_int (fun _ _ => rfl)) pa_nil)))))))) (pss_one (ps_ret pe_bl)) pss_nil)) pss_nil))))))))) (pss_one (ps_ret pe_bl))))), ?_⟩
  obtain ⟨a, ns, rfl, hs, q⟩ := h
  refine ⟨_, rfl, a, ns, rfl, hs, fun b c H1 S1 nb g1 => ?_⟩
  refine ⟨_, rfl, by decide, by decide, for_it walk_range (fun i σ H' => Bag H' b c ∧ ∃ o2 o3 o4 o5 o6 o7 o8 o9, σ = [some (.ref a), some (.ref b), o2, o3, o4, o5, o6, o7, o8, o9]) ⟨g1, _, _, _, _, _, _, _, _, rfl⟩ (fun _ _ _ _ _ => trivial) ?_ ?_⟩
  · rintro i x σ H2 H' hi ⟨g2, o2, o3, o4, o5, o6, o7, o8, o9, rfl⟩ ⟨rfl, rfl⟩
    refine ⟨_, rfl, b, c, 9, rfl, by decide, by decide, g2, fun v w1 s w2 f H3 s3 g3 hv ok _ => ?_⟩
    refine ⟨fun σ H' => ∃ v w1 s w2 f, σ = [some (.ref a), some (.ref b), some (.int (0 + i)), some v, o4, o5, o6, o7, o8, o9] ∧ Bag H' b c ∧ TwoV H' v w1 s w2 f ∧ okTwo w1 s w2 f, ?_, ?_⟩
    · refine ⟨_, rfl, b, c, 6, rfl, g3, by decide, by decide, fun v2 H4 a1 a2 s4 g4 => ⟨rfl, _, rfl, ite2 (fun _ => ?_) fun _ => ?_⟩⟩
      · exact ⟨_, rfl, b, c, rfl, g4, fun v w1 s w2 f H5 s5 g5 hv ok => ⟨v, w1, s, w2, f, rfl, g5, hv, ok⟩⟩
      · exact ⟨v, w1, s, w2, f, rfl, g4, hv.but g3 s4, ok⟩
    clear hv ok g3 s3
    rintro σ H4 ⟨v, w1, s, w2, f, rfl, g4, hv, ok⟩
    refine ⟨fun σ H' => ∃ t, σ = [some (.ref a), some (.ref b), some (.int (0 + i)), some v, some (.ref t), o5, o6, o7, o8, o9] ∧ Bag H' b c ∧ TwoV H' v w1 s w2 f ∧ ToldV H' t w1 s w2 f, ?_, ?_⟩
    · exact ⟨_, rfl, _, rfl, b, c, v, w1, s, w2, f, rfl, g4, hv, ok, fun t H5 S5 g5 ht => ⟨t, rfl, g5, hv.but g4 S5, ht⟩⟩
    rintro σ H5 ⟨t, rfl, g5, hv5, ht⟩
    have hx : ∃ x v, H5 t = some (.tup [.str x, v]) ∧ (x = "parted" ∨ x = "alike" ∨ x = "refused") := by
      rcases ht with ⟨row, h, _⟩ | ⟨v, h, _⟩ | ⟨v, h⟩
      · exact ⟨_, _, h, .inl rfl⟩
      · exact ⟨_, _, h, .inr (.inl rfl)⟩
      · exact ⟨_, _, h, .inr (.inr rfl)⟩
    refine ⟨fun σ H' => σ = [some (.ref a), some (.ref b), some (.int (0 + i)), some v, some (.ref t), o5, o6, o7, o8, o9] ∧ Same H5 H', ?_, ?_⟩
    · obtain ⟨x, v, h, hx⟩ := hx
      refine ⟨_, rfl, t, _, _, _, rfl, rfl, SqT.of h, rfl, by show 3 ≤ sizeLine; decide, fun t2 H6 n6 S6 e6 => ?_⟩
      refine ⟨_, _, rfl, .inr (SqT.of e6), rfl, rfl, _, rfl, ?_⟩
      have e : (if true then !inV (.str x) [V.str "alike", .str "parted", .str "refused"] else inV (.str x) [V.str "alike", .str "parted", .str "refused"]) = false := by
        rcases hx with rfl | rfl | rfl <;> decide +kernel
      rw [e]
      exact iteF ⟨rfl, S6⟩
    rintro σ H6 ⟨rfl, S6⟩
    have g6 := g5.same S6
    have hv6 := hv5.mono S6
    have ht6 := ht.tup (Tup.of S6)
    clear ht hv5 hx
    obtain ⟨p, v1, v2, rfl, hp, p1, p2⟩ := id hv6
    refine ⟨fun σ H' => ∃ a1 a2, σ = [some (.ref a), some (.ref b), some (.int (0 + i)), some (.ref p), some (.ref t), some (.ref a1), some (.int s), some (.ref a2), some (.int f), o9] ∧ Same H6 H' ∧ WaneAt K H' a1 w1 ∧ WaneAt K H' a2 w2, ?_, ?_⟩
    · refine ⟨_, rfl, p, _, _, _, rfl, rfl, SqT.of hp, rfl, v1, w1, rfl, p1, ok.a, fun a1 H7 S7 h1 _ => ?_⟩
      have hp7 := S7 _ _ hp
      refine ⟨_, rfl, p, _, _, _, rfl, rfl, SqT.of hp7, rfl, _, rfl, p, _, _, _, rfl, rfl, SqT.of hp7, rfl, v2, w2, rfl, p2.mono S7, ok.b, fun a2 H8 S8 h2 _ => ?_⟩
      have hp8 := S8 _ _ hp7
      refine ⟨_, rfl, p, _, _, _, rfl, rfl, SqT.of hp8, rfl, by show 4 ≤ sizeLine; decide, fun u H9 nu S9 hu => ?_⟩
      exact ⟨u, _, rfl, SqT.of hu, rfl, _, _, rfl, _, _, rfl, _, _, rfl, _, _, rfl, rfl, a1, a2, rfl, (S7.trans S8).trans S9, (h1.mono S8).mono S9, h2.mono S9⟩
    rintro σ H7 ⟨a1, a2, rfl, S7, h1, h2⟩
    have g7 := g6.same S7
    have ht7 := ht6.tup (Tup.of S7)
    refine ⟨fun σ H' => ∃ o9, σ = [some (.ref a), some (.ref b), some (.int (0 + i)), some (.ref p), some (.ref t), some (.ref a1), some (.int s), some (.ref a2), some (.int f), o9] ∧ Bag H' b c ∧ WaneAt K H' a1 w1 ∧ WaneAt K H' a2 w2 ∧ ToldV H' t w1 s w2 f, ?_, ?_⟩
    · obtain ⟨x, v, h, hx⟩ : ∃ x v, H7 t = some (.tup [.str x, v]) ∧ (x = ("alike" : Str) → Alk w1 s w2 f) := by
        rcases ht7 with ⟨row, h, _⟩ | ⟨v, h, al⟩ | ⟨v, h⟩
        · exact ⟨_, _, h, fun z => absurd z (by decide +kernel)⟩
        · exact ⟨_, _, h, fun _ => al⟩
        · exact ⟨_, _, h, fun z => absurd z (by decide +kernel)⟩
      refine ⟨_, rfl, t, _, _, _, rfl, rfl, SqT.of h, rfl, rfl, .inr ⟨_, rfl, _, _, rfl, rfl, .inl ⟨by decide, by decide⟩, _, rfl, ?_⟩⟩
      have hr2 : (-2 ^ 62 : Int) ≤ 4 * (if decide (V.str x = V.str "alike") = true then 1 else 0) ∧ 4 * (if decide (V.str x = V.str "alike") = true then (1 : Int) else 0) < 2 ^ 62 := by split <;> omega
      refine ⟨hr2.1, hr2.2, for_it walk_range (fun j σ H' => ∃ o9, σ = [some (.ref a), some (.ref b), some (.int (0 + i)), some (.ref p), some (.ref t), some (.ref a1), some (.int s), some (.ref a2), some (.int f), o9] ∧ Bag H' b c ∧ WaneAt K H' a1 w1 ∧ WaneAt K H' a2 w2 ∧ ToldV H' t w1 s w2 f) ⟨_, rfl, g7, h1, h2, ht7⟩ (fun _ _ _ _ _ => trivial) ?_ ?_⟩
      · rintro j y σ H8 H9 hj ⟨o9, rfl, g8, h1, h2, ht8⟩ ⟨rfl, rfl⟩
        have al : Alk w1 s w2 f := by
          by_cases z : x = "alike"
          · exact hx z
          · rw [show decide (V.str x = V.str "alike") = false from decide_eq_false fun e => z (V.str.inj e)] at hj
            exact absurd hj (by simp)
        refine ⟨fun σ H' => ∃ o9, σ = [some (.ref a), some (.ref b), some (.int (0 + i)), some (.ref p), some (.ref t), some (.ref a1), some (.int s), some (.ref a2), some (.int f), o9] ∧ Bag H' b c ∧ WaneAt K H' a1 w1 ∧ WaneAt K H' a2 w2 ∧ ToldV H' t w1 s w2 f, ?_, ?_⟩
        · refine ⟨_, rfl, _, rfl, _, rfl, _, rfl, _, rfl, b, c, 200, rfl, by decide, by decide, g8, fun l H10 S10 g10 _ l200 => ?_⟩
          refine ⟨a1, w1, s, a2, w2, f, l, rfl, h1.but g8 S10, h2.but g8 S10, ok, al, by omega, fun H11 S11 => ⟨_, rfl, iteF ⟨_, rfl, g10.same S11, (h1.but g8 S10).mono S11, (h2.but g8 S10).mono S11, (ht8.tup (But.tup g8 S10)).tup (Tup.of S11)⟩⟩⟩
        rintro σ H10 ⟨o9, rfl, g10, h1, h2, ht10⟩
        refine ⟨_, rfl, _, rfl, _, rfl, _, rfl, _, rfl, b, c, a1, w1, s, a2, w2, f, rfl, g10, h1, h2, ok, al, fun H11 S11 g11 => ⟨_, rfl, iteF ⟨_, rfl, g11, h1.but g10 S11, h2.but g10 S11, ht10.tup (But.tup g10 S11)⟩⟩⟩
      · rintro σ H8 h
        exact h
    rintro σ H8 ⟨o9, rfl, g8, h1, h2, ht8⟩
    have pass : ∀ {x : Str}, x ≠ "parted" → decide (V.str x = V.str "parted") = false := fun h => decide_eq_false fun e => h (V.str.inj e)
    rcases ht8 with ⟨row, h, r1, r2, r3⟩ | ⟨v, h, _⟩ | ⟨v, h⟩
    · have hz : (rowS row).length ≤ sizeLine := by rw [rowS_len]; exact Nat.le_of_lt (small1000 r2)
      refine ⟨_, rfl, t, _, _, _, rfl, rfl, SqT.of h, rfl, rfl, _, rfl, ?_⟩
      rw [show decide (V.str "parted" = V.str "parted") = true by decide +kernel]
      refine iteT ⟨_, rfl, t, _, _, _, rfl, rfl, SqT.of h, rfl, _, _, rfl, ⟨hz, rfl⟩, _, _, rfl, rfl, _, rfl, ite2 (fun z => ?_) fun _ => ?_⟩
      · have z : row.length ≤ 48 := by
          have := of_decide_eq_true z
          rw [rowS_len] at this; omega
        have r0 : 1 ≤ row.length := List.length_pos_iff.mpr r1
        refine ⟨_, rfl, _, rfl, _, rfl, _, rfl, _, rfl, t, _, _, _, rfl, rfl, SqT.of h, rfl, a1, w1, s, a2, w2, f, row, rfl, h1, h2, ok, r3, r0, z, fun H9 S9 => ⟨_, rfl, iteF ⟨g8.same S9, _, _, _, _, _, _, _, _, rfl⟩⟩⟩
      · exact ⟨g8, _, _, _, _, _, _, _, _, rfl⟩
    · exact ⟨_, rfl, t, _, _, _, rfl, rfl, SqT.of h, rfl, rfl, _, rfl, iteFo (pass (by decide +kernel)) (iteF ⟨g8, _, _, _, _, _, _, _, _, rfl⟩)⟩
    · exact ⟨_, rfl, t, _, _, _, rfl, rfl, SqT.of h, rfl, rfl, _, rfl, iteFo (pass (by decide +kernel)) (iteF ⟨g8, _, _, _, _, _, _, _, _, rfl⟩)⟩
  · rintro σ H2 ⟨g2, _⟩
    exact q H2
end
end WH

set_option maxHeartbeats 0
namespace WH
open PySem PySem.Spec PyProof.Rows L2
/-! ### the head -/
def loose0 : List PySem.Str := ["WaneError", "Wrong", "TooMany", "NoText", "FIGURES", "MOST_STRENGTH", "MOST_MOMENT", "LONGEST_ROW", "is_whole", "is_within", "is_strength", "is_size", "is_moment", "is_row", "is_step", "figures_of", "LONGEST_HEAD", "TAILS", "is_head", "is_tail"]
def loose1 : List PySem.Str := ["Wane", "step_of", "parts_of", "wane_of_words", "read_wane", "check_part", "turned", "asked", "since_behind_sign", "waned", "lifted", "along", "MOST_PAIRS", "SIGNS", "need_asked", "led", "alike", "turn_effect", "join_two", "row_effect"]
def loose2 : List PySem.Str := ["through", "FAR", "common", "row_walked", "straight", "repeated", "Going", "behind", "least_of", "fate", "_law_bag", "_law_take", "_law_steps", "_law_plan", "_law_made", "_law_two", "_law_long", "_law_told", "_law_row", "_law_stand"]
def loose3 : List PySem.Str := ["_law_rounds", "_law_gone_stays"]
def loose : List PySem.Str := loose0 ++ loose1 ++ loose2 ++ loose3
abbrev R : PySem.W.OpenRow := PySem.W.OpenLaw.row PySem.Challenge.rw_wanehold_k78_whole_alike_for_ever
def exA (K : PySem.W.Frag) : Bool := exL.all fun f => f K
abbrev hkX : PySem.W.Hook := HS.hookS 5 faL fnL exA
def obX (s : PySem.W.SharedT) : HS.AlS := HS.obsS 5 faL fnL exA (HandSHeadRun.getT s)
theorem obX_eq (s : PySem.W.SharedT) : obX s = hkX.obs s.abs := HS.obsS_eq (HandSHeadRun.getT_eq s)
theorem runX (w : World) : HandSHeadRun.RunEq R (PySem.W.view R.prog [70]) hkX obX 4000 loose w := by
  intro os
  kernel_rfl
theorem factsX {P : Program} {w : World} {K : PySem.W.Frag} {h : Heap} {mg : Str → Option Value} {f : Addr} (X : K.In h) (G : h.Ns mainGlobals mg) (hfa : mg ("law" : Str) = some (.ref f)) (c : HS.SaysS faL fnL exA K) :
    ∃ fd : FuncData, (∀ (s : Shared) (v : Value), BindsTo s fd ⟨[v], []⟩ [("_law_script", v)]) ∧ ∀ base : Heap, K.In base → base.Ns mainGlobals mg → FnOk P w K mg base C8.CX0 11 f fd ["_law_script"] (spLaw K) := by
  have T : Txt K mg := ⟨fun i d hd => c.1.def_ i hd, fun i f hf => c.1.fact i hf, ⟨h, X, G⟩, fun i f hf => List.all_eq_true.mp (show (exL.all fun f => f K) = true from c.2) f (List.mem_of_getElem? hf)⟩
  obtain ⟨fd, F⟩ := T.f_law
  have e := hfa.symm.trans T.g_law
  cases e
  have b := FunD.bindsA (ps := ["_law_script"]) F fun _ _ _ _ _ _ us hl => match us, hl with | [_], _ => rfl
  exact ⟨fd, fun s v => b s [v] rfl, fun base _ _ => fn_law T F⟩
end WH
open PySem PySem.W PySem.Calls PyProof.Rows
theorem PySem.Challenge.cw_wanehold_k78_whole_alike_for_ever_holds : PySem.Challenge.rw_wanehold_k78_whole_alike_for_ever.Holds := by
  w_on; o_law
  refine HandSHeadRun.head_any (r := OpenLaw.row PySem.Challenge.rw_wanehold_k78_whole_alike_for_ever) (q := view (OpenLaw.row PySem.Challenge.rw_wanehold_k78_whole_alike_for_ever).prog [70]) (H := WH.hkX) (ob := WH.obX) (M := 4000) (loose := WH.loose) (d := HandSHeadRun.topDef (OpenLaw.row PySem.Challenge.rw_wanehold_k78_whole_alike_for_ever).prog 70) (kwd := []) WH.obX_eq
    (by kernel_rfl) (fun s => by kernel_rfl) WH.runX (by kernel_rfl) (by kernel_rfl) (by kernel_rfl) (by rfl) (by first | assumption | decide +kernel) (by decide +kernel) ⟨rfl, rfl, rfl, rfl, rfl, by decide +kernel⟩ ?hw ?hc
  case hw => w_witness2
  case hc =>
    refine L2.walk_ofE (l := PySem.Challenge.rw_wanehold_k78_whole_alike_for_ever) (n := 63) (k := 11) (x := "_law_script") (CX := C8.CX0) rfl (by decide) (by kernel_rfl) ⟨rfl, by decide, by decide⟩ ?F (fun _ _ _ _ z => z)
    intro w mg fa h Y G hmg0
    obtain ⟨K, KX, c⟩ := Y
    have hmg : mg ("law" : PySem.Str) = some (.ref fa) := by
      have e : (HandSHeadRun.topDef (OpenLaw.row PySem.Challenge.rw_wanehold_k78_whole_alike_for_ever).prog 70).name = ("law" : PySem.Str) := by kernel_rfl
      rw [← e]
      exact hmg0
    obtain ⟨fd, hb, hF⟩ := WH.factsX (P := (PySem.Challenge.rw_wanehold_k78_whole_alike_for_ever).prog) (w := w) KX G hmg c
    exact ⟨K, fd, WH.spLaw K, KX, hb, fun H a ns hl _ hS => ⟨a, ns, rfl, hS, fun _ => rfl⟩, hF⟩


