import PyProof.Rows.All
import Wide.All
import OpenK.AllK
import Wide.FinOn
import HandS.ForMost
import KE.KeyNested
import KE.KDictKeyed
import PyProof.Rows.TupDisplay
import KE.KExcInit
import HandS.Exc
import HandS.ExcOwn
import HandS.ExcInit
import HandS.Defaults
import HandS.MakeKwOnly
import HandS.Codes
import HandS.IsInst
import HandS.HeadHook4
import HandS.Walk
import HandS.ExcField
import PyProof.ReprRoads
import HandS.Ends
import HandS.HeadEnd
import KE.SortData
import KE.DataCmp
import HandS.Head2
import HandS.TryOnly
import HandS.WordsExc
import PySem.Challenge.RW_wanehold_k77_alike_just_most
set_option Elab.async false
set_option linter.all false
set_option maxRecDepth 100000
set_option maxHeartbeats 4000000
/-! dicts whose keys are nested tuples, over the layer -/
namespace ND
open PySem PySem.Spec PyProof.Rows L2
mutual
/-- v is such a key -/
def NK (H : Hp) : NestedKey → V → Prop
  | .none, v => v = .non
  | .num i, v => v = .int i
  | .text x, v => v = .str x
  | .tup ks, v => ∃ a vs, v = .ref a ∧ H a = some (.tup vs) ∧ NKs H ks vs
def NKs (H : Hp) : List NestedKey → List V → Prop
  | [], vs => vs = []
  | k :: ks, vs => ∃ v r, vs = v :: r ∧ NK H k v ∧ NKs H ks r
end
mutual
theorem NK.mono {H H' : Hp} (s : ∀ a vs, H a = some (.tup vs) → H' a = some (.tup vs)) : ∀ (k : NestedKey) (v : V), NK H k v → NK H' k v
  | .none, v, h => by rw [NK] at h ⊢; exact h
  | .num i, v, h => by rw [NK] at h ⊢; exact h
  | .text x, v, h => by rw [NK] at h ⊢; exact h
  | .tup ks, v, h => by
    rw [NK] at h ⊢
    obtain ⟨a, vs, e, h1, h2⟩ := h
    exact ⟨a, vs, e, s _ _ h1, NKs.mono s ks vs h2⟩
theorem NKs.mono {H H' : Hp} (s : ∀ a vs, H a = some (.tup vs) → H' a = some (.tup vs)) : ∀ (ks : List NestedKey) (vs : List V), NKs H ks vs → NKs H' ks vs
  | [], vs, h => by rw [NKs] at h ⊢; exact h
  | k :: ks, vs, h => by
    rw [NKs] at h ⊢
    obtain ⟨v, r, e, h1, h2⟩ := h
    exact ⟨v, r, e, NK.mono s k v h1, NKs.mono s ks r h2⟩
end
section
variable {P : Program} {w : World} {H : Hp} {h : Heap}
mutual
theorem NK.is (ok : HOk P w H h) : ∀ (k : NestedKey) (v : V) (u : Value), NK H k v → RelV v u → NestedIs h k u
  | .none, v, u, hk, r => by
    rw [NK] at hk; subst hk
    cases r; exact .none
  | .num i, v, u, hk, r => by
    rw [NK] at hk; subst hk
    obtain ⟨t, rfl⟩ := r; exact .int _ _
  | .text x, v, u, hk, r => by
    rw [NK] at hk; subst hk
    obtain ⟨t, rfl⟩ := r; exact .text _ _
  | .tup ks, v, u, hk, r => by
    rw [NK] at hk
    obtain ⟨a, vs, rfl, ha, hs⟩ := hk
    cases r
    obtain ⟨_, its, rv, o, h1, h2, n, h3⟩ := (show ObjOk P w H h a (.tup vs) from ok a _ ha)
    exact .tup h1 h2 h3 (by simpa using NKs.is ok ks vs its hs rv)
theorem NKs.is (ok : HOk P w H h) : ∀ (ks : List NestedKey) (vs : List V) (us : List Value), NKs H ks vs → Vals vs us → NestedAll h ks us
  | [], vs, us, hk, r => by
    rw [NKs] at hk; subst hk
    cases r; exact .nil
  | k :: ks, vs, us, hk, r => by
    rw [NKs] at hk
    obtain ⟨v, q, rfl, h1, h2⟩ := hk
    cases r with
    | cons r1 r2 => exact .cons (NK.is ok k v _ h1 r1) (NKs.is ok ks q _ h2 r2)
end
end
abbrev Ent := NestedKey × Addr × V
def EntR (x : Ent) (y : NestedKey × Addr × Value) : Prop := x.1 = y.1 ∧ x.2.1 = y.2.1 ∧ RelV x.2.2 y.2.2
def ndOk (P : Program) (w : World) (d : Addr) (xs : List Ent) (h : Heap) : Prop := (d == sysModules) = false ∧ xs.length ≤ sizeLine ∧ ∃ ys, Paired EntR xs ys ∧
  ∃ o es ep, h.get? d = some o ∧ o.ExactDict ∧ o.data = .dict es ep ∧ es.toList = ys.map (entryOfKey (nestedKind P w)) ∧ (ys.map (·.1)).Nodup
/-- a dict with nested keys at d -/
def ndO (P : Program) (w : World) (d : Addr) (xs : List Ent) : HO := .ext (ndOk P w d xs)
theorem ndO_ok {P : Program} {w : World} {H : Hp} {h : Heap} {d : Addr} {xs : List Ent} (x : ndOk P w d xs h) : ObjOk P w H h d (ndO P w d xs) := by
  obtain ⟨h1, hz, ys, h2, o, es, ep, h3, h4⟩ := id x
  exact ⟨x, ⟨o, h3⟩, fun a b ⟨q1, qz, ys', q2, o', es', ep', q3, q4⟩ k => ⟨q1, qz, ys', q2, o', es', ep', k _ q3, q4⟩⟩
theorem ndO_at {P : Program} {w : World} {H : Hp} {h : Heap} {d : Addr} {xs : List Ent} (ok : HOk P w H h) (e : H d = some (ndO P w d xs)) : ndOk P w d xs h := by
  have x : ObjOk P w H h d (.ext (ndOk P w d xs)) := ok d _ e
  exact x.1
/-- all its keys stand -/
def Keys (H : Hp) (xs : List Ent) : Prop := ∀ x ∈ xs, NK H x.1 (.ref x.2.1) ∧ x.1.depth ≤ 8
theorem Keys.mono {H H' : Hp} (s : ∀ a vs, H a = some (.tup vs) → H' a = some (.tup vs)) {xs : List Ent} (k : Keys H xs) : Keys H' xs := fun x hx => ⟨NK.mono s _ _ (k x hx).1, (k x hx).2⟩
theorem entR_mem {xs : List Ent} {ys : List (NestedKey × Addr × Value)} (p : Paired EntR xs ys) : ∀ y ∈ ys, ∃ x ∈ xs, EntR x y := by
  induction p with
  | nil => intro y hy; cases hy
  | cons r _ ih =>
    intro y hy
    rcases List.mem_cons.mp hy with e | hy
    · rw [e]; exact ⟨_, List.mem_cons_self .., r⟩
    · obtain ⟨x, hx, q⟩ := ih y hy
      exact ⟨x, List.mem_cons_of_mem _ hx, q⟩
theorem nd_of {P : Program} {w : World} {H : Hp} {h : Heap} {d : Addr} {xs : List Ent} (ok : HOk P w H h) (e : H d = some (ndO P w d xs)) (k : Keys H xs) :
    (d == sysModules) = false ∧ xs.length ≤ sizeLine ∧ ∃ ys, Paired EntR xs ys ∧ h.DictOfH (nestedKind P w) d ys := by
  obtain ⟨h1, hz, ys, h2, o, es, ep, h3, h4, h5, h6, h7⟩ := ndO_at ok e
  refine ⟨h1, hz, ys, h2, o, es, ep, h3, h4, h5, h6, fun y hy => ?_, h7⟩
  obtain ⟨x, hx, e1, e2, _⟩ := entR_mem h2 y hy
  obtain ⟨q1, q2⟩ := k x hx
  rw [← e1, ← e2]
  exact ⟨NK.is ok _ _ _ q1 rfl, q2⟩
def getN (xs : List Ent) (k : NestedKey) : Option (Addr × V) := (xs.find? fun x => decide (x.1 = k)).map (·.2)
theorem getN_rel {xs : List Ent} {ys : List (NestedKey × Addr × Value)} (p : Paired EntR xs ys) (k : NestedKey) : (getN xs k = none ∧ atKey ys k = none) ∨ ∃ a v u, getN xs k = some (a, v) ∧ atKey ys k = some (a, u) ∧ RelV v u := by
  induction p with
  | nil => exact .inl ⟨rfl, rfl⟩
  | @cons x y l m r _ ih =>
    obtain ⟨e1, e2, r3⟩ := r
    by_cases h : x.1 = k
    · refine .inr ⟨x.2.1, x.2.2, y.2.2, ?_, ?_, r3⟩
      · unfold getN; rw [List.find?_cons_of_pos (by simpa using h)]; rfl
      · unfold atKey; rw [List.find?_cons_of_pos (by simpa [← e1] using h), e2]; rfl
    · have a1 : getN (x :: l) k = getN l k := by unfold getN; rw [List.find?_cons_of_neg (by simpa using h)]
      have a2 : atKey (y :: m) k = atKey m k := by unfold atKey; rw [List.find?_cons_of_neg (by simpa [← e1] using h)]
      rw [a1, a2]
      exact ih
theorem getN_isSome {xs : List Ent} {ys : List (NestedKey × Addr × Value)} (p : Paired EntR xs ys) (k : NestedKey) : (atKey ys k).isSome = (getN xs k).isSome := by
  rcases getN_rel p k with ⟨h1, h2⟩ | ⟨a, v, u, h1, h2, _⟩ <;> rw [h1, h2] <;> rfl
theorem getN_none {xs : List Ent} {k : NestedKey} : getN xs k = none ↔ ∀ x ∈ xs, x.1 ≠ k := by
  unfold getN
  rw [Option.map_eq_none_iff, List.find?_eq_none]
  constructor
  · intro h x hx e; exact h x hx (by simpa using e)
  · intro h x hx e; exact h x hx (by simpa using e)
section
variable {X : Cx} {pins : List (Addr × Obj)} {σ : L2.St} {H : Hp} {s : Shared} {d p : Addr} {k : NestedKey} {xs : List Ent} {A : Around} {E : Value → Shared → Prop}
theorem room8 {j : Nat} (hr : Room j A) : (nestedKind X.prog X.w).room A.in1 := by
  have := hr.units
  show A.in1.units + 8 < cLine
  have e : A.in1.units = A.units + 1 := rfl
  omega
/-- y in d, y not in d -/
def tNIn (P : Program) (w : World) (neg : Bool) (ty td : TE) : TE := fun σ H Q => ty σ H fun y H1 => td σ H1 fun x H2 => ∃ d p k xs, x = .ref d ∧ y = .ref p ∧ H2 d = some (ndO P w d xs) ∧ Keys H2 xs ∧ NK H2 k (.ref p) ∧ k.depth ≤ 8 ∧
  Q (.bl (if neg then !(getN xs k).isSome else (getN xs k).isSome)) H2
variable {i o value : Expr} {ty td tv : TE} {pos pos' : Pos} {j : Nat}
theorem pc_nin (hr : Room j X.A) (hi : PE X i ty) (ho : PE X o td) : PC X .In i o (tNIn X.prog X.w false ty td) := by
  refine ⟨fun pins s σ H Q I h => ?_⟩
  refine thn (hi.run pins s σ H _ I h) fun iv s1 ⟨y, H1, I1, ry, q1⟩ => thn (ho.run pins s1 σ H1 _ I1 q1) fun u s2 ⟨x, H2, I2, rx, d, p, k, xs, ex, ey, e, ks, hk, hd, q2⟩ => ?_
  subst ex ey
  obtain rfl : u = Value.ref d := rx
  obtain rfl : iv = Value.ref p := ry
  obtain ⟨h1, hz, ys, pr, dd⟩ := nd_of I2.hok e ks
  refine wpAny_in_heap (knd := nestedKind X.prog X.w) (k := k) (room8 hr) ⟨NK.is I2.hok _ _ _ hk rfl, hd⟩ h1 dd ?_
  rw [getN_isSome pr]
  exact ⟨.bl _, H2, I2.tok _, rfl, q2⟩
theorem pc_nnotin (hr : Room j X.A) (hi : PE X i ty) (ho : PE X o td) : PC X .NotIn i o (tNIn X.prog X.w true ty td) := by
  refine ⟨fun pins s σ H Q I h => ?_⟩
  refine thn (hi.run pins s σ H _ I h) fun iv s1 ⟨y, H1, I1, ry, q1⟩ => thn (ho.run pins s1 σ H1 _ I1 q1) fun u s2 ⟨x, H2, I2, rx, d, p, k, xs, ex, ey, e, ks, hk, hd, q2⟩ => ?_
  subst ex ey
  obtain rfl : u = Value.ref d := rx
  obtain rfl : iv = Value.ref p := ry
  obtain ⟨h1, hz, ys, pr, dd⟩ := nd_of I2.hok e ks
  refine wpAny_notIn_heap (knd := nestedKind X.prog X.w) (k := k) (room8 hr) ⟨NK.is I2.hok _ _ _ hk rfl, hd⟩ h1 dd ?_
  rw [getN_isSome pr]
  exact ⟨.bl _, H2, I2.tok _, rfl, q2⟩
/-- d[y] -/
def tNGet (P : Program) (w : World) (td ty : TE) : TE := fun σ H Q => td σ H fun x H1 => ty σ H1 fun y H2 => ∃ d p k xs a v, x = .ref d ∧ y = .ref p ∧ H2 d = some (ndO P w d xs) ∧ Keys H2 xs ∧ NK H2 k (.ref p) ∧ k.depth ≤ 8 ∧ getN xs k = some (a, v) ∧ Q v H2
theorem pe_nget (hr : Room j X.A) (ho : PE X o td) (hi : PE X i ty) (hs : NoSl i) : PE X (.Subscript o i pos) (tNGet X.prog X.w td ty) := by
  refine ⟨fun pins s σ H Q I h => ?_⟩
  refine subD_of PySem.F.slot_dict_getitem.lookup hs (thn (ho.run pins s σ H _ I h) fun u s1 ⟨x, H1, I1, rx, q1⟩ => thn (hi.run pins s1 σ H1 _ I1 q1) fun iv s2 ⟨y, H2, I2, ry, d, p, k, xs, a, v, ex, ey, e, ks, hk, hd, hg, q2⟩ => ?_)
  subst ex ey
  obtain rfl : u = Value.ref d := rx
  obtain rfl : iv = Value.ref p := ry
  obtain ⟨h1, hz, ys, pr, dd⟩ := nd_of I2.hok e ks
  refine ⟨dd.typeIs, ?_⟩
  rcases getN_rel pr k with ⟨g1, _⟩ | ⟨a', v', u', g1, g2, g3⟩
  · rw [g1] at hg; cases hg
  · rw [g1] at hg; cases hg
    exact wpAny_getItem_heap (knd := nestedKind X.prog X.w) (k := k) (room8 hr) ⟨NK.is I2.hok _ _ _ hk rfl, hd⟩ dd g2 ⟨v, H2, I2.tok _, g3, q2⟩
/-- d[y] = v, y a new key -/
def sNPut (P : Program) (w : World) (td ty tv : TE) : TS := fun D σ H => tv σ H fun v H1 => td σ H1 fun x H2 => ty σ H2 fun y H3 => ∃ d p k xs, x = .ref d ∧ y = .ref p ∧ H3 d = some (ndO P w d xs) ∧ Keys H3 xs ∧ NK H3 k (.ref p) ∧ k.depth ≤ 8 ∧
  xs.length < sizeLine ∧ getN xs k = none ∧ D.nx σ (upd H3 d (ndO P w d (xs ++ [(k, p, v)])))
theorem paired_app {α β : Type} {F : α → β → Prop} : ∀ {a : List α} {b : List β} {c : List α} {d : List β}, Paired F a b → Paired F c d → Paired F (a ++ c) (b ++ d)
  | _, _, _, _, .nil, q => q
  | _, _, _, _, .cons r t, q => .cons r (paired_app t q)
theorem ps_nput (hr : Room j X.A) (ho : PE X o td) (hi : PE X i ty) (hv : PE X value tv) (hs : swapsWith value (some (.Subscript o i pos')) pos.line X.env = pure false := by rfl) :
    PS X (.Assign [.Subscript o i pos'] value pos) (sNPut X.prog X.w td ty tv) := by
  refine ⟨fun pins s σ H D I h => ?_⟩
  refine wpAny_Assign_Subscript (thn (hv.run pins s σ H _ I h) fun r s1 ⟨v, H1, I1, rv, q1⟩ => thn (ho.run pins s1 σ H1 _ I1 q1) fun u s2 ⟨x, H2, I2, rx, q2⟩ => thn (hi.run pins s2 σ H2 _ I2 q2) fun iv s3 ⟨y, H3, I3, ry, d, p, k, xs, ex, ey, e, ks, hk, hd, hl, hg, q3⟩ => ?_) hs
  subst ex ey
  obtain rfl : u = Value.ref d := rx
  obtain rfl : iv = Value.ref p := ry
  obtain ⟨h1, hz, ys, pr, dd⟩ := nd_of I3.hok e ks
  have hn : atKey ys k = none := by
    rcases getN_rel pr k with ⟨_, g2⟩ | ⟨_, _, _, g1, _⟩
    · exact g2
    · rw [g1] at hg; cases hg
  refine wpAny_setItem_heap (hsz := by rw [← Paired.length pr]; exact hz) (knd := nestedKind X.prog X.w) (k := k) (room8 hr) ⟨NK.is I3.hok _ _ _ hk rfl, hd⟩ dd fun h' dd' hs => ?_
  obtain ⟨q, es, ep, a1, a2, a3, a4, _, a5⟩ := dd'
  rw [storedH_new hn] at a4 a5
  have nd : ndOk X.prog X.w d (xs ++ [(k, p, v)]) h' := ⟨h1, by rw [List.length_append, List.length_singleton]; omega, _, paired_app pr (.cons ⟨rfl, rfl, rv⟩ .nil), q, es, ep, a1, a2, a3, a4, a5⟩
  exact ⟨σ, _, d_write I3 (by rw [e]; exact True.intro) hs ⟨q, a1⟩ (ndO_ok nd), q3⟩
/-- {k: v}, one pair -/
def tNOne (P : Program) (w : World) (tk tv : TE) : TE := fun σ H Q => ∀ d, H d = none → tk σ (upd H d (ndO P w d [])) fun y H1 => tv σ H1 fun v H2 => H2 d = some (ndO P w d []) ∧ ∃ p k, y = .ref p ∧ NK H2 k (.ref p) ∧ k.depth ≤ 8 ∧ Q (.ref d) (upd H2 d (ndO P w d [(k, p, v)]))
theorem nd_empty {P : Program} {w : World} (h : Heap) (hb : sysModules < h.objs.size) : ndOk P w h.objs.size [] (h.push { cls := .type "dict", data := .dict #[] }) :=
  ⟨beq_eq_false_iff_ne.mpr (Ne.symm (Nat.ne_of_lt hb)), Nat.zero_le _, [], .nil, _, #[], 0, Heap.get?_push_size _ rfl, ⟨rfl, rfl, rfl⟩, rfl, rfl, List.nodup_nil⟩
theorem pe_none {k v : Expr} {tk tv' : TE} (hr : Room j X.A) (hk : PE X k tk) (hv : PE X v tv') : PE X (.Dict [some k] [v] pos) (tNOne X.prog X.w tk tv') := by
  refine ⟨fun pins s σ H Q I q => ?_⟩
  have hn := I.hok.fresh (Nat.le_refl s.heap.objs.size)
  have I1 := I.laid (a := s.heap.objs.size) (o := ndO X.prog X.w s.heap.objs.size []) (h' := s.heap.push { cls := .type "dict", data := .dict #[] }) (t' := s.toks) (fun _ _ q => Heap.get?_push_of_some _ q) (Nat.le_refl _) (ndO_ok (nd_empty s.heap I.big))
  refine wpAny_Dict_any (by rfl) rfl (by simp) (by simp) ?_
  refine pairTrees_cons_walk (thn (hk.run pins _ σ _ _ I1 (q _ hn)) fun u s1 ⟨y, H1, I2, ry, q1⟩ => thn (hv.run pins s1 σ H1 _ I2 q1) fun w2 s2 ⟨v', H2, I3, rv, e, p, kk, ey, nk, nd, q2⟩ => pairTrees_nil_walk ?_)
  subst ey
  obtain rfl : u = Value.ref p := ry
  obtain ⟨h1, hz, ys, pr, dd⟩ := nd_of I3.hok e (fun x hx => by cases hx)
  cases pr
  show wpAny _ _ (storeAll _ [(Value.ref p, w2)]) _ _ _
  unfold storeAll
  rw [List.forIn_cons]
  have hu : X.A.units + 8 < cLine := by have := hr.units; omega
  refine wpAny_bind (wpAny_bind (wpAny_dictSet_heap (hsz := Nat.zero_le _) (knd := nestedKind X.prog X.w) (k := kk) hu ⟨NK.is I3.hok _ _ _ nk rfl, nd⟩ dd fun h' dd' hs => wpAny_pure ?_))
  show wpAny _ _ (pure PUnit.unit : Sem PUnit) _ _ _
  refine wpAny_pure ?_
  obtain ⟨q0, es, ep, a1, a2, a3, a4, _, a5⟩ := dd'
  rw [storedH_new rfl] at a4 a5
  have nd' : ndOk X.prog X.w s.heap.objs.size [(kk, p, v')] h' := ⟨h1, by rw [sizeLine_eq, List.length_singleton]; decide, _, .cons ⟨rfl, rfl, rv⟩ .nil, q0, es, ep, a1, a2, a3, a4, a5⟩
  exact ⟨.ref s.heap.objs.size, _, d_write I3 (by rw [e]; exact True.intro) hs ⟨q0, a1⟩ (ndO_ok nd'), rfl, q2⟩
end
/-- xs[i], by values, i from 0 on: for xs[i] += e -/
theorem get_list {X : Cx} : PGet X (fun x y H Q => ∃ p xs i v, x = .ref p ∧ y = .int i ∧ 0 ≤ i ∧ SqL X.K H p xs ∧ xs[i.toNat]? = some v ∧ Q v H) := by
  intro pins s σ H o i ov iv Q I ro ri h
  obtain ⟨p, xs, k, v, rfl, rfl, h0, hq, he, q⟩ := h
  cases ro
  obtain ⟨t, rfl⟩ := ri
  obtain ⟨its, r, pl, hz⟩ := I.list hq
  obtain ⟨u, eu, ru⟩ := r.get he
  have hl := r.length
  have hn := line63
  have hlt := (List.getElem?_eq_some_iff.mp he).1
  exact wpAny_getItem_list pl.isList h0 (by omega) (by simpa using eu) ⟨v, H, I, ru, q⟩
end ND

set_option maxHeartbeats 4000000
/-! exceptions whose __init__ says the base's and stores one field -/
namespace EX
open PySem PySem.Spec PyProof.Rows L2
/-! ### a look at the class -/
def oexB (K : PySem.W.Frag) (C : Addr) : Bool := (match K.lookup C with
  | some ⟨.type t, _, .cls cd, sl⟩ => (match cd.mro, sl.toList with
    | .ref C' :: bm, [_, _, _, _, some (.builtin n), _] => t == "type" && (C' == C && (n == "ValueError.__new__" && (!cd.hasDel && (cd.hasDict && PySem.HandSPX.refsVE bm))))
    | _, _ => false)
  | _ => false) && (decide (PySem.W.findIn K (.ref C) "__setattr__" = some (some (.builtin "object.__setattr__"))) && (decide (PySem.W.subIn K (.ref C) (.type "BaseException") = some true) &&
    (decide (PySem.W.typeIn K (.ref C) = some (.type "type")) && PySem.W.keepIn K (.ref C))))
theorem oex_of {K : PySem.W.Frag} {C : Addr} (q : oexB K C = true) : OexC K C := by
  unfold oexB at q
  simp only [Bool.and_eq_true, decide_eq_true_eq] at q
  obtain ⟨q, q2, q3, q4, q5⟩ := q
  refine ⟨?_, q2, q3, q4, q5⟩
  split at q
  · rename_i t dd cd sl ho
    split at q
    · rename_i C' bm k0 k1 k2 k3 n k5 hm hs
      simp only [Bool.and_eq_true, beq_iff_eq, Bool.not_eq_true'] at q
      obtain ⟨rfl, rfl, rfl, hdel, hdc, ht⟩ := q
      obtain ⟨nm, bs, mro, ns, qn, hd, sn, sub, ab, col, del⟩ := cd
      dsimp only at hm hdel hdc
      subst hm hdel hdc
      have hsl : sl = #[k0, k1, k2, k3, some (.builtin "ValueError.__new__"), k5] := by
        obtain ⟨l⟩ := sl
        simp only at hs
        rw [hs]
      subst hsl
      exact ⟨nm, qn, ns, bs, bm, sn, sub, ab, col, dd, k0, k1, k2, k3, k5, ho, ht⟩
    · cases q
  · cases q
/-- the base class's __init__, found by the class's own name -/
def binB (K : PySem.W.Frag) (C : Addr) : Bool := decide (PySem.W.specialIn K (.ref C) "__getattribute__" = some (some (.builtin "type.__getattribute__"))) && (PySem.W.readsIn K C (.type "type") &&
  (match PySem.W.findCls K (.ref C) (.type "type") "__init__" with
  | some (.val (.builtin n)) => n == "ValueError.__init__"
  | _ => false))
theorem bin_of {K : PySem.W.Frag} {C : Addr} (q : binB K C = true) : PySem.W.specialIn K (.ref C) "__getattribute__" = some (some (.builtin "type.__getattribute__")) ∧ PySem.W.readsIn K C (.type "type") = true ∧
    PySem.W.findCls K (.ref C) (.type "type") "__init__" = some (.val (.builtin "ValueError.__init__")) := by
  unfold binB at q
  simp only [Bool.and_eq_true, decide_eq_true_eq] at q
  obtain ⟨q1, q2, q3⟩ := q
  refine ⟨q1, q2, ?_⟩
  split at q3
  · rename_i n e
    rw [beq_iff_eq.mp q3] at e
    exact e
  · cases q3
section
variable {X : Cx} {o e : Expr} {es : List Expr} {to te : TE} {ta : TA} {p p' p1 p2 pos : Pos}
/-- Base.__init__(self, ..), Base an own class over ValueError without an own __init__ -/
theorem pe_binit {pl : Sem Bool} {x : Str} {B : Addr} (hg : Gl X x) (hm : X.mg x = some (.ref B)) (q : binB X.K B = true) (ha : PA X (e :: es) ta)
    (hc : eval (.Call (.Attribute (.Name x p1) "__init__" p2) (e :: es) [] pos) X.env = (do
      let ov ← eval (.Name x p1) X.env
      standAt p2.atName
      let (f, first) ← holding [ov] (getMethod ov "__init__" pl)
      callWith pos f first (backTo pos (starEach (e :: es) X.env)) (backToKw pos (keywordEach [] X.env))) := by rfl)
    (hd : (x == ("__debug__" : Str)) = false := by decide)
    (he : starEach (e :: es) X.env = (false, eval e X.env) :: starEach es X.env := by rfl) (hpl : (backTo pos (starEach es X.env)).any (·.1) = false := by rfl) :
    PE X (.Call (.Attribute (.Name x p1) "__init__" p2) (e :: es) [] pos) (tVeI X.K ta) := by
  refine ⟨fun pins s σ H Q I h => ?_⟩
  obtain ⟨b1, b2, b3⟩ := bin_of q
  refine PySem.W.methodCall_KW (ld_glob I hg hm ?_ hd) hc
  refine PySem.W.method_cls I.kIn b1 (PySem.W.cls_value I.kIn b2 b3 (by decide +kernel) ?_)
  show wpAny _ _ (callWith pos (Value.builtin "ValueError.__init__") [] (backTo pos (starEach (e :: es) X.env)) []) _ _ _
  refine PyProof.Rows.callWith_method1 (thn (ha.run pos pins _ σ H _ (I.tok _) h) fun us s1 ⟨vs, H1, I1, r1, a, C, ws, ev, hl, T, ea, q⟩ => ?_) he hpl
  subst ev
  cases r1 with
  | @cons _ u0 _ ur ra rw' =>
    obtain rfl : u0 = Value.ref a := ra
    have hlen : ur.length ≤ sizeLine := by
      rw [← Paired.length rw', sizeLine_eq]
      omega
    exact oinit_ok T I1 ea hlen fun s' J => ⟨.non, H1, J, rfl, q⟩
end
/-- __init__(self, v) of such a class: self.f = v -/
def spX (C : Addr) (f : Str) : Sp := fun vs H Q _ => ∃ a v, vs = [.ref a, v] ∧ H a = some (exo a C none) ∧ ∀ dx, H dx = none → dx ≠ a → Q .non (upd (upd H dx (exd dx [(f, v)])) a (exo a C (some dx)))
theorem mkO_use {C : Addr} {f : Str} {Q : XK} {H1 : Hp} {v : V} (q : ∀ d H', Same H1 H' → H' d = some (.xd [(f, v)]) → H1 d = none → Q (.ref C) (some d) H') :
    [v].length ≤ 1000 ∧ ∀ a, H1 a = none → spX C f (.ref a :: ([v] ++ [])) (upd H1 a (exo a C none))
      (fun v H2 => v = .non ∧ ∃ (d : Addr) (fs : List (Str × V)), H2 a = some (exo a C (some d)) ∧ H2 d = some (exd d fs) ∧ H1 d = none ∧ Q (.ref C) (some d) (upd (del H2 a) d (.xd fs))) (fun _ _ _ => False) := by
  refine ⟨by show 1 ≤ 1000; decide, fun a na => ⟨a, v, rfl, upd_same, fun dx nd ne => ⟨rfl, dx, [(f, v)], upd_same, by rw [upd_ne ne, upd_same], by rw [upd_ne ne] at nd; exact nd, q dx _ (fun b o hb => ?_) upd_same (by rw [upd_ne ne] at nd; exact nd)⟩⟩⟩
  have nd' : H1 dx = none := by rw [upd_ne ne] at nd; exact nd
  have b1 : b ≠ a := ne_of_none hb na
  have b2 : b ≠ dx := ne_of_none hb nd'
  rw [upd_ne b2, del_ne b1, upd_ne b1, upd_ne b2, upd_ne b1]
  exact hb
/-! ### a call with keywords, what is raised wished for at the caller's slots -/
def tCallNS (n m : Nat) (sp : Sp) (gV : List V → List V → List V) (E : L2.St → XK) (t tk : TA) : TE := fun σ H Q => t σ H fun vs H1 => tk σ H1 fun zs H2 => vs.length = n ∧ zs.length = m ∧ sp (gV vs zs) H2 Q (E σ)
section
variable {X : Cx} {CX : CXT} {k n : Nat} {f : Addr} {fd : FuncData} {ps ks : List Str} {sp : Sp} {E : L2.St → XK} {x : Str} {p pos : Pos} {e : Expr} {es : List Expr} {kws : List Keyword} {t tk : TA} {g : List Value → List Value → List Value} {gV : List V → List V → List V}
theorem pe_callNS (F : FnOk X.prog X.w X.K X.mg X.base CX k f fd ps sp) (hr : Room k X.A) (hg : Gl X x) (hm : X.mg x = some (.ref f)) (hk : PySem.W.keepIn X.K (.ref f) = true) (hb : KBn X.K fd ps n ks g gV) (hx : ∀ σ, PassesAt CX X σ (E σ))
    (ha : PA X (e :: es) t) (hkw : PK X kws tk) (hall : (backToKw pos (keywordEach kws X.env)).all (·.1.isSome) = true := by rfl) (hks : (backToKw pos (keywordEach kws X.env)).filterMap (·.1) = ks := by rfl)
    (hdb : (x == ("__debug__" : Str)) = false := by decide) (he : starEach (e :: es) X.env = (false, eval e X.env) :: starEach es X.env := by rfl)
    (hpl : ((backTo pos (starEach (e :: es) X.env)).any (·.1) || (backToKw pos (keywordEach kws X.env)).any (·.1.isNone)) = false := by rfl) :
    PE X (.Call (.Name x p) (e :: es) kws pos) (tCallNS n ks.length sp gV E t tk) := by
  refine ⟨fun pins s σ H Q I h => ?_⟩
  refine wpAny_Call_Name_kw (ld_glob I hg hm ?_ hdb)
  refine PySem.W.callWith_KW (h₀ := X.base) I.ok.mod.kin hk hall (thn (ha.run pos pins s σ H _ I h) fun us s1 ⟨vs, H1, I1, r, q⟩ => ?_) hpl he
  refine thn (hkw.run pos pins s1 σ H1 _ I1 q) fun ws s2 ⟨zs, H2, I2, rz, l1, l2, q2⟩ => ⟨I2.kIn, ?_⟩
  rw [hks]
  have r2 := hb.rel r rz
  refine wpAny_call (codeAny_mono (F.run X.A X.stack s2 H2 ⟨us, ks.zip ws⟩ (g us ws) (gV vs zs) Q (E σ) hr I2.env0 (hb.to s2 us ws I2.kIn (r.length.symm.trans l1) (rz.length.symm.trans l2)) r2 q2) fun r s' hq => ?_)
  cases r with
  | error e => exact hx σ pins H2 s2 e s' I2 hq
  | ok fl =>
    cases fl with
    | ret u => exact I2.after hq
    | next => exact False.elim hq
    | brk => exact False.elim hq
    | cont => exact False.elim hq
end
end EX
namespace EX
open PySem PySem.Spec PyProof.Rows L2
section
variable {X : Cx} {o e : Expr} {es : List Expr} {ta : TA} {p pos : Pos} {x f : Str} {C fI : Addr} {k j : Nat} {ps : List Str}
/-- X(e), the class's __init__ by its promise -/
theorem pmk_f (T : OexC X.K C) (i : PySem.W.findIn X.K (.ref C) "__init__" = some (some (.ref fI)) ∧ PySem.W.typeIn X.K (.ref fI) = some (.type "function") ∧ PySem.W.exmOne X.K (.ref C) (.ref C) = some true)
    (c : ∃ fd, FnOk X.prog X.w X.K X.mg X.base C8.CX0 k fI fd ps (spX C f) ∧ Binds X.K fd ps []) (hr : Room j X.A) (hk : k + 1 ≤ j) (hg : Gl X x) (hm : X.mg x = some (.ref C)) (ha : PA X (e :: es) ta)
    (hdb : (x == ("__debug__" : Str)) = false := by decide) (he : starEach (e :: es) X.env = (false, eval e X.env) :: starEach es X.env := by rfl) (hpl : (backTo pos (starEach es X.env)).any (·.1) = false := by rfl) :
    PMk X (.Call (.Name x p) (e :: es) [] pos) (tMkO C (spX C f) [] ta) := by
  obtain ⟨fd, F, b⟩ := c
  exact pmk_oex T i.1 i.2.1 F (hr.mono hk) b .nil C8.pass0 hg hm ha hdb he hpl
end
end EX

set_option maxHeartbeats 4000000
namespace WH
open PySem PySem.Spec PyProof.Rows L2
def top (i : Nat) : Stmt := PySem.Challenge.pw_wanehold_k77_alike_just_most.main.body.getD i (.Pass ⟨0, 0, 0, 0⟩)
abbrev s_TooMany___init__ : Stmt := inClass (top 4) 0
abbrev n_TooMany___init__ : List Str := ["self", "most"]
theorem sc_TooMany___init__ : FnScope n_TooMany___init__ ["self", "most"] (defScope s_TooMany___init__) := ⟨rfl, rfl, rfl, by decide +kernel, rfl, by decide +kernel, by decide +kernel⟩
abbrev s_is_whole : Stmt := top 8
abbrev n_is_whole : List Str := ["thing"]
theorem sc_is_whole : FnScope n_is_whole ["thing"] (defScope s_is_whole) := ⟨rfl, rfl, rfl, by decide +kernel, rfl, by decide +kernel, by decide +kernel⟩
abbrev s_is_within : Stmt := top 9
abbrev n_is_within : List Str := ["thing", "least", "most"]
theorem sc_is_within : FnScope n_is_within ["thing", "least", "most"] (defScope s_is_within) := ⟨rfl, rfl, rfl, by decide +kernel, rfl, by decide +kernel, by decide +kernel⟩
abbrev s_is_strength : Stmt := top 10
abbrev n_is_strength : List Str := ["thing"]
theorem sc_is_strength : FnScope n_is_strength ["thing"] (defScope s_is_strength) := ⟨rfl, rfl, rfl, by decide +kernel, rfl, by decide +kernel, by decide +kernel⟩
abbrev s_is_size : Stmt := top 11
abbrev n_is_size : List Str := ["thing"]
theorem sc_is_size : FnScope n_is_size ["thing"] (defScope s_is_size) := ⟨rfl, rfl, rfl, by decide +kernel, rfl, by decide +kernel, by decide +kernel⟩
abbrev s_is_moment : Stmt := top 12
abbrev n_is_moment : List Str := ["thing"]
theorem sc_is_moment : FnScope n_is_moment ["thing"] (defScope s_is_moment) := ⟨rfl, rfl, rfl, by decide +kernel, rfl, by decide +kernel, by decide +kernel⟩
abbrev s_is_step : Stmt := top 13
abbrev n_is_step : List Str := ["thing"]
theorem sc_is_step : FnScope n_is_step ["thing"] (defScope s_is_step) := ⟨rfl, rfl, rfl, by decide +kernel, rfl, by decide +kernel, by decide +kernel⟩
abbrev s_is_head : Stmt := top 17
abbrev n_is_head : List Str := ["thing", "one"]
theorem sc_is_head : FnScope n_is_head ["thing"] (defScope s_is_head) := ⟨rfl, rfl, rfl, by decide +kernel, rfl, by decide +kernel, by decide +kernel⟩
abbrev s_is_tail : Stmt := top 18
abbrev n_is_tail : List Str := ["thing", "one"]
theorem sc_is_tail : FnScope n_is_tail ["thing"] (defScope s_is_tail) := ⟨rfl, rfl, rfl, by decide +kernel, rfl, by decide +kernel, by decide +kernel⟩
abbrev s_Wane___init__ : Stmt := inClass (top 19) 0
abbrev n_Wane___init__ : List Str := ["self", "head", "tail", "cap", "lift", "anew"]
theorem sc_Wane___init__ : FnScope n_Wane___init__ ["self", "head", "tail", "cap", "lift", "anew"] (defScope s_Wane___init__) := ⟨rfl, rfl, rfl, by decide +kernel, rfl, by decide +kernel, by decide +kernel⟩
abbrev s_Wane_cap : Stmt := inClass (top 19) 3
abbrev n_Wane_cap : List Str := ["self"]
theorem sc_Wane_cap : FnScope n_Wane_cap ["self"] (defScope s_Wane_cap) := ⟨rfl, rfl, rfl, by decide +kernel, rfl, by decide +kernel, by decide +kernel⟩
abbrev s_Wane_lift : Stmt := inClass (top 19) 4
abbrev n_Wane_lift : List Str := ["self"]
theorem sc_Wane_lift : FnScope n_Wane_lift ["self"] (defScope s_Wane_lift) := ⟨rfl, rfl, rfl, by decide +kernel, rfl, by decide +kernel, by decide +kernel⟩
abbrev s_Wane_is_anew : Stmt := inClass (top 19) 5
abbrev n_Wane_is_anew : List Str := ["self"]
theorem sc_Wane_is_anew : FnScope n_Wane_is_anew ["self"] (defScope s_Wane_is_anew) := ⟨rfl, rfl, rfl, by decide +kernel, rfl, by decide +kernel, by decide +kernel⟩
abbrev s_Wane_coming : Stmt := inClass (top 19) 6
abbrev n_Wane_coming : List Str := ["self", "since", "long"]
theorem sc_Wane_coming : FnScope n_Wane_coming ["self", "since"] (defScope s_Wane_coming) := ⟨rfl, rfl, rfl, by decide +kernel, rfl, by decide +kernel, by decide +kernel⟩
abbrev s_Wane_phase_of : Stmt := inClass (top 19) 7
abbrev n_Wane_phase_of : List Str := ["self", "since", "long"]
theorem sc_Wane_phase_of : FnScope n_Wane_phase_of ["self", "since"] (defScope s_Wane_phase_of) := ⟨rfl, rfl, rfl, by decide +kernel, rfl, by decide +kernel, by decide +kernel⟩
abbrev s_Wane_phase : Stmt := inClass (top 19) 9
abbrev n_Wane_phase : List Str := ["self", "since"]
theorem sc_Wane_phase : FnScope n_Wane_phase ["self", "since"] (defScope s_Wane_phase) := ⟨rfl, rfl, rfl, by decide +kernel, rfl, by decide +kernel, by decide +kernel⟩
abbrev s_check_part : Stmt := top 21
abbrev n_check_part : List Str := ["wane", "strength", "least", "place"]
theorem sc_check_part : FnScope n_check_part ["wane", "strength", "least", "place"] (defScope s_check_part) := ⟨rfl, rfl, rfl, by decide +kernel, rfl, by decide +kernel, by decide +kernel⟩
abbrev s_turned : Stmt := top 22
abbrev n_turned : List Str := ["wane", "strength", "since", "by", "take"]
theorem sc_turned : FnScope n_turned ["wane", "strength", "since"] (defScope s_turned) := ⟨rfl, rfl, rfl, by decide +kernel, rfl, by decide +kernel, by decide +kernel⟩
abbrev s_asked : Stmt := top 23
abbrev n_asked : List Str := ["wane", "strength"]
theorem sc_asked : FnScope n_asked ["wane", "strength"] (defScope s_asked) := ⟨rfl, rfl, rfl, by decide +kernel, rfl, by decide +kernel, by decide +kernel⟩
abbrev s_waned : Stmt := top 24
abbrev n_waned : List Str := ["wane", "strength", "since"]
theorem sc_waned : FnScope n_waned ["wane", "strength", "since"] (defScope s_waned) := ⟨rfl, rfl, rfl, by decide +kernel, rfl, by decide +kernel, by decide +kernel⟩
abbrev s_lifted : Stmt := top 25
abbrev n_lifted : List Str := ["wane", "strength"]
theorem sc_lifted : FnScope n_lifted ["wane", "strength"] (defScope s_lifted) := ⟨rfl, rfl, rfl, by decide +kernel, rfl, by decide +kernel, by decide +kernel⟩
abbrev s_need_asked : Stmt := top 29
abbrev n_need_asked : List Str := ["one", "strength", "other", "far", "most", "place", "wane", "number"]
theorem sc_need_asked : FnScope n_need_asked ["one", "strength", "other", "far", "most"] (defScope s_need_asked) := ⟨rfl, rfl, rfl, by decide +kernel, rfl, by decide +kernel, by decide +kernel⟩
abbrev s_led : Stmt := top 30
abbrev n_led : List Str := ["wane", "state", "sign", "strength", "since"]
theorem sc_led : FnScope n_led ["wane", "state", "sign"] (defScope s_led) := ⟨rfl, rfl, rfl, by decide +kernel, rfl, by decide +kernel, by decide +kernel⟩
abbrev s_alike : Stmt := top 31
abbrev n_alike : List Str := ["one", "strength", "other", "far", "most", "rows", "known", "place", "row", "mine", "yours", "sign", "pair"]
theorem sc_alike : FnScope n_alike ["one", "strength", "other", "far", "most"] (defScope s_alike) := ⟨rfl, rfl, rfl, by decide +kernel, rfl, by decide +kernel, by decide +kernel⟩
abbrev s__law_bag : Stmt := top 33
abbrev n__law_bag : List Str := ["_law_script", "_law_cell"]
theorem sc__law_bag : FnScope n__law_bag ["_law_script"] (defScope s__law_bag) := ⟨rfl, rfl, rfl, by decide +kernel, rfl, by decide +kernel, by decide +kernel⟩
abbrev s__law_take : Stmt := top 34
abbrev n__law_take : List Str := ["_law_bag_here", "_law_many", "_law_cell", "_law_value", "_law_first", "_law_second"]
theorem sc__law_take : FnScope n__law_take ["_law_bag_here", "_law_many"] (defScope s__law_take) := ⟨rfl, rfl, rfl, by decide +kernel, rfl, by decide +kernel, by decide +kernel⟩
abbrev s__law_led : Stmt := top 46
abbrev n__law_led : List Str := ["_law_plan_here", "_law_state", "_law_sign", "_law_strength"]
theorem sc__law_led : FnScope n__law_led ["_law_plan_here", "_law_state", "_law_sign"] (defScope s__law_led) := ⟨rfl, rfl, rfl, by decide +kernel, rfl, by decide +kernel, by decide +kernel⟩
abbrev s__law_told : Stmt := top 45
abbrev n__law_told : List Str := ["_law_two_here", "_law_limit", "_law_one", "_law_strength", "_law_other", "_law_far", "_law_mine", "_law_yours", "e"]
theorem sc__law_told : FnScope n__law_told ["_law_two_here", "_law_limit"] (defScope s__law_told) := ⟨rfl, rfl, rfl, by decide +kernel, rfl, by decide +kernel, by decide +kernel⟩
abbrev s__law_number : Stmt := top 41
abbrev n__law_number : List Str := ["_law_bag_here", "_law_bound"]
theorem sc__law_number : FnScope n__law_number ["_law_bag_here", "_law_bound"] (defScope s__law_number) := ⟨rfl, rfl, rfl, by decide +kernel, rfl, by decide +kernel, by decide +kernel⟩
abbrev s__law_far_plan : Stmt := top 42
abbrev n__law_far_plan : List Str := ["_law_bag_here", "_law_bound", "_law_steps_here", "_law_k", "_law_by", "_law_size", "_law_one", "_law_up"]
theorem sc__law_far_plan : FnScope n__law_far_plan ["_law_bag_here"] (defScope s__law_far_plan) := ⟨rfl, rfl, rfl, by decide +kernel, rfl, by decide +kernel, by decide +kernel⟩
abbrev s__law_far_two : Stmt := top 44
abbrev n__law_far_two : List Str := ["_law_bag_here", "_law_one", "_law_other"]
theorem sc__law_far_two : FnScope n__law_far_two ["_law_bag_here"] (defScope s__law_far_two) := ⟨rfl, rfl, rfl, by decide +kernel, rfl, by decide +kernel, by decide +kernel⟩
abbrev s__law_all : Stmt := top 47
abbrev n__law_all : List Str := ["_law_two_here", "_law_limit", "_law_one", "_law_strength", "_law_other", "_law_far", "_law_rows", "_law_known", "_law_place", "_law_row", "_law_mine", "_law_yours", "_law_sign", "_law_pair"]
theorem sc__law_all : FnScope n__law_all ["_law_two_here", "_law_limit"] (defScope s__law_all) := ⟨rfl, rfl, rfl, by decide +kernel, rfl, by decide +kernel, by decide +kernel⟩
abbrev s__law_due : Stmt := top 48
abbrev n__law_due : List Str := ["_law_rows", "_law_place", "_law_limit"]
theorem sc__law_due : FnScope n__law_due ["_law_rows", "_law_place", "_law_limit"] (defScope s__law_due) := ⟨rfl, rfl, rfl, by decide +kernel, rfl, by decide +kernel, by decide +kernel⟩
abbrev s__law_many_pairs : Stmt := top 49
abbrev n__law_many_pairs : List Str := ["_law_bag_here", "_law_top", "_law_one", "_law_other"]
theorem sc__law_many_pairs : FnScope n__law_many_pairs ["_law_bag_here"] (defScope s__law_many_pairs) := ⟨rfl, rfl, rfl, by decide +kernel, rfl, by decide +kernel, by decide +kernel⟩
abbrev s__law_many_right : Stmt := top 50
abbrev n__law_many_right : List Str := ["_law_bag_here", "_law_two_here", "_law_found", "_law_rows", "_law_place", "_law_limit"]
theorem sc__law_many_right : FnScope n__law_many_right ["_law_bag_here"] (defScope s__law_many_right) := ⟨rfl, rfl, rfl, by decide +kernel, rfl, by decide +kernel, by decide +kernel⟩
abbrev s__law_shared_right : Stmt := top 51
abbrev n__law_shared_right : List Str := ["_law_bag_here", "_law_one", "_law_strength", "_law_other", "_law_far", "_law_plans", "_law_mine", "_law_wanes", "_law_plan_here", "_law_turn", "_law_found", "_law_back", "_law_told_here", "_law_one_told"]
theorem sc__law_shared_right : FnScope n__law_shared_right ["_law_bag_here"] (defScope s__law_shared_right) := ⟨rfl, rfl, rfl, by decide +kernel, rfl, by decide +kernel, by decide +kernel⟩
abbrev s__law_steps : Stmt := top 35
abbrev n__law_steps : List Str := ["_law_bag_here", "_law_many", "_law_found", "_law_k", "_law_by"]
theorem sc__law_steps : FnScope n__law_steps ["_law_bag_here", "_law_many"] (defScope s__law_steps) := ⟨rfl, rfl, rfl, by decide +kernel, rfl, by decide +kernel, by decide +kernel⟩
abbrev s__law_plan : Stmt := top 36
abbrev n__law_plan : List Str := ["_law_bag_here", "_law_bound", "_law_head", "_law_tail", "_law_top"]
theorem sc__law_plan : FnScope n__law_plan ["_law_bag_here", "_law_bound"] (defScope s__law_plan) := ⟨rfl, rfl, rfl, by decide +kernel, rfl, by decide +kernel, by decide +kernel⟩
abbrev s__law_made : Stmt := top 37
abbrev n__law_made : List Str := ["_law_plan_here"]
theorem sc__law_made : FnScope n__law_made ["_law_plan_here"] (defScope s__law_made) := ⟨rfl, rfl, rfl, by decide +kernel, rfl, by decide +kernel, by decide +kernel⟩
abbrev s__law_phase : Stmt := top 38
abbrev n__law_phase : List Str := ["_law_plan_here", "_law_since"]
theorem sc__law_phase : FnScope n__law_phase ["_law_plan_here", "_law_since"] (defScope s__law_phase) := ⟨rfl, rfl, rfl, by decide +kernel, rfl, by decide +kernel, by decide +kernel⟩
abbrev s__law_waned : Stmt := top 39
abbrev n__law_waned : List Str := ["_law_plan_here", "_law_strength", "_law_since", "_law_by", "_law_take_here"]
theorem sc__law_waned : FnScope n__law_waned ["_law_plan_here", "_law_strength", "_law_since"] (defScope s__law_waned) := ⟨rfl, rfl, rfl, by decide +kernel, rfl, by decide +kernel, by decide +kernel⟩
abbrev s__law_two : Stmt := top 40
abbrev n__law_two : List Str := ["_law_bag_here", "_law_bound", "_law_plan_here", "_law_strength", "_law_head", "_law_tail", "_law_top", "_law_up", "_law_renewed", "_law_way", "_law_at", "_law_steps_here", "_law_other"]
theorem sc__law_two : FnScope n__law_two ["_law_bag_here", "_law_bound"] (defScope s__law_two) := ⟨rfl, rfl, rfl, by decide +kernel, rfl, by decide +kernel, by decide +kernel⟩
abbrev s__law_long : Stmt := top 43
abbrev n__law_long : List Str := ["_law_bag_here", "_law_tail", "_law_head", "_law_some", "_law_top", "_law_rest"]
theorem sc__law_long : FnScope n__law_long ["_law_bag_here"] (defScope s__law_long) := ⟨rfl, rfl, rfl, by decide +kernel, rfl, by decide +kernel, by decide +kernel⟩
abbrev s_law : Stmt := top 52
abbrev n_law : List Str := ["_law_script", "_law_bag_here", "_law_again", "_law_two_here", "_law_found", "_law_rows", "_law_place", "_law_need", "_law_limit", "_law_due_here", "_law_turn", "_law_told_here"]
theorem sc_law : FnScope n_law ["_law_script"] (defScope s_law) := ⟨rfl, rfl, rfl, by decide +kernel, rfl, by decide +kernel, by decide +kernel⟩
def tys (K : PySem.W.Frag) : List Value := [.type "NoneType", .type "bool", .type "int", .type "str", .type "list", .type "tuple", .type "dict", .ref (He.ga K "Wane")]
def cls (K : PySem.W.Frag) : List Value := [.type "bool", .type "int", .type "str", .type "list", .type "tuple", .ref (He.ga K "Wane")]
def isk (t c : Value) : Bool := decide (t = c) || (decide (t = .type "bool") && decide (c = .type "int"))
def insB (K : PySem.W.Frag) (C : Addr) : Bool := decide (PySem.W.findIn K (.ref C) "__class__" = some (some (.builtin "object.__class__"))) && (decide (PySem.W.specialIn K (.builtin "object.__class__") "__get__" = some (some (.builtin "getset_descriptor.__get__"))) &&
  (decide (PySem.W.takesIn K (.builtin "object.__class__") = some true) && decide (PySem.W.mroIn K C (.type "object") = some true)))
def kitAll (K : PySem.W.Frag) : Bool := ((tys K).all fun t => (cls K).all fun c => decide (PySem.W.kitOne K t c = some (isk t c))) && insB K (He.ga K "Wane")
def d_TooMany___init__ : He.DefD := ⟨("TooMany", some "__init__"), "__init__", "TooMany.__init__", defArgs s_TooMany___init__, defBody s_TooMany___init__, defScope s_TooMany___init__, [], []⟩
def d_is_whole : He.DefD := ⟨("is_whole", none), "is_whole", "is_whole", defArgs s_is_whole, defBody s_is_whole, defScope s_is_whole, [], []⟩
def d_is_within : He.DefD := ⟨("is_within", none), "is_within", "is_within", defArgs s_is_within, defBody s_is_within, defScope s_is_within, [], []⟩
def d_is_strength : He.DefD := ⟨("is_strength", none), "is_strength", "is_strength", defArgs s_is_strength, defBody s_is_strength, defScope s_is_strength, [], []⟩
def d_is_size : He.DefD := ⟨("is_size", none), "is_size", "is_size", defArgs s_is_size, defBody s_is_size, defScope s_is_size, [], []⟩
def d_is_moment : He.DefD := ⟨("is_moment", none), "is_moment", "is_moment", defArgs s_is_moment, defBody s_is_moment, defScope s_is_moment, [], []⟩
def d_is_step : He.DefD := ⟨("is_step", none), "is_step", "is_step", defArgs s_is_step, defBody s_is_step, defScope s_is_step, [], []⟩
def d_is_head : He.DefD := ⟨("is_head", none), "is_head", "is_head", defArgs s_is_head, defBody s_is_head, defScope s_is_head, [], []⟩
def d_is_tail : He.DefD := ⟨("is_tail", none), "is_tail", "is_tail", defArgs s_is_tail, defBody s_is_tail, defScope s_is_tail, [], []⟩
def d_Wane___init__ : He.DefD := ⟨("Wane", some "__init__"), "__init__", "Wane.__init__", defArgs s_Wane___init__, defBody s_Wane___init__, defScope s_Wane___init__, [], [("anew", (.bl true))]⟩
def d_Wane_cap : He.DefD := ⟨("Wane", some "cap"), "cap", "Wane.cap", defArgs s_Wane_cap, defBody s_Wane_cap, defScope s_Wane_cap, [], []⟩
def d_Wane_lift : He.DefD := ⟨("Wane", some "lift"), "lift", "Wane.lift", defArgs s_Wane_lift, defBody s_Wane_lift, defScope s_Wane_lift, [], []⟩
def d_Wane_is_anew : He.DefD := ⟨("Wane", some "is_anew"), "is_anew", "Wane.is_anew", defArgs s_Wane_is_anew, defBody s_Wane_is_anew, defScope s_Wane_is_anew, [], []⟩
def d_Wane_coming : He.DefD := ⟨("Wane", some "coming"), "coming", "Wane.coming", defArgs s_Wane_coming, defBody s_Wane_coming, defScope s_Wane_coming, [], []⟩
def d_Wane_phase_of : He.DefD := ⟨("Wane", some "phase_of"), "phase_of", "Wane.phase_of", defArgs s_Wane_phase_of, defBody s_Wane_phase_of, defScope s_Wane_phase_of, [], []⟩
def d_Wane_phase : He.DefD := ⟨("Wane", some "phase"), "phase", "Wane.phase", defArgs s_Wane_phase, defBody s_Wane_phase, defScope s_Wane_phase, [], []⟩
def d_check_part : He.DefD := ⟨("check_part", none), "check_part", "check_part", defArgs s_check_part, defBody s_check_part, defScope s_check_part, [], []⟩
def d_turned : He.DefD := ⟨("turned", none), "turned", "turned", defArgs s_turned, defBody s_turned, defScope s_turned, [], []⟩
def d_asked : He.DefD := ⟨("asked", none), "asked", "asked", defArgs s_asked, defBody s_asked, defScope s_asked, [], []⟩
def d_waned : He.DefD := ⟨("waned", none), "waned", "waned", defArgs s_waned, defBody s_waned, defScope s_waned, [], []⟩
def d_lifted : He.DefD := ⟨("lifted", none), "lifted", "lifted", defArgs s_lifted, defBody s_lifted, defScope s_lifted, [], []⟩
def d_need_asked : He.DefD := ⟨("need_asked", none), "need_asked", "need_asked", defArgs s_need_asked, defBody s_need_asked, defScope s_need_asked, [], []⟩
def d_led : He.DefD := ⟨("led", none), "led", "led", defArgs s_led, defBody s_led, defScope s_led, [], []⟩
def d_alike : He.DefD := ⟨("alike", none), "alike", "alike", defArgs s_alike, defBody s_alike, defScope s_alike, [], [("most", (.int 200))]⟩
def d__law_bag : He.DefD := ⟨("_law_bag", none), "_law_bag", "_law_bag", defArgs s__law_bag, defBody s__law_bag, defScope s__law_bag, [], []⟩
def d__law_take : He.DefD := ⟨("_law_take", none), "_law_take", "_law_take", defArgs s__law_take, defBody s__law_take, defScope s__law_take, [], []⟩
def d__law_led : He.DefD := ⟨("_law_led", none), "_law_led", "_law_led", defArgs s__law_led, defBody s__law_led, defScope s__law_led, [], []⟩
def d__law_told : He.DefD := ⟨("_law_told", none), "_law_told", "_law_told", defArgs s__law_told, defBody s__law_told, defScope s__law_told, [], []⟩
def d__law_number : He.DefD := ⟨("_law_number", none), "_law_number", "_law_number", defArgs s__law_number, defBody s__law_number, defScope s__law_number, [], []⟩
def d__law_far_plan : He.DefD := ⟨("_law_far_plan", none), "_law_far_plan", "_law_far_plan", defArgs s__law_far_plan, defBody s__law_far_plan, defScope s__law_far_plan, [], []⟩
def d__law_far_two : He.DefD := ⟨("_law_far_two", none), "_law_far_two", "_law_far_two", defArgs s__law_far_two, defBody s__law_far_two, defScope s__law_far_two, [], []⟩
def d__law_all : He.DefD := ⟨("_law_all", none), "_law_all", "_law_all", defArgs s__law_all, defBody s__law_all, defScope s__law_all, [], []⟩
def d__law_due : He.DefD := ⟨("_law_due", none), "_law_due", "_law_due", defArgs s__law_due, defBody s__law_due, defScope s__law_due, [], []⟩
def d__law_many_pairs : He.DefD := ⟨("_law_many_pairs", none), "_law_many_pairs", "_law_many_pairs", defArgs s__law_many_pairs, defBody s__law_many_pairs, defScope s__law_many_pairs, [], []⟩
def d__law_many_right : He.DefD := ⟨("_law_many_right", none), "_law_many_right", "_law_many_right", defArgs s__law_many_right, defBody s__law_many_right, defScope s__law_many_right, [], []⟩
def d__law_shared_right : He.DefD := ⟨("_law_shared_right", none), "_law_shared_right", "_law_shared_right", defArgs s__law_shared_right, defBody s__law_shared_right, defScope s__law_shared_right, [], []⟩
def d__law_steps : He.DefD := ⟨("_law_steps", none), "_law_steps", "_law_steps", defArgs s__law_steps, defBody s__law_steps, defScope s__law_steps, [], []⟩
def d__law_plan : He.DefD := ⟨("_law_plan", none), "_law_plan", "_law_plan", defArgs s__law_plan, defBody s__law_plan, defScope s__law_plan, [], []⟩
def d__law_made : He.DefD := ⟨("_law_made", none), "_law_made", "_law_made", defArgs s__law_made, defBody s__law_made, defScope s__law_made, [], []⟩
def d__law_phase : He.DefD := ⟨("_law_phase", none), "_law_phase", "_law_phase", defArgs s__law_phase, defBody s__law_phase, defScope s__law_phase, [], []⟩
def d__law_waned : He.DefD := ⟨("_law_waned", none), "_law_waned", "_law_waned", defArgs s__law_waned, defBody s__law_waned, defScope s__law_waned, [], []⟩
def d__law_two : He.DefD := ⟨("_law_two", none), "_law_two", "_law_two", defArgs s__law_two, defBody s__law_two, defScope s__law_two, [], []⟩
def d__law_long : He.DefD := ⟨("_law_long", none), "_law_long", "_law_long", defArgs s__law_long, defBody s__law_long, defScope s__law_long, [], []⟩
def d_law : He.DefD := ⟨("law", none), "law", "law", defArgs s_law, defBody s_law, defScope s_law, [], []⟩
def fnL : List He.DefD := [d_TooMany___init__, d_is_whole, d_is_within, d_is_strength, d_is_size, d_is_moment, d_is_step, d_is_head, d_is_tail, d_Wane___init__, d_Wane_cap, d_Wane_lift, d_Wane_is_anew, d_Wane_coming, d_Wane_phase_of, d_Wane_phase, d_check_part, d_turned, d_asked, d_waned, d_lifted, d_need_asked, d_led, d_alike, d__law_bag, d__law_take, d__law_led, d__law_told, d__law_number, d__law_far_plan, d__law_far_two, d__law_all, d__law_due, d__law_many_pairs, d__law_many_right, d__law_shared_right, d__law_steps, d__law_plan, d__law_made, d__law_phase, d__law_waned, d__law_two, d__law_long, d_law]
def faL : List He.Fa := [.free "abs", .free "all", .free "bool", .free "int", .free "isinstance", .free "len", .free "list", .free "max", .free "min", .free "range", .free "repr", .free "tuple", .glo "is_whole", .glo "is_within", .glo "is_strength", .glo "is_size", .glo "is_moment", .glo "is_step", .glo "is_head", .glo "is_tail", .glo "check_part", .glo "turned", .glo "asked", .glo "waned", .glo "lifted", .glo "need_asked", .glo "led", .glo "alike", .glo "_law_bag", .glo "_law_take", .glo "_law_led", .glo "_law_told", .glo "_law_number", .glo "_law_far_plan", .glo "_law_far_two", .glo "_law_all", .glo "_law_due", .glo "_law_many_pairs", .glo "_law_many_right", .glo "_law_shared_right", .glo "_law_steps", .glo "_law_plan", .glo "_law_made", .glo "_law_phase", .glo "_law_waned", .glo "_law_two", .glo "_law_long", .glo "law", .glo "WaneError", .glo "TooMany", .glo "Wane", .int "MOST_STRENGTH" 1000000000, .int "MOST_MOMENT" 1000000000000000000000000000000, .int "LONGEST_HEAD" 24, .glo "TAILS", .int "MOST_PAIRS" 400, .str "SIGNS" ".a", .cls "Wane", .noat "Wane" "begins", .noat "Wane" "cap_at", .noat "Wane" "head_steps", .noat "Wane" "lift_by", .noat "Wane" "tail_steps", .meth "Wane" "cap", .meth "Wane" "lift", .meth "Wane" "is_anew", .meth "Wane" "coming", .meth "Wane" "phase_of", .meth "Wane" "phase", .mkr "Wane", .noat "TooMany" "most"]
def exL : List (PySem.W.Frag → Bool) := [kitAll, fun K => He.tupB K "TAILS" [.int 1, .int 2, .int 3, .int 4, .int 6, .int 8, .int 12, .int 24], fun K => L2.xfB K (He.ga K "TooMany") && decide (PySem.W.findIn K (.ref (He.ga K "TooMany")) "most" = some none), fun K => EX.oexB K (He.ga K "TooMany"), fun K => decide (PySem.W.findIn K (.ref (He.ga K "TooMany")) "__init__" = some (some (.ref (He.ma K (He.ga K "TooMany") "__init__")))) && (decide (PySem.W.typeIn K (.ref (He.ma K (He.ga K "TooMany") "__init__")) = some (.type "function")) && decide (PySem.W.exmOne K (.ref (He.ga K "TooMany")) (.ref (He.ga K "TooMany")) = some true)), fun K => EX.binB K (He.ga K "WaneError")]
structure Txt (K : PySem.W.Frag) (mg : Str → Option Value) : Prop where
  fn : ∀ (i : Nat) (d : He.DefD), fnL[i]? = some d → ∃ fd, FunD K d.name d.qual d.params d.body d.scope (d.dvs K) (d.kws K) (He.fAd K d.at_) fd
  fa : ∀ (i : Nat) {f : He.Fa}, faL[i]? = some f → f.ok K = true
  hp : ∃ h : Heap, K.In h ∧ h.Ns mainGlobals mg
  ex : ∀ (i : Nat) {f : PySem.W.Frag → Bool}, exL[i]? = some f → f K = true
section
variable {K : PySem.W.Frag} {mg : Str → Option Value}
theorem Txt.b_abs (T : Txt K mg) : mg "abs" = none := let ⟨_, X, G⟩ := T.hp; He.free_ok X G (T.fa 0 rfl)
theorem Txt.b_all (T : Txt K mg) : mg "all" = none := let ⟨_, X, G⟩ := T.hp; He.free_ok X G (T.fa 1 rfl)
theorem Txt.b_bool (T : Txt K mg) : mg "bool" = none := let ⟨_, X, G⟩ := T.hp; He.free_ok X G (T.fa 2 rfl)
theorem Txt.b_int (T : Txt K mg) : mg "int" = none := let ⟨_, X, G⟩ := T.hp; He.free_ok X G (T.fa 3 rfl)
theorem Txt.b_isinstance (T : Txt K mg) : mg "isinstance" = none := let ⟨_, X, G⟩ := T.hp; He.free_ok X G (T.fa 4 rfl)
theorem Txt.b_len (T : Txt K mg) : mg "len" = none := let ⟨_, X, G⟩ := T.hp; He.free_ok X G (T.fa 5 rfl)
theorem Txt.b_list (T : Txt K mg) : mg "list" = none := let ⟨_, X, G⟩ := T.hp; He.free_ok X G (T.fa 6 rfl)
theorem Txt.b_max (T : Txt K mg) : mg "max" = none := let ⟨_, X, G⟩ := T.hp; He.free_ok X G (T.fa 7 rfl)
theorem Txt.b_min (T : Txt K mg) : mg "min" = none := let ⟨_, X, G⟩ := T.hp; He.free_ok X G (T.fa 8 rfl)
theorem Txt.b_range (T : Txt K mg) : mg "range" = none := let ⟨_, X, G⟩ := T.hp; He.free_ok X G (T.fa 9 rfl)
theorem Txt.b_repr (T : Txt K mg) : mg "repr" = none := let ⟨_, X, G⟩ := T.hp; He.free_ok X G (T.fa 10 rfl)
theorem Txt.b_tuple (T : Txt K mg) : mg "tuple" = none := let ⟨_, X, G⟩ := T.hp; He.free_ok X G (T.fa 11 rfl)
theorem Txt.g_is_whole (T : Txt K mg) : mg "is_whole" = some (.ref (He.ga K "is_whole")) := let ⟨_, X, G⟩ := T.hp; He.glo_ok X G (T.fa 12 rfl)
theorem Txt.g_is_within (T : Txt K mg) : mg "is_within" = some (.ref (He.ga K "is_within")) := let ⟨_, X, G⟩ := T.hp; He.glo_ok X G (T.fa 13 rfl)
theorem Txt.g_is_strength (T : Txt K mg) : mg "is_strength" = some (.ref (He.ga K "is_strength")) := let ⟨_, X, G⟩ := T.hp; He.glo_ok X G (T.fa 14 rfl)
theorem Txt.g_is_size (T : Txt K mg) : mg "is_size" = some (.ref (He.ga K "is_size")) := let ⟨_, X, G⟩ := T.hp; He.glo_ok X G (T.fa 15 rfl)
theorem Txt.g_is_moment (T : Txt K mg) : mg "is_moment" = some (.ref (He.ga K "is_moment")) := let ⟨_, X, G⟩ := T.hp; He.glo_ok X G (T.fa 16 rfl)
theorem Txt.g_is_step (T : Txt K mg) : mg "is_step" = some (.ref (He.ga K "is_step")) := let ⟨_, X, G⟩ := T.hp; He.glo_ok X G (T.fa 17 rfl)
theorem Txt.g_is_head (T : Txt K mg) : mg "is_head" = some (.ref (He.ga K "is_head")) := let ⟨_, X, G⟩ := T.hp; He.glo_ok X G (T.fa 18 rfl)
theorem Txt.g_is_tail (T : Txt K mg) : mg "is_tail" = some (.ref (He.ga K "is_tail")) := let ⟨_, X, G⟩ := T.hp; He.glo_ok X G (T.fa 19 rfl)
theorem Txt.g_check_part (T : Txt K mg) : mg "check_part" = some (.ref (He.ga K "check_part")) := let ⟨_, X, G⟩ := T.hp; He.glo_ok X G (T.fa 20 rfl)
theorem Txt.g_turned (T : Txt K mg) : mg "turned" = some (.ref (He.ga K "turned")) := let ⟨_, X, G⟩ := T.hp; He.glo_ok X G (T.fa 21 rfl)
theorem Txt.g_asked (T : Txt K mg) : mg "asked" = some (.ref (He.ga K "asked")) := let ⟨_, X, G⟩ := T.hp; He.glo_ok X G (T.fa 22 rfl)
theorem Txt.g_waned (T : Txt K mg) : mg "waned" = some (.ref (He.ga K "waned")) := let ⟨_, X, G⟩ := T.hp; He.glo_ok X G (T.fa 23 rfl)
theorem Txt.g_lifted (T : Txt K mg) : mg "lifted" = some (.ref (He.ga K "lifted")) := let ⟨_, X, G⟩ := T.hp; He.glo_ok X G (T.fa 24 rfl)
theorem Txt.g_need_asked (T : Txt K mg) : mg "need_asked" = some (.ref (He.ga K "need_asked")) := let ⟨_, X, G⟩ := T.hp; He.glo_ok X G (T.fa 25 rfl)
theorem Txt.g_led (T : Txt K mg) : mg "led" = some (.ref (He.ga K "led")) := let ⟨_, X, G⟩ := T.hp; He.glo_ok X G (T.fa 26 rfl)
theorem Txt.g_alike (T : Txt K mg) : mg "alike" = some (.ref (He.ga K "alike")) := let ⟨_, X, G⟩ := T.hp; He.glo_ok X G (T.fa 27 rfl)
theorem Txt.g__law_bag (T : Txt K mg) : mg "_law_bag" = some (.ref (He.ga K "_law_bag")) := let ⟨_, X, G⟩ := T.hp; He.glo_ok X G (T.fa 28 rfl)
theorem Txt.g__law_take (T : Txt K mg) : mg "_law_take" = some (.ref (He.ga K "_law_take")) := let ⟨_, X, G⟩ := T.hp; He.glo_ok X G (T.fa 29 rfl)
theorem Txt.g__law_led (T : Txt K mg) : mg "_law_led" = some (.ref (He.ga K "_law_led")) := let ⟨_, X, G⟩ := T.hp; He.glo_ok X G (T.fa 30 rfl)
theorem Txt.g__law_told (T : Txt K mg) : mg "_law_told" = some (.ref (He.ga K "_law_told")) := let ⟨_, X, G⟩ := T.hp; He.glo_ok X G (T.fa 31 rfl)
theorem Txt.g__law_number (T : Txt K mg) : mg "_law_number" = some (.ref (He.ga K "_law_number")) := let ⟨_, X, G⟩ := T.hp; He.glo_ok X G (T.fa 32 rfl)
theorem Txt.g__law_far_plan (T : Txt K mg) : mg "_law_far_plan" = some (.ref (He.ga K "_law_far_plan")) := let ⟨_, X, G⟩ := T.hp; He.glo_ok X G (T.fa 33 rfl)
theorem Txt.g__law_far_two (T : Txt K mg) : mg "_law_far_two" = some (.ref (He.ga K "_law_far_two")) := let ⟨_, X, G⟩ := T.hp; He.glo_ok X G (T.fa 34 rfl)
theorem Txt.g__law_all (T : Txt K mg) : mg "_law_all" = some (.ref (He.ga K "_law_all")) := let ⟨_, X, G⟩ := T.hp; He.glo_ok X G (T.fa 35 rfl)
theorem Txt.g__law_due (T : Txt K mg) : mg "_law_due" = some (.ref (He.ga K "_law_due")) := let ⟨_, X, G⟩ := T.hp; He.glo_ok X G (T.fa 36 rfl)
theorem Txt.g__law_many_pairs (T : Txt K mg) : mg "_law_many_pairs" = some (.ref (He.ga K "_law_many_pairs")) := let ⟨_, X, G⟩ := T.hp; He.glo_ok X G (T.fa 37 rfl)
theorem Txt.g__law_many_right (T : Txt K mg) : mg "_law_many_right" = some (.ref (He.ga K "_law_many_right")) := let ⟨_, X, G⟩ := T.hp; He.glo_ok X G (T.fa 38 rfl)
theorem Txt.g__law_shared_right (T : Txt K mg) : mg "_law_shared_right" = some (.ref (He.ga K "_law_shared_right")) := let ⟨_, X, G⟩ := T.hp; He.glo_ok X G (T.fa 39 rfl)
theorem Txt.g__law_steps (T : Txt K mg) : mg "_law_steps" = some (.ref (He.ga K "_law_steps")) := let ⟨_, X, G⟩ := T.hp; He.glo_ok X G (T.fa 40 rfl)
theorem Txt.g__law_plan (T : Txt K mg) : mg "_law_plan" = some (.ref (He.ga K "_law_plan")) := let ⟨_, X, G⟩ := T.hp; He.glo_ok X G (T.fa 41 rfl)
theorem Txt.g__law_made (T : Txt K mg) : mg "_law_made" = some (.ref (He.ga K "_law_made")) := let ⟨_, X, G⟩ := T.hp; He.glo_ok X G (T.fa 42 rfl)
theorem Txt.g__law_phase (T : Txt K mg) : mg "_law_phase" = some (.ref (He.ga K "_law_phase")) := let ⟨_, X, G⟩ := T.hp; He.glo_ok X G (T.fa 43 rfl)
theorem Txt.g__law_waned (T : Txt K mg) : mg "_law_waned" = some (.ref (He.ga K "_law_waned")) := let ⟨_, X, G⟩ := T.hp; He.glo_ok X G (T.fa 44 rfl)
theorem Txt.g__law_two (T : Txt K mg) : mg "_law_two" = some (.ref (He.ga K "_law_two")) := let ⟨_, X, G⟩ := T.hp; He.glo_ok X G (T.fa 45 rfl)
theorem Txt.g__law_long (T : Txt K mg) : mg "_law_long" = some (.ref (He.ga K "_law_long")) := let ⟨_, X, G⟩ := T.hp; He.glo_ok X G (T.fa 46 rfl)
theorem Txt.g_law (T : Txt K mg) : mg "law" = some (.ref (He.ga K "law")) := let ⟨_, X, G⟩ := T.hp; He.glo_ok X G (T.fa 47 rfl)
theorem Txt.g_WaneError (T : Txt K mg) : mg "WaneError" = some (.ref (He.ga K "WaneError")) := let ⟨_, X, G⟩ := T.hp; He.glo_ok X G (T.fa 48 rfl)
theorem Txt.g_TooMany (T : Txt K mg) : mg "TooMany" = some (.ref (He.ga K "TooMany")) := let ⟨_, X, G⟩ := T.hp; He.glo_ok X G (T.fa 49 rfl)
theorem Txt.g_Wane (T : Txt K mg) : mg "Wane" = some (.ref (He.ga K "Wane")) := let ⟨_, X, G⟩ := T.hp; He.glo_ok X G (T.fa 50 rfl)
theorem Txt.c_MOST_STRENGTH (T : Txt K mg) : ∃ u, mg "MOST_STRENGTH" = some u ∧ RelV (.int 1000000000) u := let ⟨_, X, G⟩ := T.hp; let ⟨t, e⟩ := He.int_ok X G (T.fa 51 rfl); ⟨_, e, t, rfl⟩
theorem Txt.c_MOST_MOMENT (T : Txt K mg) : ∃ u, mg "MOST_MOMENT" = some u ∧ RelV (.int 1000000000000000000000000000000) u := let ⟨_, X, G⟩ := T.hp; let ⟨t, e⟩ := He.int_ok X G (T.fa 52 rfl); ⟨_, e, t, rfl⟩
theorem Txt.c_LONGEST_HEAD (T : Txt K mg) : ∃ u, mg "LONGEST_HEAD" = some u ∧ RelV (.int 24) u := let ⟨_, X, G⟩ := T.hp; let ⟨t, e⟩ := He.int_ok X G (T.fa 53 rfl); ⟨_, e, t, rfl⟩
theorem Txt.c_TAILS (T : Txt K mg) : ∃ u, mg "TAILS" = some u ∧ RelV (.ref (He.ga K "TAILS")) u := let ⟨_, X, G⟩ := T.hp; ⟨_, He.glo_ok X G (T.fa 54 rfl), rfl⟩
theorem Txt.c_MOST_PAIRS (T : Txt K mg) : ∃ u, mg "MOST_PAIRS" = some u ∧ RelV (.int 400) u := let ⟨_, X, G⟩ := T.hp; let ⟨t, e⟩ := He.int_ok X G (T.fa 55 rfl); ⟨_, e, t, rfl⟩
theorem Txt.c_SIGNS (T : Txt K mg) : ∃ u, mg "SIGNS" = some u ∧ RelV (.str ".a") u := let ⟨_, X, G⟩ := T.hp; let ⟨t, e⟩ := He.str_ok X G (T.fa 56 rfl); ⟨_, e, t, rfl⟩
theorem Txt.cl_Wane (T : Txt K mg) : Cls K (He.ga K "Wane") := He.cls_ok (T.fa 57 rfl)
theorem Txt.n_Wane_begins (T : Txt K mg) : NoAttr K (He.ga K "Wane") "begins" := He.noat_ok (T.fa 58 rfl)
theorem Txt.n_Wane_cap_at (T : Txt K mg) : NoAttr K (He.ga K "Wane") "cap_at" := He.noat_ok (T.fa 59 rfl)
theorem Txt.n_Wane_head_steps (T : Txt K mg) : NoAttr K (He.ga K "Wane") "head_steps" := He.noat_ok (T.fa 60 rfl)
theorem Txt.n_Wane_lift_by (T : Txt K mg) : NoAttr K (He.ga K "Wane") "lift_by" := He.noat_ok (T.fa 61 rfl)
theorem Txt.n_Wane_tail_steps (T : Txt K mg) : NoAttr K (He.ga K "Wane") "tail_steps" := He.noat_ok (T.fa 62 rfl)
theorem Txt.m_Wane_cap (T : Txt K mg) : Meth K (He.ga K "Wane") "cap" (He.ma K (He.ga K "Wane") "cap") := He.meth_ok (T.fa 63 rfl)
theorem Txt.m_Wane_lift (T : Txt K mg) : Meth K (He.ga K "Wane") "lift" (He.ma K (He.ga K "Wane") "lift") := He.meth_ok (T.fa 64 rfl)
theorem Txt.m_Wane_is_anew (T : Txt K mg) : Meth K (He.ga K "Wane") "is_anew" (He.ma K (He.ga K "Wane") "is_anew") := He.meth_ok (T.fa 65 rfl)
theorem Txt.m_Wane_coming (T : Txt K mg) : Meth K (He.ga K "Wane") "coming" (He.ma K (He.ga K "Wane") "coming") := He.meth_ok (T.fa 66 rfl)
theorem Txt.m_Wane_phase_of (T : Txt K mg) : Meth K (He.ga K "Wane") "phase_of" (He.ma K (He.ga K "Wane") "phase_of") := He.meth_ok (T.fa 67 rfl)
theorem Txt.m_Wane_phase (T : Txt K mg) : Meth K (He.ga K "Wane") "phase" (He.ma K (He.ga K "Wane") "phase") := He.meth_ok (T.fa 68 rfl)
theorem Txt.mk_Wane (T : Txt K mg) : Mk K (He.ga K "Wane") (He.ma K (He.ga K "Wane") "__init__") := He.mkr_ok (T.fa 69 rfl)
theorem Txt.xf_TooMany (T : Txt K mg) : L2.XfC K (He.ga K "TooMany") := L2.xfB_ok (Bool.and_eq_true_iff.mp (T.ex 2 (f := fun K => L2.xfB K (He.ga K "TooMany") && decide (PySem.W.findIn K (.ref (He.ga K "TooMany")) "most" = some none)) rfl)).1
theorem Txt.xn_TooMany (T : Txt K mg) : PySem.W.findIn K (.ref (He.ga K "TooMany")) "most" = some none := of_decide_eq_true (Bool.and_eq_true_iff.mp (T.ex 2 (f := fun K => L2.xfB K (He.ga K "TooMany") && decide (PySem.W.findIn K (.ref (He.ga K "TooMany")) "most" = some none)) rfl)).2
theorem Txt.x_TooMany (T : Txt K mg) : OexC K (He.ga K "TooMany") := EX.oex_of (T.ex 3 rfl)
theorem Txt.xi_TooMany (T : Txt K mg) : PySem.W.findIn K (.ref (He.ga K "TooMany")) "__init__" = some (some (.ref (He.ma K (He.ga K "TooMany") "__init__"))) ∧ PySem.W.typeIn K (.ref (He.ma K (He.ga K "TooMany") "__init__")) = some (.type "function") ∧ PySem.W.exmOne K (.ref (He.ga K "TooMany")) (.ref (He.ga K "TooMany")) = some true := by
  have e := T.ex 4 (f := fun K => decide (PySem.W.findIn K (.ref (He.ga K "TooMany")) "__init__" = some (some (.ref (He.ma K (He.ga K "TooMany") "__init__")))) && (decide (PySem.W.typeIn K (.ref (He.ma K (He.ga K "TooMany") "__init__")) = some (.type "function")) && decide (PySem.W.exmOne K (.ref (He.ga K "TooMany")) (.ref (He.ga K "TooMany")) = some true))) rfl
  simp only [Bool.and_eq_true, decide_eq_true_eq] at e
  exact e
theorem Txt.n_TooMany_most (T : Txt K mg) : NoAttr K (He.ga K "TooMany") "most" := He.noat_ok (T.fa 70 rfl)
theorem Txt.bin (T : Txt K mg) : EX.binB K (He.ga K "WaneError") = true := T.ex 5 (f := fun K => EX.binB K (He.ga K "WaneError")) rfl
theorem Txt.f_TooMany___init__ (T : Txt K mg) : ∃ fd, FunD K d_TooMany___init__.name d_TooMany___init__.qual d_TooMany___init__.params d_TooMany___init__.body d_TooMany___init__.scope (d_TooMany___init__.dvs K) (d_TooMany___init__.kws K) (He.fAd K d_TooMany___init__.at_) fd := T.fn 0 d_TooMany___init__ rfl
theorem Txt.f_is_whole (T : Txt K mg) : ∃ fd, FunD K d_is_whole.name d_is_whole.qual d_is_whole.params d_is_whole.body d_is_whole.scope (d_is_whole.dvs K) (d_is_whole.kws K) (He.fAd K d_is_whole.at_) fd := T.fn 1 d_is_whole rfl
theorem Txt.f_is_within (T : Txt K mg) : ∃ fd, FunD K d_is_within.name d_is_within.qual d_is_within.params d_is_within.body d_is_within.scope (d_is_within.dvs K) (d_is_within.kws K) (He.fAd K d_is_within.at_) fd := T.fn 2 d_is_within rfl
theorem Txt.f_is_strength (T : Txt K mg) : ∃ fd, FunD K d_is_strength.name d_is_strength.qual d_is_strength.params d_is_strength.body d_is_strength.scope (d_is_strength.dvs K) (d_is_strength.kws K) (He.fAd K d_is_strength.at_) fd := T.fn 3 d_is_strength rfl
theorem Txt.f_is_size (T : Txt K mg) : ∃ fd, FunD K d_is_size.name d_is_size.qual d_is_size.params d_is_size.body d_is_size.scope (d_is_size.dvs K) (d_is_size.kws K) (He.fAd K d_is_size.at_) fd := T.fn 4 d_is_size rfl
theorem Txt.f_is_moment (T : Txt K mg) : ∃ fd, FunD K d_is_moment.name d_is_moment.qual d_is_moment.params d_is_moment.body d_is_moment.scope (d_is_moment.dvs K) (d_is_moment.kws K) (He.fAd K d_is_moment.at_) fd := T.fn 5 d_is_moment rfl
theorem Txt.f_is_step (T : Txt K mg) : ∃ fd, FunD K d_is_step.name d_is_step.qual d_is_step.params d_is_step.body d_is_step.scope (d_is_step.dvs K) (d_is_step.kws K) (He.fAd K d_is_step.at_) fd := T.fn 6 d_is_step rfl
theorem Txt.f_is_head (T : Txt K mg) : ∃ fd, FunD K d_is_head.name d_is_head.qual d_is_head.params d_is_head.body d_is_head.scope (d_is_head.dvs K) (d_is_head.kws K) (He.fAd K d_is_head.at_) fd := T.fn 7 d_is_head rfl
theorem Txt.f_is_tail (T : Txt K mg) : ∃ fd, FunD K d_is_tail.name d_is_tail.qual d_is_tail.params d_is_tail.body d_is_tail.scope (d_is_tail.dvs K) (d_is_tail.kws K) (He.fAd K d_is_tail.at_) fd := T.fn 8 d_is_tail rfl
theorem Txt.f_Wane___init__ (T : Txt K mg) : ∃ fd, FunD K d_Wane___init__.name d_Wane___init__.qual d_Wane___init__.params d_Wane___init__.body d_Wane___init__.scope (d_Wane___init__.dvs K) (d_Wane___init__.kws K) (He.fAd K d_Wane___init__.at_) fd := T.fn 9 d_Wane___init__ rfl
theorem Txt.f_Wane_cap (T : Txt K mg) : ∃ fd, FunD K d_Wane_cap.name d_Wane_cap.qual d_Wane_cap.params d_Wane_cap.body d_Wane_cap.scope (d_Wane_cap.dvs K) (d_Wane_cap.kws K) (He.fAd K d_Wane_cap.at_) fd := T.fn 10 d_Wane_cap rfl
theorem Txt.f_Wane_lift (T : Txt K mg) : ∃ fd, FunD K d_Wane_lift.name d_Wane_lift.qual d_Wane_lift.params d_Wane_lift.body d_Wane_lift.scope (d_Wane_lift.dvs K) (d_Wane_lift.kws K) (He.fAd K d_Wane_lift.at_) fd := T.fn 11 d_Wane_lift rfl
theorem Txt.f_Wane_is_anew (T : Txt K mg) : ∃ fd, FunD K d_Wane_is_anew.name d_Wane_is_anew.qual d_Wane_is_anew.params d_Wane_is_anew.body d_Wane_is_anew.scope (d_Wane_is_anew.dvs K) (d_Wane_is_anew.kws K) (He.fAd K d_Wane_is_anew.at_) fd := T.fn 12 d_Wane_is_anew rfl
theorem Txt.f_Wane_coming (T : Txt K mg) : ∃ fd, FunD K d_Wane_coming.name d_Wane_coming.qual d_Wane_coming.params d_Wane_coming.body d_Wane_coming.scope (d_Wane_coming.dvs K) (d_Wane_coming.kws K) (He.fAd K d_Wane_coming.at_) fd := T.fn 13 d_Wane_coming rfl
theorem Txt.f_Wane_phase_of (T : Txt K mg) : ∃ fd, FunD K d_Wane_phase_of.name d_Wane_phase_of.qual d_Wane_phase_of.params d_Wane_phase_of.body d_Wane_phase_of.scope (d_Wane_phase_of.dvs K) (d_Wane_phase_of.kws K) (He.fAd K d_Wane_phase_of.at_) fd := T.fn 14 d_Wane_phase_of rfl
theorem Txt.f_Wane_phase (T : Txt K mg) : ∃ fd, FunD K d_Wane_phase.name d_Wane_phase.qual d_Wane_phase.params d_Wane_phase.body d_Wane_phase.scope (d_Wane_phase.dvs K) (d_Wane_phase.kws K) (He.fAd K d_Wane_phase.at_) fd := T.fn 15 d_Wane_phase rfl
theorem Txt.f_check_part (T : Txt K mg) : ∃ fd, FunD K d_check_part.name d_check_part.qual d_check_part.params d_check_part.body d_check_part.scope (d_check_part.dvs K) (d_check_part.kws K) (He.fAd K d_check_part.at_) fd := T.fn 16 d_check_part rfl
theorem Txt.f_turned (T : Txt K mg) : ∃ fd, FunD K d_turned.name d_turned.qual d_turned.params d_turned.body d_turned.scope (d_turned.dvs K) (d_turned.kws K) (He.fAd K d_turned.at_) fd := T.fn 17 d_turned rfl
theorem Txt.f_asked (T : Txt K mg) : ∃ fd, FunD K d_asked.name d_asked.qual d_asked.params d_asked.body d_asked.scope (d_asked.dvs K) (d_asked.kws K) (He.fAd K d_asked.at_) fd := T.fn 18 d_asked rfl
theorem Txt.f_waned (T : Txt K mg) : ∃ fd, FunD K d_waned.name d_waned.qual d_waned.params d_waned.body d_waned.scope (d_waned.dvs K) (d_waned.kws K) (He.fAd K d_waned.at_) fd := T.fn 19 d_waned rfl
theorem Txt.f_lifted (T : Txt K mg) : ∃ fd, FunD K d_lifted.name d_lifted.qual d_lifted.params d_lifted.body d_lifted.scope (d_lifted.dvs K) (d_lifted.kws K) (He.fAd K d_lifted.at_) fd := T.fn 20 d_lifted rfl
theorem Txt.f_need_asked (T : Txt K mg) : ∃ fd, FunD K d_need_asked.name d_need_asked.qual d_need_asked.params d_need_asked.body d_need_asked.scope (d_need_asked.dvs K) (d_need_asked.kws K) (He.fAd K d_need_asked.at_) fd := T.fn 21 d_need_asked rfl
theorem Txt.f_led (T : Txt K mg) : ∃ fd, FunD K d_led.name d_led.qual d_led.params d_led.body d_led.scope (d_led.dvs K) (d_led.kws K) (He.fAd K d_led.at_) fd := T.fn 22 d_led rfl
theorem Txt.f_alike (T : Txt K mg) : ∃ fd, FunD K d_alike.name d_alike.qual d_alike.params d_alike.body d_alike.scope (d_alike.dvs K) (d_alike.kws K) (He.fAd K d_alike.at_) fd := T.fn 23 d_alike rfl
theorem Txt.f__law_bag (T : Txt K mg) : ∃ fd, FunD K d__law_bag.name d__law_bag.qual d__law_bag.params d__law_bag.body d__law_bag.scope (d__law_bag.dvs K) (d__law_bag.kws K) (He.fAd K d__law_bag.at_) fd := T.fn 24 d__law_bag rfl
theorem Txt.f__law_take (T : Txt K mg) : ∃ fd, FunD K d__law_take.name d__law_take.qual d__law_take.params d__law_take.body d__law_take.scope (d__law_take.dvs K) (d__law_take.kws K) (He.fAd K d__law_take.at_) fd := T.fn 25 d__law_take rfl
theorem Txt.f__law_led (T : Txt K mg) : ∃ fd, FunD K d__law_led.name d__law_led.qual d__law_led.params d__law_led.body d__law_led.scope (d__law_led.dvs K) (d__law_led.kws K) (He.fAd K d__law_led.at_) fd := T.fn 26 d__law_led rfl
theorem Txt.f__law_told (T : Txt K mg) : ∃ fd, FunD K d__law_told.name d__law_told.qual d__law_told.params d__law_told.body d__law_told.scope (d__law_told.dvs K) (d__law_told.kws K) (He.fAd K d__law_told.at_) fd := T.fn 27 d__law_told rfl
theorem Txt.f__law_number (T : Txt K mg) : ∃ fd, FunD K d__law_number.name d__law_number.qual d__law_number.params d__law_number.body d__law_number.scope (d__law_number.dvs K) (d__law_number.kws K) (He.fAd K d__law_number.at_) fd := T.fn 28 d__law_number rfl
theorem Txt.f__law_far_plan (T : Txt K mg) : ∃ fd, FunD K d__law_far_plan.name d__law_far_plan.qual d__law_far_plan.params d__law_far_plan.body d__law_far_plan.scope (d__law_far_plan.dvs K) (d__law_far_plan.kws K) (He.fAd K d__law_far_plan.at_) fd := T.fn 29 d__law_far_plan rfl
theorem Txt.f__law_far_two (T : Txt K mg) : ∃ fd, FunD K d__law_far_two.name d__law_far_two.qual d__law_far_two.params d__law_far_two.body d__law_far_two.scope (d__law_far_two.dvs K) (d__law_far_two.kws K) (He.fAd K d__law_far_two.at_) fd := T.fn 30 d__law_far_two rfl
theorem Txt.f__law_all (T : Txt K mg) : ∃ fd, FunD K d__law_all.name d__law_all.qual d__law_all.params d__law_all.body d__law_all.scope (d__law_all.dvs K) (d__law_all.kws K) (He.fAd K d__law_all.at_) fd := T.fn 31 d__law_all rfl
theorem Txt.f__law_due (T : Txt K mg) : ∃ fd, FunD K d__law_due.name d__law_due.qual d__law_due.params d__law_due.body d__law_due.scope (d__law_due.dvs K) (d__law_due.kws K) (He.fAd K d__law_due.at_) fd := T.fn 32 d__law_due rfl
theorem Txt.f__law_many_pairs (T : Txt K mg) : ∃ fd, FunD K d__law_many_pairs.name d__law_many_pairs.qual d__law_many_pairs.params d__law_many_pairs.body d__law_many_pairs.scope (d__law_many_pairs.dvs K) (d__law_many_pairs.kws K) (He.fAd K d__law_many_pairs.at_) fd := T.fn 33 d__law_many_pairs rfl
theorem Txt.f__law_many_right (T : Txt K mg) : ∃ fd, FunD K d__law_many_right.name d__law_many_right.qual d__law_many_right.params d__law_many_right.body d__law_many_right.scope (d__law_many_right.dvs K) (d__law_many_right.kws K) (He.fAd K d__law_many_right.at_) fd := T.fn 34 d__law_many_right rfl
theorem Txt.f__law_shared_right (T : Txt K mg) : ∃ fd, FunD K d__law_shared_right.name d__law_shared_right.qual d__law_shared_right.params d__law_shared_right.body d__law_shared_right.scope (d__law_shared_right.dvs K) (d__law_shared_right.kws K) (He.fAd K d__law_shared_right.at_) fd := T.fn 35 d__law_shared_right rfl
theorem Txt.f__law_steps (T : Txt K mg) : ∃ fd, FunD K d__law_steps.name d__law_steps.qual d__law_steps.params d__law_steps.body d__law_steps.scope (d__law_steps.dvs K) (d__law_steps.kws K) (He.fAd K d__law_steps.at_) fd := T.fn 36 d__law_steps rfl
theorem Txt.f__law_plan (T : Txt K mg) : ∃ fd, FunD K d__law_plan.name d__law_plan.qual d__law_plan.params d__law_plan.body d__law_plan.scope (d__law_plan.dvs K) (d__law_plan.kws K) (He.fAd K d__law_plan.at_) fd := T.fn 37 d__law_plan rfl
theorem Txt.f__law_made (T : Txt K mg) : ∃ fd, FunD K d__law_made.name d__law_made.qual d__law_made.params d__law_made.body d__law_made.scope (d__law_made.dvs K) (d__law_made.kws K) (He.fAd K d__law_made.at_) fd := T.fn 38 d__law_made rfl
theorem Txt.f__law_phase (T : Txt K mg) : ∃ fd, FunD K d__law_phase.name d__law_phase.qual d__law_phase.params d__law_phase.body d__law_phase.scope (d__law_phase.dvs K) (d__law_phase.kws K) (He.fAd K d__law_phase.at_) fd := T.fn 39 d__law_phase rfl
theorem Txt.f__law_waned (T : Txt K mg) : ∃ fd, FunD K d__law_waned.name d__law_waned.qual d__law_waned.params d__law_waned.body d__law_waned.scope (d__law_waned.dvs K) (d__law_waned.kws K) (He.fAd K d__law_waned.at_) fd := T.fn 40 d__law_waned rfl
theorem Txt.f__law_two (T : Txt K mg) : ∃ fd, FunD K d__law_two.name d__law_two.qual d__law_two.params d__law_two.body d__law_two.scope (d__law_two.dvs K) (d__law_two.kws K) (He.fAd K d__law_two.at_) fd := T.fn 41 d__law_two rfl
theorem Txt.f__law_long (T : Txt K mg) : ∃ fd, FunD K d__law_long.name d__law_long.qual d__law_long.params d__law_long.body d__law_long.scope (d__law_long.dvs K) (d__law_long.kws K) (He.fAd K d__law_long.at_) fd := T.fn 42 d__law_long rfl
theorem Txt.f_law (T : Txt K mg) : ∃ fd, FunD K d_law.name d_law.qual d_law.params d_law.body d_law.scope (d_law.dvs K) (d_law.kws K) (He.fAd K d_law.at_) fd := T.fn 43 d_law rfl
end
end WH

set_option maxHeartbeats 4000000
namespace WH
open PySem PySem.Spec PyProof.Rows L2
/-! ### defs by their data -/
section
variable {P : Program} {w : World} {K : PySem.W.Frag} {mg : Str → Option Value} {base : Heap}
abbrev FD (K : PySem.W.Frag) (d : He.DefD) (fd : FuncData) : Prop := FunD K d.name d.qual d.params d.body d.scope (d.dvs K) (d.kws K) (He.fAd K d.at_) fd
theorem calD {d : He.DefD} {x : Str} {N ps : List Str} {k : Nat} {sp : Sp} (F : ∃ fd, FD K d fd) (hx : mg x = some (.ref (He.fAd K d.at_))) (S : FnScope N ps d.scope) (b : ∀ fd, FD K d fd → Binds K fd ps []) (len : ∀ vs H Q E, sp vs H Q E → vs.length = ps.length)
    (hbody : ∀ (cdv : Value) (A : Around) (outer : List Env) (s : Shared) (H : Hp) (vs : List V) (Q : VK) (E : XK), Room k (A.deeper (envOfC d.qual d.scope s.heap.objs.size (He.fAd K d.at_) cdv)) → sp vs H Q E →
      ∃ t, PSs (cxOf C8.CX0 P w K mg base N d.qual d.scope (He.fAd K d.at_) cdv A outer s H E).nox d.body t ∧ t { nx := fun _ H' => Q .non H', rt := Q } (start N vs) H) : C8.Cal P w K mg base (k + 1) x sp [] := by
  obtain ⟨fd, F⟩ := F
  exact ⟨_, fd, ps, [], F.ok S len fun cdv A outer s H vs Q E hr h => (let ⟨t, p, q⟩ := hbody cdv A outer s H vs Q E hr h; ⟨t, p.nox, q⟩), hx, F.kp, b fd F, .nil⟩
theorem metD {d : He.DefD} {m : Str} {C : Addr} {N ps : List Str} {k : Nat} {sp : Sp} (F : ∃ fd, FD K d fd) (c : Cls K C) (me : Meth K C m (He.fAd K d.at_)) (S : FnScope N ps d.scope) (b : ∀ fd, FD K d fd → Binds K fd ps []) (len : ∀ vs H Q E, sp vs H Q E → vs.length = ps.length)
    (hbody : ∀ (cdv : Value) (A : Around) (outer : List Env) (s : Shared) (H : Hp) (vs : List V) (Q : VK) (E : XK), Room k (A.deeper (envOfC d.qual d.scope s.heap.objs.size (He.fAd K d.at_) cdv)) → sp vs H Q E →
      ∃ t, PSs (cxOf C8.CX0 P w K mg base N d.qual d.scope (He.fAd K d.at_) cdv A outer s H E).nox d.body t ∧ t { nx := fun _ H' => Q .non H', rt := Q } (start N vs) H) : C8.Met P w K mg base (k + 1) C m sp [] := by
  obtain ⟨fd, F⟩ := F
  exact ⟨_, fd, ps, [], c, me, F.ok S len fun cdv A outer s H vs Q E hr h => (let ⟨t, p, q⟩ := hbody cdv A outer s H vs Q E hr h; ⟨t, p.nox, q⟩), b fd F, .nil⟩
/-! ### what is known of a value's type -/
def Knw (K : PySem.W.Frag) (H : Hp) (v : V) : Prop := ∃ t, TyX K H v t ∧ t ∈ tys K
theorem Txt.kit (T : Txt K mg) {t c : Value} (ht : t ∈ tys K) (hc : c ∈ cls K) : PySem.W.kitOne K t c = some (isk t c) := by
  have e := T.ex 0 (f := kitAll) rfl
  simp only [kitAll, Bool.and_eq_true] at e
  exact of_decide_eq_true (List.all_eq_true.mp (List.all_eq_true.mp e.1 t ht) c hc)
def isI : V → Bool
  | .int _ => true
  | _ => false
def isB : V → Bool
  | .bl _ => true
  | _ => false
theorem isk_int {H : Hp} {v : V} {t : Value} (h : TyX K H v t) : (isk t (.type "int") && !isk t (.type "bool")) = isI v := by
  cases h with
  | base h => cases h <;> simp [isk, isI]
  | _ => simp [isk, isI]
theorem knw_int {H : Hp} (i : Int) : Knw K H (.int i) := ⟨_, .base (.int i), by simp [tys]⟩
theorem knw_bl {H : Hp} (b : Bool) : Knw K H (.bl b) := ⟨_, .base (.bl b), by simp [tys]⟩
theorem knw_non {H : Hp} : Knw K H .non := ⟨_, .base .non, by simp [tys]⟩
theorem knw_str {H : Hp} (x : Str) : Knw K H (.str x) := ⟨_, .base (.str x), by simp [tys]⟩
theorem knw_lst {H : Hp} {a : Addr} {xs : List V} (h : H a = some (.lst xs)) : Knw K H (.ref a) := ⟨_, .base (.lst h), by simp [tys]⟩
theorem knw_tup {H : Hp} {a : Addr} {xs : List V} (h : H a = some (.tup xs)) : Knw K H (.ref a) := ⟨_, .base (.tup h), by simp [tys]⟩
/-! ### kinds -/
def spWhole (K : PySem.W.Frag) : Sp := fun vs H Q _ => ∃ v, vs = [v] ∧ Knw K H v ∧ Q (.bl (isI v)) H
theorem cal_is_whole (T : Txt K mg) : C8.Cal P w K mg base 1 "is_whole" (spWhole K) [] := by
  refine calD T.f_is_whole T.g_is_whole sc_is_whole (fun fd F => F.bindsN fun _ _ _ _ _ _ us hl => match us, hl with | [_], _ => rfl) (fun vs H Q E h => by obtain ⟨v, rfl, _⟩ := h; rfl) fun cdv A outer s H vs Q E hr h => ?_
  obtain ⟨v, rfl, ⟨t, ht, hm⟩, q⟩ := h
  refine ⟨_, (pss_one (ps_ret (pe_and (pe_callB call_isi (by rfl) T.b_isinstance (by decide +kernel) (pa_cons (pv 0) (pa_cons (pe_bltn (v := .ty "int") (by rfl) T.b_int (by decide +kernel) rfl) pa_nil))) (pe_one (pe_not (pe_callB call_isi (by rfl) T.b_isinstance (by decide +kernel) (pa_cons (pv 0) (pa_cons (pe_bltn (v := .ty "bool") (by rfl) T.b_bool (by decide +kernel) rfl) pa_nil)))))))), ?_⟩
  refine ⟨_, rfl, _, _, t, _, _, rfl, .ty _, ht, T.kit hm (by simp [cls]), _, rfl, ?_⟩
  have e := isk_int ht
  cases e1 : isk t (.type "int") with
  | true =>
    rw [e1, Bool.true_and] at e
    refine iteT ⟨_, rfl, _, _, t, _, _, rfl, .ty _, ht, T.kit hm (by simp [cls]), _, rfl, ?_⟩
    show Q (.bl (!isk t (.type "bool"))) H
    rw [e]; exact q
  | false =>
    rw [e1, Bool.false_and] at e
    refine iteF ?_
    show Q (.bl false) H
    rw [e]; exact q
def wi (v : V) (lo hi : Int) : Bool := match v with
  | .int i => decide (lo ≤ i) && decide (i ≤ hi)
  | _ => false
theorem wi_int {i lo hi : Int} (h1 : lo ≤ i) (h2 : i ≤ hi) : wi (.int i) lo hi = true := by simp [wi, h1, h2]
theorem wi_true {v : V} {lo hi : Int} (h : wi v lo hi = true) : ∃ i, v = .int i ∧ lo ≤ i ∧ i ≤ hi := by
  cases v with
  | int i => simp [wi] at h; exact ⟨i, rfl, h⟩
  | _ => simp [wi] at h
def spWithin (K : PySem.W.Frag) : Sp := fun vs H Q _ => ∃ v lo hi, vs = [v, .int lo, .int hi] ∧ Knw K H v ∧ Q (.bl (wi v lo hi)) H
theorem cal_is_within (T : Txt K mg) : C8.Cal P w K mg base 2 "is_within" (spWithin K) [] := by
  refine calD T.f_is_within T.g_is_within sc_is_within (fun fd F => F.bindsN fun _ _ _ _ _ _ us hl => match us, hl with | [_, _, _], _ => rfl) (fun vs H Q E h => by obtain ⟨v, _, _, rfl, _⟩ := h; rfl) fun cdv A outer s H vs Q E hr h => ?_
  obtain ⟨v, lo, hi, rfl, hv, q⟩ := h
  refine ⟨_, (pss_one (ps_ret (pe_and (C8.pe_c (cal_is_whole T) hr (by decide) rfl (pa_cons (pv 0) pa_nil)) (pe_one (pe_chain op_le op_le (pv 1) (pv 0) (pv 2)))))), ?_⟩
  refine ⟨_, rfl, v, rfl, hv, _, rfl, ?_⟩
  cases v with
  | int i =>
    refine iteT ⟨_, rfl, _, rfl, _, _, rfl, rfl, _, rfl, ite2 (fun c => ?_) fun c => ?_⟩
    · refine ⟨_, rfl, _, _, rfl, rfl, ?_⟩
      have e : wi (.int i) lo hi = decide (i ≤ hi) := by simp [wi, of_decide_eq_true c]
      rw [e] at q; exact q
    · have e : wi (.int i) lo hi = false := by simp [wi]; intro z; exact absurd (decide_eq_true z) c
      rw [e] at q; exact q
  | _ => exact iteF q
/-- a kind between two written bounds -/
def spKind (K : PySem.W.Frag) (lo hi : Int) : Sp := fun vs H Q _ => ∃ v, vs = [v] ∧ Knw K H v ∧ Q (.bl (wi v lo hi)) H
theorem cal_is_strength (T : Txt K mg) : C8.Cal P w K mg base 3 "is_strength" (spKind K 1 1000000000) [] := by
  refine calD T.f_is_strength T.g_is_strength sc_is_strength (fun fd F => F.bindsN fun _ _ _ _ _ _ us hl => match us, hl with | [_], _ => rfl) (fun vs H Q E h => by obtain ⟨v, rfl, _⟩ := h; rfl) fun cdv A outer s H vs Q E hr h => ?_
  obtain ⟨v, rfl, hv, q⟩ := h
  exact ⟨_, (pss_one (ps_ret (C8.pe_c (cal_is_within T) hr (by decide) rfl (pa_cons (pv 0) (pa_cons pe_int (pa_cons (C8.pe_gc rfl T.c_MOST_STRENGTH) pa_nil)))))), ⟨_, rfl, v, _, _, rfl, hv, q⟩⟩
theorem cal_is_size (T : Txt K mg) : C8.Cal P w K mg base 3 "is_size" (spKind K 0 1000000000) [] := by
  refine calD T.f_is_size T.g_is_size sc_is_size (fun fd F => F.bindsN fun _ _ _ _ _ _ us hl => match us, hl with | [_], _ => rfl) (fun vs H Q E h => by obtain ⟨v, rfl, _⟩ := h; rfl) fun cdv A outer s H vs Q E hr h => ?_
  obtain ⟨v, rfl, hv, q⟩ := h
  exact ⟨_, (pss_one (ps_ret (C8.pe_c (cal_is_within T) hr (by decide) rfl (pa_cons (pv 0) (pa_cons pe_int (pa_cons (C8.pe_gc rfl T.c_MOST_STRENGTH) pa_nil)))))), ⟨_, rfl, v, _, _, rfl, hv, q⟩⟩
theorem cal_is_moment (T : Txt K mg) : C8.Cal P w K mg base 3 "is_moment" (spKind K 0 1000000000000000000000000000000) [] := by
  refine calD T.f_is_moment T.g_is_moment sc_is_moment (fun fd F => F.bindsN fun _ _ _ _ _ _ us hl => match us, hl with | [_], _ => rfl) (fun vs H Q E h => by obtain ⟨v, rfl, _⟩ := h; rfl) fun cdv A outer s H vs Q E hr h => ?_
  obtain ⟨v, rfl, hv, q⟩ := h
  exact ⟨_, (pss_one (ps_ret (C8.pe_c (cal_is_within T) hr (by decide) rfl (pa_cons (pv 0) (pa_cons pe_int (pa_cons (C8.pe_gc rfl T.c_MOST_MOMENT) pa_nil)))))), ⟨_, rfl, v, _, _, rfl, hv, q⟩⟩
/-- a step, as it is -/
def okS (x : Int × Int) : Prop := 1 ≤ x.1 ∧ x.1 ≤ 9 ∧ 0 ≤ x.2 ∧ x.2 ≤ 1000000000
def StepV (H : Hp) (v : V) (x : Int × Int) : Prop := ∃ b, v = .ref b ∧ H b = some (.tup [.int x.1, .int x.2])
/-- a list of steps -/
def Steps (H : Hp) (a : Addr) (xs : List (Int × Int)) : Prop := ∃ vs, H a = some (.lst vs) ∧ Paired (StepV H) vs xs
def spStep (K : PySem.W.Frag) : Sp := fun vs H Q _ => ∃ v x, vs = [v] ∧ StepV H v x ∧ okS x ∧ Q (.bl true) H
theorem cal_is_step (T : Txt K mg) : C8.Cal P w K mg base 4 "is_step" (spStep K) [] := by
  refine calD T.f_is_step T.g_is_step sc_is_step (fun fd F => F.bindsN fun _ _ _ _ _ _ us hl => match us, hl with | [_], _ => rfl) (fun vs H Q E h => by obtain ⟨_, _, rfl, _⟩ := h; rfl) fun cdv A outer s H vs Q E hr h => ?_
  refine ⟨_, (pss_one (ps_ret (pe_and (pe_callB call_isi (by rfl) T.b_isinstance (by decide +kernel) (pa_cons (pv 0) (pa_cons (pe_bltn (v := .ty "tuple") (by rfl) T.b_tuple (by decide +kernel) rfl) pa_nil))) (pe_and (pe_cmpR op_eq (pe_callB call_len (by rfl) T.b_len (by decide +kernel) (pa_cons (pv 0) pa_nil)) pe_int (nomark _)) (pe_and (C8.pe_c (cal_is_within T) hr (by decide) rfl (pa_cons (pe_ix ix_tup (pv 0) pe_int (fun _ _ => rfl)) (pa_cons pe_int (pa_cons pe_int pa_nil)))) (pe_one (C8.pe_c (cal_is_size T) hr (by decide) rfl (pa_cons (pe_ix ix_tup (pv 0) pe_int (fun _ _ => rfl)) pa_nil)))))))), ?_⟩
  obtain ⟨_, ⟨b, t⟩, rfl, ⟨a, rfl, ha⟩, ⟨b1, b2, t1, t2⟩, q⟩ := h
  refine ⟨_, rfl, _, _, .type "tuple", _, _, rfl, .ty _, .base (.tup ha), T.kit (by simp [tys]) (by simp [cls]), _, rfl, ?_⟩
  refine iteT ⟨_, rfl, _, 2, rfl, .inr ⟨_, .of ha, rfl⟩, rfl, _, rfl, iteT ⟨_, rfl, _, _, _, _, rfl, rfl, .of ha, rfl, _, _, _, rfl, knw_int _, _, rfl, ?_⟩⟩
  rw [wi_int b1 b2]
  refine iteT ⟨_, rfl, _, _, _, _, rfl, rfl, .of ha, rfl, _, rfl, knw_int _, ?_⟩
  rw [wi_int t1 t2]
  exact q
/-! ### lists of steps -/
theorem same_new {H : Hp} {p : Addr} {o : HO} (h : H p = none) : Same H (upd H p o) := fun b u e => by rw [upd_ne (ne_of_none e h)]; exact e
theorem Same.mut {H H' : Hp} {p : Addr} {o : HO} (e : Same H H') (h : H p = none) : Same H (upd H' p o) := fun a u ha => by
  rw [upd_ne (ne_of_none ha h)]
  exact e a u ha
theorem StepV.mono {H H' : Hp} (s : Same H H') {v : V} {x : Int × Int} : StepV H v x → StepV H' v x := fun ⟨b, e, h⟩ => ⟨b, e, s _ _ h⟩
theorem Steps.mono {H H' : Hp} (s : Same H H') {a : Addr} {xs : List (Int × Int)} : Steps H a xs → Steps H' a xs := fun ⟨vs, h, p⟩ => ⟨vs, s _ _ h, Paired.mapP p fun _ _ => StepV.mono s⟩
theorem paired_get {α β : Type} {F : α → β → Prop} : ∀ {xs : List α} {ys : List β} {i : Nat} {x : α}, Paired F xs ys → xs[i]? = some x → ∃ y, ys[i]? = some y ∧ F x y
  | _, _, _, _, .nil, e => by simp at e
  | _, _, 0, _, .cons r _, e => by simp at e; subst e; exact ⟨_, rfl, r⟩
  | _, _, i + 1, x, .cons _ t, e => by
    obtain ⟨u, h1, h2⟩ := paired_get (i := i) (x := x) t (by simpa using e)
    exact ⟨u, by simpa using h1, h2⟩
theorem paired_len {α β : Type} {F : α → β → Prop} : ∀ {xs : List α} {ys : List β}, Paired F xs ys → xs.length = ys.length
  | _, _, .nil => rfl
  | _, _, .cons _ t => congrArg Nat.succ (paired_len t)
/-- is_head, is_tail: a list of good steps -/
def spHead (K : PySem.W.Frag) : Sp := fun vs H Q _ => ∃ a xs, vs = [.ref a] ∧ Steps H a xs ∧ (∀ x ∈ xs, okS x) ∧ xs.length ≤ 24 ∧ ∀ H', Same H H' → Q (.bl true) H'
theorem all_true (n : Nat) : (List.replicate n true).all id = true := by simp
theorem cal_is_head (T : Txt K mg) : C8.Cal P w K mg base 5 "is_head" (spHead K) [] := by
  refine calD T.f_is_head T.g_is_head sc_is_head (fun fd F => F.bindsN fun _ _ _ _ _ _ us hl => match us, hl with | [_], _ => rfl) (fun vs H Q E h => by obtain ⟨_, _, rfl, _⟩ := h; rfl) fun cdv A outer s H vs Q E hr h => ?_
  refine ⟨_, (pss_one (ps_ret (pe_and (pe_callB call_isi (by rfl) T.b_isinstance (by decide +kernel) (pa_cons (pv 0) (pa_cons (pe_bltn (v := .ty "list") (by rfl) T.b_list (by decide +kernel) rfl) pa_nil))) (pe_and (pe_cmpR op_le (pe_callB call_len (by rfl) T.b_len (by decide +kernel) (pa_cons (pv 0) pa_nil)) (C8.pe_gc rfl T.c_LONGEST_HEAD) (nomark _)) (pe_one (pe_callB (cr_all rfl) (by rfl) T.b_all (by decide +kernel) (pa_cons (pe_lc (own := [("one", 1)]) (by rfl) sc_is_head.nd (pi_list (pv 0)) (blkOk_by (own := [("one", 1)]) (N := n_is_head) (sc := defScope s_is_head) (by decide +kernel)) (fun _ _ _ _ _ => (pg_name (i := 1) sc_is_head.nd rfl (by first | exact Or.inl rfl | exact Or.inr rfl))) (fun _ _ _ _ _ => pts_nil) (fun _ _ _ _ _ => (C8.pe_c (cal_is_step T) hr (by decide) rfl (pa_cons (pv 1) pa_nil)))) pa_nil))))))), ?_⟩
  obtain ⟨a, xs, rfl, ⟨vs, ha, hp⟩, hok, hl, q⟩ := h
  have hle := paired_len hp
  refine ⟨_, rfl, _, _, .type "list", _, _, rfl, .ty _, .base (.lst ha), T.kit (by simp [tys]) (by simp [cls]), _, rfl, ?_⟩
  refine iteT ⟨_, rfl, _, _, rfl, .inl ⟨_, .of ha, rfl⟩, _, _, rfl, rfl, _, rfl, ?_⟩
  rw [show decide (((vs.length : Nat) : Int) ≤ 24) = true from decide_eq_true (by omega)]
  refine iteT ⟨_, rfl, a, rfl, ⟨_, SqL.of ha⟩, fun D hD => ?_⟩
  refine lc_list (K := K) (a := a) (xs := vs) (fun i H' => Same H H' ∧ H' D = some (.lst ((List.replicate i true).map V.bl))) ⟨same_new hD, upd_same⟩ (fun i H' _ p => p.1.seq (SqL.of ha)) ?_ ?_
  · rintro i x H' hi ⟨s, hd⟩
    obtain ⟨y, hy, hx⟩ := paired_get hp hi
    refine ⟨rfl, _, rfl, _, _, rfl, hx.mono s, hok y (List.mem_of_getElem? hy), _, hd, ?_, ?_, ?_⟩
    · have := (List.getElem?_eq_some_iff.mp hi).1
      rw [List.length_map, List.length_replicate]
      exact small1000 (by omega)
    · exact Same.mut s hD
    · rw [upd_same, List.replicate_succ', List.map_append]; rfl
  · rintro H' ⟨s, hd⟩
    refine ⟨D, _, rfl, SqL.of hd, ?_⟩
    rw [all_true]
    exact q _ s
theorem inV_ints {i : Int} {l : List Int} (h : i ∈ l) : inV (.int i) (l.map V.int) = true := by
  rw [inV, List.any_eq_true]
  exact ⟨.int i, List.mem_map_of_mem h, by simp [eqV]⟩
def tails : List Int := [1, 2, 3, 4, 6, 8, 12, 24]
theorem Txt.tails (T : Txt K mg) (H : Hp) : SqT K H (He.ga K "TAILS") (tails.map V.int) := by
  exact He.tupB_ok (T.ex 1 (f := fun K => He.tupB K "TAILS" [.int 1, .int 2, .int 3, .int 4, .int 6, .int 8, .int 12, .int 24]) rfl) H
theorem tails_le {n : Nat} (h : (n : Int) ∈ tails) : 1 ≤ n ∧ n ≤ 24 := by
  simp [tails] at h
  omega
def spTail (K : PySem.W.Frag) : Sp := fun vs H Q _ => ∃ a xs, vs = [.ref a] ∧ Steps H a xs ∧ (∀ x ∈ xs, okS x) ∧ (xs.length : Int) ∈ tails ∧ ∀ H', Same H H' → Q (.bl true) H'
theorem cal_is_tail (T : Txt K mg) : C8.Cal P w K mg base 5 "is_tail" (spTail K) [] := by
  refine calD T.f_is_tail T.g_is_tail sc_is_tail (fun fd F => F.bindsN fun _ _ _ _ _ _ us hl => match us, hl with | [_], _ => rfl) (fun vs H Q E h => by obtain ⟨_, _, rfl, _⟩ := h; rfl) fun cdv A outer s H vs Q E hr h => ?_
  refine ⟨_, (pss_one (ps_ret (pe_and (pe_callB call_isi (by rfl) T.b_isinstance (by decide +kernel) (pa_cons (pv 0) (pa_cons (pe_bltn (v := .ty "list") (by rfl) T.b_list (by decide +kernel) rfl) pa_nil))) (pe_and (pe_cmpR op_in_seq (pe_callB call_len (by rfl) T.b_len (by decide +kernel) (pa_cons (pv 0) pa_nil)) (C8.pe_gc rfl T.c_TAILS) (by rfl)) (pe_one (pe_callB (cr_all rfl) (by rfl) T.b_all (by decide +kernel) (pa_cons (pe_lc (own := [("one", 1)]) (by rfl) sc_is_tail.nd (pi_list (pv 0)) (blkOk_by (own := [("one", 1)]) (N := n_is_tail) (sc := defScope s_is_tail) (by decide +kernel)) (fun _ _ _ _ _ => (pg_name (i := 1) sc_is_tail.nd rfl (by first | exact Or.inl rfl | exact Or.inr rfl))) (fun _ _ _ _ _ => pts_nil) (fun _ _ _ _ _ => (C8.pe_c (cal_is_step T) hr (by decide) rfl (pa_cons (pv 1) pa_nil)))) pa_nil))))))), ?_⟩
  obtain ⟨a, xs, rfl, ⟨vs, ha, hp⟩, hok, hl, q⟩ := h
  have hle := paired_len hp
  refine ⟨_, rfl, _, _, .type "list", _, _, rfl, .ty _, .base (.lst ha), T.kit (by simp [tys]) (by simp [cls]), _, rfl, ?_⟩
  refine iteT ⟨_, rfl, _, _, rfl, .inl ⟨_, .of ha, rfl⟩, ?_⟩
  refine ⟨_, _, rfl, .inr (T.tails H), rfl, rfl, _, rfl, ?_⟩
  rw [show (if false then !inV (.int (vs.length : Nat)) _ else inV (.int (vs.length : Nat)) (tails.map V.int)) = true from by rw [hle]; exact inV_ints hl]
  refine iteT ⟨_, rfl, a, rfl, ⟨_, SqL.of ha⟩, fun D hD => ?_⟩
  refine lc_list (K := K) (a := a) (xs := vs) (fun i H' => Same H H' ∧ H' D = some (.lst ((List.replicate i true).map V.bl))) ⟨same_new hD, upd_same⟩ (fun i H' _ p => p.1.seq (SqL.of ha)) ?_ ?_
  · rintro i x H' hi ⟨s, hd⟩
    obtain ⟨y, hy, hx⟩ := paired_get hp hi
    refine ⟨rfl, _, rfl, _, _, rfl, hx.mono s, hok y (List.mem_of_getElem? hy), _, hd, ?_, ?_, ?_⟩
    · have := (List.getElem?_eq_some_iff.mp hi).1
      rw [List.length_map, List.length_replicate]
      have := tails_le hl
      exact small1000 (by omega)
    · exact Same.mut s hD
    · rw [upd_same, List.replicate_succ', List.map_append]; rfl
  · rintro H' ⟨s, hd⟩
    refine ⟨D, _, rfl, SqL.of hd, ?_⟩
    rw [all_true]
    exact q _ s
/-! ### wanes -/
structure WN where
  head : List (Int × Int)
  tail : List (Int × Int)
  cap : Int
  lift : Int
  anew : Bool
structure okW (w : WN) : Prop where
  h : ∀ x ∈ w.head, okS x
  hl : w.head.length ≤ 24
  t : ∀ x ∈ w.tail, okS x
  tl : (w.tail.length : Int) ∈ tails
  c1 : 1 ≤ w.cap
  c2 : w.cap ≤ 1000000000
  l1 : 0 ≤ w.lift
  l2 : w.lift ≤ 1000000000
theorem putF_le {f : Str} {v : V} : ∀ {fs : List (Str × V)} {n : Nat}, fs.length ≤ n → (putF f v fs).length ≤ n + 1
  | [], n, _ => Nat.succ_le_succ (Nat.zero_le n)
  | (g, x) :: r, 0, h => absurd h (Nat.not_succ_le_zero _)
  | (g, x) :: r, n + 1, h => by
    unfold putF
    split
    · exact Nat.le_succ_of_le h
    · exact Nat.succ_le_succ (putF_le (Nat.le_of_succ_le_succ h))
def wF (h t : Addr) (c l : Int) (b : Bool) : List (Str × V) := [("head_steps", .ref h), ("tail_steps", .ref t), ("cap_at", .int c), ("lift_by", .int l), ("begins", .bl b)]
theorem wF_put (h t : Addr) (c l : Int) (b : Bool) : putF "begins" (.bl b) (putF "lift_by" (.int l) (putF "cap_at" (.int c) (putF "tail_steps" (.ref t) (putF "head_steps" (.ref h) [])))) = wF h t c l b := by kernel_rfl
theorem wF_head (h t : Addr) (c l : Int) (b : Bool) : (wF h t c l b).lookup ("head_steps" : Str) = some (.ref h) := by kernel_rfl
theorem wF_tail (h t : Addr) (c l : Int) (b : Bool) : (wF h t c l b).lookup ("tail_steps" : Str) = some (.ref t) := by kernel_rfl
theorem wF_cap (h t : Addr) (c l : Int) (b : Bool) : (wF h t c l b).lookup ("cap_at" : Str) = some (.int c) := by kernel_rfl
theorem wF_lift (h t : Addr) (c l : Int) (b : Bool) : (wF h t c l b).lookup ("lift_by" : Str) = some (.int l) := by kernel_rfl
theorem wF_anew (h t : Addr) (c l : Int) (b : Bool) : (wF h t c l b).lookup ("begins" : Str) = some (.bl b) := by kernel_rfl
abbrev cW (K : PySem.W.Frag) : Addr := He.ga K "Wane"
/-- a wane at a -/
def WaneAt (K : PySem.W.Frag) (H : Hp) (a : Addr) (w : WN) : Prop := ∃ dx h t, H a = some (.ins (cW K) dx (wF h t w.cap w.lift w.anew)) ∧ Steps H h w.head ∧ Steps H t w.tail ∧ okW w
theorem WaneAt.mono {H H' : Hp} (s : Same H H') {a : Addr} {w : WN} : WaneAt K H a w → WaneAt K H' a w := fun ⟨dx, h, t, e, sh, st, ok⟩ => ⟨dx, h, t, s _ _ e, sh.mono s, st.mono s, ok⟩
/-- .. whose parts are not D -/
def WaneN (K : PySem.W.Frag) (D : Addr) (H : Hp) (a : Addr) (w : WN) : Prop := ∃ dx h t, a ≠ D ∧ h ≠ D ∧ t ≠ D ∧ H a = some (.ins (cW K) dx (wF h t w.cap w.lift w.anew)) ∧ Steps H h w.head ∧ Steps H t w.tail ∧ okW w
theorem WaneN.at_ {D : Addr} {H : Hp} {a : Addr} {w : WN} (x : WaneN K D H a w) : WaneAt K H a w := by
  obtain ⟨dx, h, t, _, _, _, e, s1, s2, ok⟩ := x
  exact ⟨dx, h, t, e, s1, s2, ok⟩
theorem WaneN.mono {D : Addr} {H H' : Hp} (s : Same H H') {a : Addr} {w : WN} (x : WaneN K D H a w) : WaneN K D H' a w := by
  obtain ⟨dx, h, t, n1, n2, n3, e, s1, s2, ok⟩ := x
  exact ⟨dx, h, t, n1, n2, n3, s _ _ e, s1.mono s, s2.mono s, ok⟩
theorem WaneN.updL {D : Addr} {H : Hp} {vs : List V} {o : HO} (hD : H D = some (.lst vs)) {a : Addr} {w : WN} (x : WaneN K D H a w) : WaneN K D (L2.upd H D o) a w := by
  obtain ⟨dx, h, t, n1, n2, n3, e, ⟨vh, s1, p1⟩, ⟨vt, s2, p2⟩, ok⟩ := x
  have keep : ∀ {v : V} {y : Int × Int}, StepV H v y → StepV (L2.upd H D o) v y := by
    rintro v y ⟨b, rfl, hb⟩
    exact ⟨b, rfl, by rw [upd_ne (fun z => by rw [z, hD] at hb; cases hb)]; exact hb⟩
  exact ⟨dx, h, t, n1, n2, n3, by rw [upd_ne n1]; exact e, ⟨vh, by rw [upd_ne n2]; exact s1, Paired.mapP p1 fun _ _ => keep⟩, ⟨vt, by rw [upd_ne n3]; exact s2, Paired.mapP p2 fun _ _ => keep⟩, ok⟩
def spWInit (K : PySem.W.Frag) : Sp := fun vs H Q _ => ∃ H0 x dx h t w, vs = [.ref x, .ref h, .ref t, .int w.cap, .int w.lift, .bl w.anew] ∧ H = upd (upd H0 dx (.own x)) x (.ins (cW K) dx []) ∧ H0 x = none ∧ H0 dx = none ∧ dx ≠ x ∧
  Steps H0 h w.head ∧ Steps H0 t w.tail ∧ okW w ∧ ∀ H', Same H0 H' → WaneAt K H' x w → (∀ D, H0 D ≠ none → WaneN K D H' x w) → Q .non H'
theorem fn_Wane_init (T : Txt K mg) {fd : FuncData} (F : FD K d_Wane___init__ fd) : FnOk P w K mg base C8.CX0 6 (He.fAd K d_Wane___init__.at_) fd ["self", "head", "tail", "cap", "lift", "anew"] (spWInit K) := by
  refine F.ok sc_Wane___init__ (fun vs H Q E h => by obtain ⟨_, _, _, _, _, _, rfl, _⟩ := h; rfl) fun cdv A outer s H vs Q E hr h => ?_
  obtain ⟨H0, x, dx, h, t, w, rfl, eH, nx, nd, ne, sh, st, ok, q⟩ := h
  have s0 : Same H0 H := by rw [eH]; exact Same.mut (same_new nd) nx
  have hx : H x = some (.ins (cW K) dx []) := by rw [eH]; exact upd_same
  refine ⟨_, PSs.nox (pss_cons (ps_if (pt_not (pt_val (C8.pe_c (cal_is_head T) hr (by decide) rfl (pa_cons (pv 1) pa_nil)))) (pss_one ps_never) pss_nil) (pss_cons (ps_if (pt_not (pt_val (C8.pe_c (cal_is_tail T) hr (by decide) rfl (pa_cons (pv 2) pa_nil)))) (pss_one ps_never) pss_nil) (pss_cons (ps_if (pt_not (pt_val (C8.pe_c (cal_is_strength T) hr (by decide) rfl (pa_cons (pv 3) pa_nil)))) (pss_one ps_never) pss_nil) (pss_cons (ps_if (pt_not (pt_val (C8.pe_c (cal_is_size T) hr (by decide) rfl (pa_cons (pv 4) pa_nil)))) (pss_one ps_never) pss_nil) (pss_cons (ps_if (pt_not (pt_val (pe_callB call_isi (by rfl) T.b_isinstance (by decide +kernel) (pa_cons (pv 5) (pa_cons (pe_bltn (v := .ty "bool") (by rfl) T.b_bool (by decide +kernel) rfl) pa_nil))))) (pss_one ps_never) pss_nil) (pss_cons (ps_fld (pv 0) (pe_callTy call_list_of (by rfl) T.b_list (by decide +kernel) (pa_cons (pv 1) pa_nil)) rfl) (pss_cons (ps_fld (pv 0) (pe_callTy call_list_of (by rfl) T.b_list (by decide +kernel) (pa_cons (pv 2) pa_nil)) rfl) (pss_cons (ps_fld (pv 0) (pv 3) rfl) (pss_cons (ps_fld (pv 0) (pv 4) rfl) (pss_one (ps_fld (pv 0) (pv 5) rfl))))))))))), ?_⟩
  refine ⟨_, rfl, _, _, rfl, sh.mono s0, ok.h, ok.hl, fun H1 s1 => ⟨_, rfl, iteF ?_⟩⟩
  refine ⟨_, rfl, _, _, rfl, st.mono (s0.trans s1), ok.t, ok.tl, fun H2 s2 => ⟨_, rfl, iteF ?_⟩⟩
  refine ⟨_, rfl, _, rfl, knw_int _, _, rfl, ?_⟩
  rw [wi_int ok.c1 ok.c2]
  refine iteF ⟨_, rfl, _, rfl, knw_int _, _, rfl, ?_⟩
  rw [wi_int ok.l1 ok.l2]
  refine iteF ⟨_, rfl, _, _, .type "bool", _, _, rfl, .ty _, .base (.bl _), T.kit (by simp [tys]) (by simp [cls]), _, rfl, iteF ?_⟩
  have s02 := (s0.trans s1).trans s2
  obtain ⟨vh, hh0, ph⟩ := sh
  obtain ⟨vt, ht0, pt⟩ := st
  have hh := s02 _ _ hh0
  have ht := s02 _ _ ht0
  have hx2 : H2 x = some (.ins (cW K) dx []) := s2 _ _ (s1 _ _ hx)
  refine ⟨_, rfl, h, vh, rfl, .inl (SqL.of hh), fun l nl => ?_⟩
  have xl : x ≠ l := ne_of_none hx2 nl
  have l0 : H0 l = none := s02.free nl
  refine ⟨_, rfl, x, cW K, dx, [], rfl, by rw [upd_ne xl]; exact hx2, T.cl_Wane, T.n_Wane_head_steps, by decide, ?_⟩
  have tl : t ≠ l := ne_of_none ht nl
  have tx : t ≠ x := ne_of_none ht0 nx
  refine ⟨_, rfl, t, vt, rfl, .inl (SqL.of (by rw [upd_ne tx, upd_ne tl]; exact ht)), fun m nm => ?_⟩
  have mx : m ≠ x := fun e => by rw [e, upd_same] at nm; cases nm
  have nm1 : upd H2 l (.lst vh) m = none := by rw [upd_ne mx] at nm; exact nm
  have ml : m ≠ l := fun e => by rw [e, upd_same] at nm1; cases nm1
  have nm2 : H2 m = none := by rw [upd_ne ml] at nm1; exact nm1
  have m0 : H0 m = none := s02.free nm2
  refine ⟨_, rfl, x, cW K, dx, _, rfl, by rw [upd_ne (Ne.symm mx), upd_same], T.cl_Wane, T.n_Wane_tail_steps, Nat.lt_of_le_of_lt (putF_le (Nat.le_refl _)) (by decide), ?_⟩
  refine ⟨_, rfl, _, rfl, x, cW K, dx, _, rfl, upd_same, T.cl_Wane, T.n_Wane_cap_at, Nat.lt_of_le_of_lt (putF_le (putF_le (Nat.le_refl _))) (by decide), ?_⟩
  refine ⟨_, rfl, _, rfl, x, cW K, dx, _, rfl, upd_same, T.cl_Wane, T.n_Wane_lift_by, Nat.lt_of_le_of_lt (putF_le (putF_le (putF_le (Nat.le_refl _)))) (by decide), ?_⟩
  refine ⟨_, rfl, _, rfl, x, cW K, dx, _, rfl, upd_same, T.cl_Wane, T.n_Wane_begins, Nat.lt_of_le_of_lt (putF_le (putF_le (putF_le (putF_le (Nat.le_refl _))))) (by decide), ?_⟩
  rw [upd_upd, upd_upd, upd_upd, wF_put]
  have fin : Same H0 (upd (upd (upd (upd H2 l (.lst vh)) x (.ins (cW K) dx (putF "head_steps" (.ref l) []))) m (.lst vt)) x (.ins (cW K) dx (wF l m w.cap w.lift w.anew))) :=
    Same.mut (Same.mut (Same.mut (Same.mut s02 l0) nx) m0) nx
  have eL : upd (upd (upd (upd H2 l (.lst vh)) x (.ins (cW K) dx (putF "head_steps" (.ref l) []))) m (.lst vt)) x (.ins (cW K) dx (wF l m w.cap w.lift w.anew)) l = some (.lst vh) := by
    rw [upd_ne (Ne.symm xl), upd_ne (Ne.symm ml), upd_ne (Ne.symm xl), upd_same]
  have eM : upd (upd (upd (upd H2 l (.lst vh)) x (.ins (cW K) dx (putF "head_steps" (.ref l) []))) m (.lst vt)) x (.ins (cW K) dx (wF l m w.cap w.lift w.anew)) m = some (.lst vt) := by
    rw [upd_ne mx, upd_same]
  have fh := Paired.mapP ph fun _ _ => StepV.mono fin
  have ft := Paired.mapP pt fun _ _ => StepV.mono fin
  exact q _ fin ⟨dx, l, m, upd_same, ⟨vh, eL, fh⟩, ⟨vt, eM, ft⟩, ok⟩ fun D hD => ⟨dx, l, m, fun e => hD (by rw [← e]; exact nx), fun e => hD (by rw [← e]; exact l0), fun e => hD (by rw [← e]; exact m0), upd_same, ⟨vh, eL, fh⟩, ⟨vt, eM, ft⟩, ok⟩
/-! ### a wane's methods -/
def spCap (K : PySem.W.Frag) : Sp := fun vs H Q _ => ∃ a w, vs = [.ref a] ∧ WaneAt K H a w ∧ Q (.int w.cap) H
theorem met_Wane_cap (T : Txt K mg) : C8.Met P w K mg base 1 (He.ga K "Wane") "cap" (spCap K) [] := by
  refine metD T.f_Wane_cap T.cl_Wane T.m_Wane_cap sc_Wane_cap (fun fd F => F.bindsN fun _ _ _ _ _ _ us hl => match us, hl with | [_], _ => rfl) (fun vs H Q E h => by obtain ⟨_, _, rfl, _⟩ := h; rfl) fun cdv A outer s H vs Q E hr h => ?_
  refine ⟨_, (pss_one (ps_ret (pe_fld (pv 0) rfl))), ?_⟩
  obtain ⟨a, w, rfl, ⟨dx, h, t, e, _⟩, q⟩ := h
  exact ⟨_, rfl, a, _, dx, _, _, rfl, e, T.cl_Wane, T.n_Wane_cap_at, wF_cap .., q⟩
def spLift (K : PySem.W.Frag) : Sp := fun vs H Q _ => ∃ a w, vs = [.ref a] ∧ WaneAt K H a w ∧ Q (.int w.lift) H
theorem met_Wane_lift (T : Txt K mg) : C8.Met P w K mg base 1 (He.ga K "Wane") "lift" (spLift K) [] := by
  refine metD T.f_Wane_lift T.cl_Wane T.m_Wane_lift sc_Wane_lift (fun fd F => F.bindsN fun _ _ _ _ _ _ us hl => match us, hl with | [_], _ => rfl) (fun vs H Q E h => by obtain ⟨_, _, rfl, _⟩ := h; rfl) fun cdv A outer s H vs Q E hr h => ?_
  refine ⟨_, (pss_one (ps_ret (pe_fld (pv 0) rfl))), ?_⟩
  obtain ⟨a, w, rfl, ⟨dx, h, t, e, _⟩, q⟩ := h
  exact ⟨_, rfl, a, _, dx, _, _, rfl, e, T.cl_Wane, T.n_Wane_lift_by, wF_lift .., q⟩
def spAnew (K : PySem.W.Frag) : Sp := fun vs H Q _ => ∃ a w, vs = [.ref a] ∧ WaneAt K H a w ∧ Q (.bl w.anew) H
theorem met_Wane_is_anew (T : Txt K mg) : C8.Met P w K mg base 1 (He.ga K "Wane") "is_anew" (spAnew K) [] := by
  refine metD T.f_Wane_is_anew T.cl_Wane T.m_Wane_is_anew sc_Wane_is_anew (fun fd F => F.bindsN fun _ _ _ _ _ _ us hl => match us, hl with | [_], _ => rfl) (fun vs H Q E h => by obtain ⟨_, _, rfl, _⟩ := h; rfl) fun cdv A outer s H vs Q E hr h => ?_
  refine ⟨_, (pss_one (ps_ret (pe_fld (pv 0) rfl))), ?_⟩
  obtain ⟨a, w, rfl, ⟨dx, h, t, e, _⟩, q⟩ := h
  exact ⟨_, rfl, a, _, dx, _, _, rfl, e, T.cl_Wane, T.n_Wane_begins, wF_anew .., q⟩
/-- the steps' number behind so many -/
def WN.phase (w : WN) (n : Nat) : Nat := if n < w.head.length + w.tail.length then n else w.head.length + (n - w.head.length) % w.tail.length
def WN.at (w : WN) (n : Nat) : Int × Int := if n < w.head.length then w.head.getD n (1, 0) else w.tail.getD ((n - w.head.length) % w.tail.length) (1, 0)
theorem okW.tpos {w : WN} (ok : okW w) : 1 ≤ w.tail.length := (tails_le ok.tl).1
def spComing (K : PySem.W.Frag) : Sp := fun vs H Q _ => ∃ a w n, vs = [.ref a, .int (n : Nat)] ∧ WaneAt K H a w ∧ ∀ v, StepV H v (w.at n) → Q v H
theorem steps_at {H : Hp} {a : Addr} {xs : List (Int × Int)} (h : Steps H a xs) {n : Nat} (hn : n < xs.length) : ∃ vs v, H a = some (.lst vs) ∧ vs.length = xs.length ∧ vs[n]? = some v ∧ StepV H v (xs.getD n (1, 0)) := by
  obtain ⟨vs, e, p⟩ := h
  have l := paired_len p
  obtain ⟨y, hy, hx⟩ := paired_get (i := n) (x := vs[n]'(by omega)) p (List.getElem?_eq_getElem (by omega))
  refine ⟨vs, _, e, l, List.getElem?_eq_getElem (by omega), ?_⟩
  rw [List.getD_eq_getElem?_getD, hy]
  exact hx
theorem met_Wane_coming (T : Txt K mg) : C8.Met P w K mg base 1 (He.ga K "Wane") "coming" (spComing K) [] := by
  refine metD T.f_Wane_coming T.cl_Wane T.m_Wane_coming sc_Wane_coming (fun fd F => F.bindsN fun _ _ _ _ _ _ us hl => match us, hl with | [_, _], _ => rfl) (fun vs H Q E h => by obtain ⟨_, _, _, rfl, _⟩ := h; rfl) fun cdv A outer s H vs Q E hr h => ?_
  refine ⟨_, (pss_cons (ps_set (i := 2) sc_Wane_coming.nd rfl (by first | exact Or.inl rfl | exact Or.inr rfl) (pe_callB call_len (by rfl) T.b_len (by decide +kernel) (pa_cons (pe_fld (pv 0) rfl) pa_nil))) (pss_cons (ps_if (pt_cmpR op_lt (pv 1) (pv 2) (nomark _)) (pss_one (ps_ret (pe_ix ix_list (pe_fld (pv 0) rfl) (pv 1) (fun _ _ => rfl)))) pss_nil) (pss_one (ps_ret (pe_ix ix_list (pe_fld (pv 0) rfl) (pe_op op_mod (pe_op op_sub (pv 1) (pv 2)) (pe_callB call_len (by rfl) T.b_len (by decide +kernel) (pa_cons (pe_fld (pv 0) rfl) pa_nil))) (fun _ _ => rfl)))))), ?_⟩
  obtain ⟨a, w, n, rfl, ⟨dx, h, t, e, sh, st, ok⟩, q⟩ := h
  obtain ⟨vh, hh, ph⟩ := id sh
  obtain ⟨vt, ht, pt⟩ := id st
  have l1 := paired_len ph
  have l2 := paired_len pt
  refine ⟨_, rfl, a, _, dx, _, _, rfl, e, T.cl_Wane, T.n_Wane_head_steps, wF_head .., _, _, rfl, .inl ⟨_, SqL.of hh, rfl⟩, ?_⟩
  refine ⟨_, rfl, _, rfl, _, _, rfl, rfl, _, rfl, ite2 (fun c => ?_) (fun c => ?_)⟩
  · have c := of_decide_eq_true c
    have hn : n < w.head.length := by omega
    obtain ⟨vs, v, e1, _, e2, e3⟩ := steps_at sh hn
    rw [hh] at e1; cases e1
    refine ⟨_, rfl, a, _, dx, _, _, rfl, e, T.cl_Wane, T.n_Wane_head_steps, wF_head .., _, rfl, h, vh, _, v, rfl, rfl, SqL.of hh, atI_nat e2, q v ?_⟩
    rw [WN.at, if_pos hn]; exact e3
  · have c : ¬ (n : Int) < vh.length := fun z => c (decide_eq_true z)
    have hn : ¬ n < w.head.length := by omega
    have tp := ok.tpos
    obtain ⟨vs, v, e1, _, e2, e3⟩ := steps_at st (n := (n - w.head.length) % w.tail.length) (Nat.mod_lt _ tp)
    rw [ht] at e1; cases e1
    refine ⟨_, rfl, a, _, dx, _, _, rfl, e, T.cl_Wane, T.n_Wane_tail_steps, wF_tail .., _, rfl, _, rfl, _, _, rfl, rfl, _, rfl, a, _, dx, _, _, rfl, e, T.cl_Wane, T.n_Wane_tail_steps, wF_tail .., _, _, rfl, .inl ⟨_, SqL.of ht, rfl⟩,
      _, _, rfl, rfl, by show (0 : Int) < (vt.length : Int); omega, t, vt, _, v, rfl, rfl, SqL.of ht, ?_, q v ?_⟩
    · have e4 : ((n : Int) - (vh.length : Int)) % (vt.length : Int) = (((n - w.head.length) % w.tail.length : Nat) : Int) := by
        rw [l1, l2, ← Int.ofNat_sub (by omega)]; exact (Int.natCast_emod _ _).symm
      rw [e4]; exact atI_nat e2
    · rw [WN.at, if_neg hn]; exact e3
def spPhaseOf (K : PySem.W.Frag) : Sp := fun vs H Q _ => ∃ a w n, vs = [.ref a, .int (n : Nat)] ∧ WaneAt K H a w ∧ Q (.int (w.phase n : Nat)) H
theorem met_Wane_phase_of (T : Txt K mg) : C8.Met P w K mg base 1 (He.ga K "Wane") "phase_of" (spPhaseOf K) [] := by
  refine metD T.f_Wane_phase_of T.cl_Wane T.m_Wane_phase_of sc_Wane_phase_of (fun fd F => F.bindsN fun _ _ _ _ _ _ us hl => match us, hl with | [_, _], _ => rfl) (fun vs H Q E h => by obtain ⟨_, _, _, rfl, _⟩ := h; rfl) fun cdv A outer s H vs Q E hr h => ?_
  refine ⟨_, (pss_cons (ps_set (i := 2) sc_Wane_phase_of.nd rfl (by first | exact Or.inl rfl | exact Or.inr rfl) (pe_callB call_len (by rfl) T.b_len (by decide +kernel) (pa_cons (pe_fld (pv 0) rfl) pa_nil))) (pss_cons (ps_if (pt_cmpR op_lt (pv 1) (pe_op op_add (pv 2) (pe_callB call_len (by rfl) T.b_len (by decide +kernel) (pa_cons (pe_fld (pv 0) rfl) pa_nil))) (nomark _)) (pss_one (ps_ret (pv 1))) pss_nil) (pss_one (ps_ret (pe_op op_add (pv 2) (pe_op op_mod (pe_op op_sub (pv 1) (pv 2)) (pe_callB call_len (by rfl) T.b_len (by decide +kernel) (pa_cons (pe_fld (pv 0) rfl) pa_nil)))))))), ?_⟩
  obtain ⟨a, w, n, rfl, ⟨dx, h, t, e, sh, st, ok⟩, q⟩ := h
  obtain ⟨vh, hh, ph⟩ := id sh
  obtain ⟨vt, ht, pt⟩ := id st
  have l1 := paired_len ph
  have l2 := paired_len pt
  have tp := ok.tpos
  refine ⟨_, rfl, a, _, dx, _, _, rfl, e, T.cl_Wane, T.n_Wane_head_steps, wF_head .., _, _, rfl, .inl ⟨_, SqL.of hh, rfl⟩, ?_⟩
  refine ⟨_, rfl, _, rfl, _, rfl, a, _, dx, _, _, rfl, e, T.cl_Wane, T.n_Wane_tail_steps, wF_tail .., _, _, rfl, .inl ⟨_, SqL.of ht, rfl⟩, _, _, rfl, rfl, _, _, rfl, rfl, _, rfl, ite2 (fun c => ?_) (fun c => ?_)⟩
  · have c := of_decide_eq_true c
    rw [WN.phase, if_pos (by omega)] at q
    exact ⟨_, rfl, q⟩
  · have c : ¬ (n : Int) < (vh.length : Int) + vt.length := fun z => c (decide_eq_true z)
    rw [WN.phase, if_neg (by omega)] at q
    refine ⟨_, rfl, _, rfl, _, rfl, _, _, rfl, rfl, _, rfl, a, _, dx, _, _, rfl, e, T.cl_Wane, T.n_Wane_tail_steps, wF_tail .., _, _, rfl, .inl ⟨_, SqL.of ht, rfl⟩, _, _, rfl, rfl, by show (0 : Int) < (vt.length : Int); omega, _, _, rfl, rfl, ?_⟩
    have e4 : (vh.length : Int) + ((n : Int) - (vh.length : Int)) % (vt.length : Int) = ((w.head.length + (n - w.head.length) % w.tail.length : Nat) : Int) := by
      rw [l1, l2, ← Int.ofNat_sub (by omega), ← Int.natCast_emod]; omega
    show Q (.int ((vh.length : Int) + ((n : Int) - (vh.length : Int)) % (vt.length : Int))) H
    rw [e4]; exact q
def spPhaseOf' (K : PySem.W.Frag) : Sp := fun vs H Q _ => ∃ a w n, vs = [.ref a, .int (n : Nat)] ∧ WaneAt K H a w ∧ (n : Int) ≤ 1000000000000000000000000000000 ∧ Q (.int (w.phase n : Nat)) H
theorem met_Wane_phase (T : Txt K mg) : C8.Met P w K mg base 4 (He.ga K "Wane") "phase" (spPhaseOf' K) [] := by
  refine metD T.f_Wane_phase T.cl_Wane T.m_Wane_phase sc_Wane_phase (fun fd F => F.bindsN fun _ _ _ _ _ _ us hl => match us, hl with | [_, _], _ => rfl) (fun vs H Q E h => by obtain ⟨_, _, _, rfl, _⟩ := h; rfl) fun cdv A outer s H vs Q E hr h => ?_
  refine ⟨_, (pss_cons (ps_if (pt_not (pt_val (C8.pe_c (cal_is_moment T) hr (by decide) rfl (pa_cons (pv 1) pa_nil)))) (pss_one ps_never) pss_nil) (pss_one (ps_ret (C8.pe_mt (met_Wane_phase_of T) hr (by decide) (pv 0) (pa_cons (pv 1) pa_nil))))), ?_⟩
  obtain ⟨a, w, n, rfl, hw, hn, q⟩ := h
  obtain ⟨dx, h, t, e, sh, st, ok⟩ := id hw
  refine ⟨_, rfl, _, rfl, knw_int _, _, rfl, ?_⟩
  rw [wi_int (by omega) hn]
  exact iteF ⟨_, rfl, a, dx, _, rfl, e, by kernel_rfl, _, rfl, a, w, n, rfl, hw, q⟩
end
end WH

set_option maxHeartbeats 4000000
namespace WH
open PySem PySem.Spec PyProof.Rows L2
section
variable {P : Program} {w : World} {K : PySem.W.Frag} {mg : Str → Option Value} {base : Heap}
theorem getD_mem {α : Type} {l : List α} {n : Nat} {d : α} (h : n < l.length) : l.getD n d ∈ l := by
  rw [List.getD_eq_getElem?_getD, List.getElem?_eq_getElem h]
  exact List.getElem_mem h
theorem okW.at {w : WN} (ok : okW w) (n : Nat) : okS (w.at n) := by
  unfold WN.at
  split
  · rename_i h
    exact ok.h _ (getD_mem h)
  · exact ok.t _ (getD_mem (Nat.mod_lt _ ok.tpos))
def WN.turn (w : WN) (s : Int) (n : Nat) : Int := if s / (w.at n).1 - (w.at n).2 > 0 then s / (w.at n).1 - (w.at n).2 else 0
def WN.ask (w : WN) (s : Int) : Int := if s = 0 then 0 else if s + w.lift < w.cap then s + w.lift else w.cap
theorem WaneAt.ok {H : Hp} {a : Addr} {w : WN} (h : WaneAt K H a w) : okW w := let ⟨_, _, _, _, _, _, ok⟩ := h; ok
theorem Txt.insW (T : Txt K mg) : insB K (cW K) = true := by
  have e := T.ex 0 (f := kitAll) rfl
  simp only [kitAll, Bool.and_eq_true] at e
  exact e.2
theorem knw_wane (T : Txt K mg) {H : Hp} {a : Addr} {w : WN} (h : WaneAt K H a w) : TyX K H (.ref a) (.ref (cW K)) := by
  obtain ⟨dx, h, t, e, _⟩ := h
  have i := T.insW
  unfold insB at i
  simp only [Bool.and_eq_true, decide_eq_true_eq] at i
  exact .base (.ins e T.cl_Wane i.1 i.2.1 i.2.2.1 i.2.2.2)
def spCheck (K : PySem.W.Frag) : Sp := fun vs H Q _ => ∃ a w s least pl, vs = [.ref a, .int s, .int least, .int pl] ∧ WaneAt K H a w ∧ least ≤ s ∧ s ≤ w.cap ∧ Q .non H
theorem cal_check_part (T : Txt K mg) : C8.Cal P w K mg base 3 "check_part" (spCheck K) [] := by
  refine calD T.f_check_part T.g_check_part sc_check_part (fun fd F => F.bindsN fun _ _ _ _ _ _ us hl => match us, hl with | [_, _, _, _], _ => rfl) (fun vs H Q E h => by obtain ⟨_, _, _, _, _, rfl, _⟩ := h; rfl) fun cdv A outer s H vs Q E hr h => ?_
  refine ⟨_, (pss_cons (ps_if (pt_not (pt_val (pe_callB call_isi (by rfl) T.b_isinstance (by decide +kernel) (pa_cons (pv 0) (pa_cons (C8.pe_gc (v := .ref (He.ga K "Wane")) rfl ⟨_, T.g_Wane, rfl⟩) pa_nil))))) (pss_one ps_never) pss_nil) (pss_one (ps_if (pt_not (pt_val (C8.pe_c (cal_is_within T) hr (by decide) rfl (pa_cons (pv 1) (pa_cons (pv 2) (pa_cons (pe_fld (pv 0) rfl) pa_nil)))))) (pss_one ps_never) pss_nil))), ?_⟩
  obtain ⟨a, w, s, least, pl, rfl, hw, h1, h2, q⟩ := h
  obtain ⟨dx, h, t, e, _⟩ := id hw
  refine ⟨_, rfl, _, _, .ref (cW K), _, _, rfl, .own _, knw_wane T hw, T.kit (by simp [tys]) (by simp [cls]), _, rfl, ?_⟩
  rw [show isk (.ref (cW K)) (.ref (cW K)) = true by simp [isk]]
  refine iteF ⟨_, rfl, _, rfl, _, rfl, a, _, dx, _, _, rfl, e, T.cl_Wane, T.n_Wane_cap_at, wF_cap .., _, _, _, rfl, knw_int _, _, rfl, ?_⟩
  rw [wi_int h1 h2]
  exact iteF q
def spTurned (K : PySem.W.Frag) : Sp := fun vs H Q _ => ∃ a w s n, vs = [.ref a, .int s, .int (n : Nat)] ∧ WaneAt K H a w ∧ Q (.int (w.turn s n)) H
theorem cal_turned (T : Txt K mg) : C8.Cal P w K mg base 2 "turned" (spTurned K) [] := by
  refine calD T.f_turned T.g_turned sc_turned (fun fd F => F.bindsN fun _ _ _ _ _ _ us hl => match us, hl with | [_, _, _], _ => rfl) (fun vs H Q E h => by obtain ⟨_, _, _, _, rfl, _⟩ := h; rfl) fun cdv A outer s H vs Q E hr h => ?_
  refine ⟨_, (pss_cons (ps_asg (C8.pe_mt (met_Wane_coming T) hr (by decide) (pv 0) (pa_cons (pv 2) pa_nil)) (pg_tup rfl (pgs_cons (pg_name (i := 3) sc_turned.nd rfl (by first | exact Or.inl rfl | exact Or.inr rfl)) (pgs_cons (pg_name (i := 4) sc_turned.nd rfl (by first | exact Or.inl rfl | exact Or.inr rfl)) pgs_nil)))) (pss_one (ps_ret (pe_callB (call_max2 rfl) (by rfl) T.b_max (by decide +kernel) (pa_cons pe_int (pa_cons (pe_op op_sub (pe_op op_fdiv (pv 1) (pv 3)) (pv 4)) pa_nil)))))), ?_⟩
  obtain ⟨a, w, s, n, rfl, hw, q⟩ := h
  obtain ⟨dx, h, t, e, _, _, ok⟩ := id hw
  refine ⟨_, rfl, a, dx, _, rfl, e, by kernel_rfl, _, rfl, a, w, n, rfl, hw, fun v hv => ?_⟩
  obtain ⟨b, rfl, hb⟩ := hv
  obtain ⟨b1, b2, t1, t2⟩ := ok.at n
  refine ⟨b, _, rfl, SqT.of hb, rfl, _, _, rfl, _, _, rfl, rfl, ?_⟩
  refine ⟨_, rfl, _, rfl, _, _, rfl, rfl, ⟨b1, by omega⟩, _, rfl, _, _, rfl, rfl, _, _, rfl, ?_⟩
  exact q
def spAsked (K : PySem.W.Frag) : Sp := fun vs H Q _ => ∃ a w s, vs = [.ref a, .int s] ∧ WaneAt K H a w ∧ Q (.int (w.ask s)) H
theorem cal_asked (T : Txt K mg) : C8.Cal P w K mg base 1 "asked" (spAsked K) [] := by
  refine calD T.f_asked T.g_asked sc_asked (fun fd F => F.bindsN fun _ _ _ _ _ _ us hl => match us, hl with | [_, _], _ => rfl) (fun vs H Q E h => by obtain ⟨_, _, _, rfl, _⟩ := h; rfl) fun cdv A outer s H vs Q E hr h => ?_
  refine ⟨_, (pss_cons (ps_if (pt_cmpR op_eq (pv 1) pe_int (nomark _)) (pss_one (ps_ret pe_int)) pss_nil) (pss_one (ps_ret (pe_callB (call_min2 rfl) (by rfl) T.b_min (by decide +kernel) (pa_cons (pe_fld (pv 0) rfl) (pa_cons (pe_op op_add (pv 1) (pe_fld (pv 0) rfl)) pa_nil)))))), ?_⟩
  obtain ⟨a, w, s, rfl, hw, q⟩ := h
  obtain ⟨dx, h, t, e, _, _, ok⟩ := id hw
  unfold WN.ask at q
  refine ⟨_, rfl, rfl, _, rfl, ite2 (fun c => ?_) (fun c => ?_)⟩
  · have c : s = 0 := by simpa using c
    rw [if_pos c] at q
    exact q
  · have c : ¬ s = 0 := by simpa using c
    rw [if_neg c] at q
    refine ⟨_, rfl, a, _, dx, _, _, rfl, e, T.cl_Wane, T.n_Wane_cap_at, wF_cap .., _, rfl, _, rfl, a, _, dx, _, _, rfl, e, T.cl_Wane, T.n_Wane_lift_by, wF_lift .., _, _, rfl, rfl, _, _, rfl, ?_⟩
    exact q
/-- the since behind a sign: '.' or 'a' -/
def WN.nxt (w : WN) (dot : Bool) (n : Nat) : Nat := if dot then n + 1 else if w.anew then 0 else n
def sgn (dot : Bool) : Str := if dot then "." else "a"
theorem sgn_dot (b : Bool) : decide (V.str (sgn b) = V.str ".") = b := by cases b <;> decide +kernel
theorem sgn_a (b : Bool) : decide (V.str (sgn b) = V.str "a") = !b := by cases b <;> decide +kernel
def spWaned (K : PySem.W.Frag) : Sp := fun vs H Q _ => ∃ a w s n, vs = [.ref a, .int s, .int (n : Nat)] ∧ WaneAt K H a w ∧ 0 ≤ s ∧ s ≤ w.cap ∧ (n : Int) ≤ 1000000000000000000000000000000 ∧ Q (.int (w.turn s n)) H
theorem cal_waned (T : Txt K mg) : C8.Cal P w K mg base 4 "waned" (spWaned K) [] := by
  refine calD T.f_waned T.g_waned sc_waned (fun fd F => F.bindsN fun _ _ _ _ _ _ us hl => match us, hl with | [_, _, _], _ => rfl) (fun vs H Q E h => by obtain ⟨_, _, _, _, rfl, _⟩ := h; rfl) fun cdv A outer s H vs Q E hr h => ?_
  refine ⟨_, (pss_cons (ps_expr (C8.pe_c (cal_check_part T) hr (by decide) rfl (pa_cons (pv 0) (pa_cons (pv 1) (pa_cons pe_int (pa_cons pe_int pa_nil)))))) (pss_cons (ps_if (pt_not (pt_val (C8.pe_c (cal_is_moment T) hr (by decide) rfl (pa_cons (pv 2) pa_nil)))) (pss_one ps_never) pss_nil) (pss_one (ps_ret (C8.pe_c (cal_turned T) hr (by decide) rfl (pa_cons (pv 0) (pa_cons (pv 1) (pa_cons (pv 2) pa_nil)))))))), ?_⟩
  obtain ⟨a, w, s, n, rfl, hw, h1, h2, h3, q⟩ := h
  refine ⟨_, rfl, _, rfl, a, w, s, _, _, rfl, hw, h1, h2, _, rfl, _, rfl, knw_int _, _, rfl, ?_⟩
  rw [wi_int (by omega) h3]
  exact iteF ⟨_, rfl, _, rfl, _, rfl, a, w, s, n, rfl, hw, q⟩
def spLifted (K : PySem.W.Frag) : Sp := fun vs H Q _ => ∃ a w s, vs = [.ref a, .int s] ∧ WaneAt K H a w ∧ 0 ≤ s ∧ s ≤ w.cap ∧ Q (.int (w.ask s)) H
theorem cal_lifted (T : Txt K mg) : C8.Cal P w K mg base 4 "lifted" (spLifted K) [] := by
  refine calD T.f_lifted T.g_lifted sc_lifted (fun fd F => F.bindsN fun _ _ _ _ _ _ us hl => match us, hl with | [_, _], _ => rfl) (fun vs H Q E h => by obtain ⟨_, _, _, rfl, _⟩ := h; rfl) fun cdv A outer s H vs Q E hr h => ?_
  refine ⟨_, (pss_cons (ps_expr (C8.pe_c (cal_check_part T) hr (by decide) rfl (pa_cons (pv 0) (pa_cons (pv 1) (pa_cons pe_int (pa_cons pe_int pa_nil)))))) (pss_one (ps_ret (C8.pe_c (cal_asked T) hr (by decide) rfl (pa_cons (pv 0) (pa_cons (pv 1) pa_nil)))))), ?_⟩
  obtain ⟨a, w, s, rfl, hw, h1, h2, q⟩ := h
  exact ⟨_, rfl, _, rfl, a, w, s, _, _, rfl, hw, h1, h2, _, rfl, _, rfl, a, w, s, rfl, hw, q⟩
/-- a state: none, or a strength and a phase -/
abbrev Stt := Option (Int × Nat)
def SttV (H : Hp) (v : V) : Stt → Prop
  | none => v = .non
  | some p => ∃ b, v = .ref b ∧ H b = some (.tup [.int p.1, .int (p.2 : Nat)])
theorem SttV.mono {H H' : Hp} (s : Same H H') {v : V} : ∀ {st : Stt}, SttV H v st → SttV H' v st
  | none, h => h
  | some p, ⟨b, e, h⟩ => ⟨b, e, s _ _ h⟩
def WN.led (w : WN) (dot : Bool) : Stt → Stt
  | none => none
  | some (s, n) => if dot then (if w.turn s n = 0 then none else some (w.turn s n, w.phase (n + 1))) else some (w.ask s, if w.anew then 0 else n)
def okSt (w : WN) : Stt → Prop
  | none => True
  | some (s, n) => 1 ≤ s ∧ s ≤ w.cap ∧ n < w.head.length + w.tail.length
def spLed (K : PySem.W.Frag) : Sp := fun vs H Q _ => ∃ a w v st b, vs = [.ref a, v, .str (sgn b)] ∧ WaneAt K H a w ∧ SttV H v st ∧ okSt w st ∧ ∀ v' H', Same H H' → SttV H' v' (w.led b st) → Q v' H'
theorem cal_led (T : Txt K mg) : C8.Cal P w K mg base 5 "led" (spLed K) [] := by
  refine calD T.f_led T.g_led sc_led (fun fd F => F.bindsN fun _ _ _ _ _ _ us hl => match us, hl with | [_, _, _], _ => rfl) (fun vs H Q E h => by obtain ⟨_, _, _, _, _, rfl, _⟩ := h; rfl) fun cdv A outer s H vs Q E hr h => ?_
  refine ⟨_, (pss_cons (ps_if (pt_cmpR op_isN (pv 1) pe_non (nomark _)) (pss_one (ps_ret pe_non)) pss_nil) (pss_cons (ps_asg (pv 1) (pg_tup rfl (pgs_cons (pg_name (i := 3) sc_led.nd rfl (by first | exact Or.inl rfl | exact Or.inr rfl)) (pgs_cons (pg_name (i := 4) sc_led.nd rfl (by first | exact Or.inl rfl | exact Or.inr rfl)) pgs_nil)))) (pss_cons (ps_if (pt_cmpR op_eq (pv 2) pe_str (nomark _)) (pss_cons (ps_if (pt_val (C8.pe_mt0 (met_Wane_is_anew T) hr (by decide) (pv 0))) (pss_one (ps_set (i := 4) sc_led.nd rfl (by first | exact Or.inl rfl | exact Or.inr rfl) pe_int)) pss_nil) (pss_one (ps_ret (pe_tup (pa_cons (C8.pe_c (cal_lifted T) hr (by decide) rfl (pa_cons (pv 0) (pa_cons (pv 3) pa_nil))) (pa_cons (pv 4) pa_nil)))))) pss_nil) (pss_cons (ps_set (i := 3) sc_led.nd rfl (by first | exact Or.inl rfl | exact Or.inr rfl) (C8.pe_c (cal_waned T) hr (by decide) rfl (pa_cons (pv 0) (pa_cons (pv 3) (pa_cons (pv 4) pa_nil))))) (pss_cons (ps_if (pt_cmpR op_eq (pv 3) pe_int (nomark _)) (pss_one (ps_ret pe_non)) pss_nil) (pss_one (ps_ret (pe_tup (pa_cons (pv 3) (pa_cons (C8.pe_mt (met_Wane_phase T) hr (by decide) (pv 0) (pa_cons (pe_op op_add (pv 4) pe_int) pa_nil)) pa_nil)))))))))), ?_⟩
  obtain ⟨a, w, v, st, b, rfl, hw, hv, hs, q⟩ := h
  obtain ⟨dx, h, t, e, _, _, ok⟩ := id hw
  cases st with
  | none =>
    have hv : v = .non := hv
    subst hv
    refine ⟨_, rfl, rfl, _, rfl, iteT ?_⟩
    exact q _ _ (Same.refl _) rfl
  | some p =>
    obtain ⟨s, n⟩ := p
    obtain ⟨c, rfl, hc⟩ := hv
    obtain ⟨s1, s2, n1⟩ := hs
    have b1 := ok.hl
    have b2 := (tails_le ok.tl).2
    refine ⟨_, rfl, rfl, _, rfl, iteF ?_⟩
    refine ⟨_, rfl, c, _, rfl, SqT.of hc, rfl, _, _, rfl, _, _, rfl, rfl, ?_⟩
    refine ⟨_, rfl, rfl, _, rfl, ?_⟩
    rw [sgn_a]
    cases b with
    | true =>
      refine iteF ⟨_, rfl, _, rfl, _, rfl, a, w, s, n, rfl, hw, by omega, s2, by omega, ?_⟩
      refine ⟨_, rfl, rfl, _, rfl, ite2 (fun z => ?_) (fun z => ?_)⟩
      · have z : w.turn s n = 0 := by simpa using z
        refine q _ _ (Same.refl _) ?_
        show SttV H V.non (if w.turn s n = 0 then none else some (w.turn s n, w.phase (n + 1)))
        rw [if_pos z]; rfl
      · have z : ¬ w.turn s n = 0 := by simpa using z
        refine ⟨_, rfl, _, rfl, a, dx, _, rfl, e, by kernel_rfl, _, rfl, _, _, rfl, rfl, a, w, n + 1, rfl, hw, by omega, ?_⟩
        refine ⟨by show 2 ≤ sizeLine; decide, fun p np => q _ _ (same_new np) ?_⟩
        show SttV _ _ (if w.turn s n = 0 then none else some (w.turn s n, w.phase (n + 1)))
        rw [if_neg z]
        exact ⟨p, rfl, upd_same⟩
    | false =>
      refine iteT ⟨_, rfl, a, dx, _, rfl, e, by kernel_rfl, a, w, rfl, hw, _, rfl, ?_⟩
      cases ea : w.anew with
      | true =>
        refine iteT ⟨_, rfl, _, rfl, a, w, s, rfl, hw, by omega, s2, _, rfl, by show 2 ≤ sizeLine; decide, fun p np => q _ _ (same_new np) ⟨p, rfl, ?_⟩⟩
        rw [upd_same, ea]; rfl
      | false =>
        refine iteF ⟨_, rfl, _, rfl, a, w, s, rfl, hw, by omega, s2, _, rfl, by show 2 ≤ sizeLine; decide, fun p np => q _ _ (same_new np) ⟨p, rfl, ?_⟩⟩
        rw [upd_same, ea]; rfl
end
end WH

set_option maxHeartbeats 4000000
namespace WH
open PySem PySem.Spec PyProof.Rows L2
/-! ### the search by width -/
def code (b : Bool) : Nat := if b then 46 else 97
def rowS (l : List Bool) : Str := SX.S (l.map code)
theorem rowS_len (l : List Bool) : (rowS l).length = l.length := by rw [rowS, SX.S_len, List.length_map]
theorem rowS_app (l m : List Bool) : rowS l ++ rowS m = rowS (l ++ m) := by rw [rowS, rowS, rowS, SX.S_cat, List.map_append]
theorem sgn_row (b : Bool) : sgn b = rowS [b] := by cases b <;> decide +kernel
abbrev Row := List Bool × (Stt × Stt)
def stp (w1 w2 : WN) (r : Row) (b : Bool) : Row := (r.1 ++ [b], (w1.led b r.2.1, w2.led b r.2.2))
def addR (rows : List Row) (q : Row) : List Row := if q.2 ∈ rows.map (·.2) then rows else rows ++ [q]
def run (w1 w2 : WN) (s f : Int) : Nat → List Row
  | 0 => [([], (some (s, 0), some (f, 0)))]
  | k + 1 => match (run w1 w2 s f k)[k]? with
    | some r => addR (addR (run w1 w2 s f k) (stp w1 w2 r true)) (stp w1 w2 r false)
    | none => run w1 w2 s f k
def parts (p : Stt × Stt) : Bool := p.1.isNone != p.2.isNone
theorem at_nn {w : WN} (ok : okW w) (n : Nat) : 0 ≤ (w.at n).2 := (ok.at n).2.2.1
theorem turn_le {w : WN} (ok : okW w) {s : Int} (h : 0 ≤ s) (n : Nat) : w.turn s n ≤ s ∧ 0 ≤ w.turn s n := by
  unfold WN.turn
  obtain ⟨b1, _, t1, _⟩ := ok.at n
  have := Int.ediv_le_self (w.at n).1 h
  split <;> omega
theorem ask_ok {w : WN} (ok : okW w) {s : Int} (h1 : 1 ≤ s) (h2 : s ≤ w.cap) : 1 ≤ w.ask s ∧ w.ask s ≤ w.cap := by
  unfold WN.ask
  have := ok.l1
  have := ok.c1
  rw [if_neg (by omega)]
  split <;> omega
theorem phase_lt {w : WN} (ok : okW w) (n : Nat) : w.phase n < w.head.length + w.tail.length := by
  unfold WN.phase
  have := ok.tpos
  split
  · assumption
  · have := Nat.mod_lt (n - w.head.length) this
    omega
theorem led_ok {w : WN} (ok : okW w) (b : Bool) : ∀ {st : Stt}, okSt w st → okSt w (w.led b st)
  | none, _ => trivial
  | some (s, n), ⟨h1, h2, h3⟩ => by
    have tp := ok.tpos
    cases b with
    | true =>
      show okSt w (if w.turn s n = 0 then none else some (w.turn s n, w.phase (n + 1)))
      have := turn_le ok (show 0 ≤ s by omega) n
      split
      · trivial
      · exact ⟨by omega, by omega, phase_lt ok _⟩
    | false =>
      have := ask_ok ok h1 h2
      refine ⟨this.1, this.2, ?_⟩
      show (if w.anew then 0 else n) < _
      split <;> omega
structure okRow (w1 w2 : WN) (k : Nat) (r : Row) : Prop where
  a : okSt w1 r.2.1
  b : okSt w2 r.2.2
  l : r.1.length ≤ k
theorem mem_addR {rows : List Row} {q r : Row} (h : r ∈ addR rows q) : r ∈ rows ∨ r = q := by
  unfold addR at h
  split at h
  · exact .inl h
  · rcases List.mem_append.mp h with h | h
    · exact .inl h
    · exact .inr (List.mem_singleton.mp h)
theorem stp_ok {w1 w2 : WN} (o1 : okW w1) (o2 : okW w2) {k : Nat} {r : Row} (h : okRow w1 w2 k r) (b : Bool) : okRow w1 w2 (k + 1) (stp w1 w2 r b) :=
  ⟨led_ok o1 b h.a, led_ok o2 b h.b, by show (r.1 ++ [b]).length ≤ _; rw [List.length_append, List.length_singleton]; exact Nat.succ_le_succ h.l⟩
theorem run_ok {w1 w2 : WN} (o1 : okW w1) (o2 : okW w2) {s f : Int} (h1 : okSt w1 (some (s, 0))) (h2 : okSt w2 (some (f, 0))) : ∀ k, ∀ r ∈ run w1 w2 s f k, okRow w1 w2 k r
  | 0, r, h => by
    rw [List.mem_singleton.mp h]
    exact ⟨h1, h2, Nat.le_refl _⟩
  | k + 1, r, h => by
    have ih := run_ok o1 o2 h1 h2 k
    unfold run at h
    split at h
    · rename_i q hq
      have oq := ih q (List.mem_of_getElem? hq)
      rcases mem_addR h with h | h
      · rcases mem_addR h with h | h
        · obtain ⟨a, b, l⟩ := ih r h
          exact ⟨a, b, Nat.le_succ_of_le l⟩
        · rw [h]; exact stp_ok o1 o2 oq true
      · rw [h]; exact stp_ok o1 o2 oq false
    · obtain ⟨a, b, l⟩ := ih r h
      exact ⟨a, b, Nat.le_succ_of_le l⟩
theorem addR_len (rows : List Row) (q : Row) : rows.length ≤ (addR rows q).length ∧ (addR rows q).length ≤ rows.length + 1 := by
  unfold addR
  split
  · exact ⟨Nat.le_refl _, Nat.le_succ _⟩
  · rw [List.length_append, List.length_singleton]; exact ⟨Nat.le_succ _, Nat.le_refl _⟩
theorem run_len (w1 w2 : WN) (s f : Int) : ∀ k, (run w1 w2 s f k).length ≤ 2 * k + 1
  | 0 => Nat.le_refl _
  | k + 1 => by
    have ih := run_len w1 w2 s f k
    unfold run
    split
    · have a := addR_len (run w1 w2 s f k)
      rename_i r _
      have b := addR_len (addR (run w1 w2 s f k) (stp w1 w2 r true)) (stp w1 w2 r false)
      have c := addR_len (run w1 w2 s f k) (stp w1 w2 r true)
      omega
    · omega
/-- all pairs ahead of place k stand in the rows there, and none parts -/
def Clean (w1 w2 : WN) (s f : Int) (k : Nat) : Prop := ∀ j, j < k → ∃ r, (run w1 w2 s f j)[j]? = some r ∧ parts r.2 = false
/-! ### over the heap -/
def Tup (H H' : Hp) : Prop := ∀ a vs, H a = some (.tup vs) → H' a = some (.tup vs)
theorem Tup.of {H H' : Hp} (s : Same H H') : Tup H H' := fun a vs h => s a _ h
theorem Tup.trans {H H1 H2 : Hp} (a : Tup H H1) (b : Tup H1 H2) : Tup H H2 := fun c vs h => b c vs (a c vs h)
theorem Tup.upd {H : Hp} {a : Addr} {o : HO} (h : ∀ vs, H a ≠ some (.tup vs)) : Tup H (upd H a o) := fun b vs e => by
  rw [upd_ne (fun z => h vs (by rw [← z]; exact e))]
  exact e
theorem SttV.tup {H H' : Hp} (s : Tup H H') {v : V} : ∀ {st : Stt}, SttV H v st → SttV H' v st
  | none, h => h
  | some p, ⟨b, e, h⟩ => ⟨b, e, s _ _ h⟩
def RowV (H : Hp) (v : V) (r : Row) : Prop := ∃ a v1 v2, v = .ref a ∧ H a = some (.tup [.str (rowS r.1), v1, v2]) ∧ SttV H v1 r.2.1 ∧ SttV H v2 r.2.2
theorem RowV.tup {H H' : Hp} (s : Tup H H') {v : V} {r : Row} : RowV H v r → RowV H' v r := fun ⟨a, v1, v2, e, h, h1, h2⟩ => ⟨a, v1, v2, e, s _ _ h, h1.tup s, h2.tup s⟩
def stK : Stt → NestedKey
  | none => .none
  | some p => .tup [.num p.1, .num (p.2 : Nat)]
def pairK (p : Stt × Stt) : NestedKey := .tup [stK p.1, stK p.2]
theorem stK_inj : ∀ {a b : Stt}, stK a = stK b → a = b
  | none, none, _ => rfl
  | none, some _, h => by simp [stK] at h
  | some _, none, h => by simp [stK] at h
  | some (x, n), some (y, m), h => by
    simp only [stK, NestedKey.tup.injEq, List.cons.injEq, NestedKey.num.injEq] at h
    have : n = m := by omega
    rw [h.1, this]
theorem pairK_inj {p q : Stt × Stt} (h : pairK p = pairK q) : p = q := by
  simp only [pairK, NestedKey.tup.injEq, List.cons.injEq] at h
  exact Prod.ext (stK_inj h.1) (stK_inj h.2.1)
theorem stK_nk {H : Hp} {v : V} : ∀ {st : Stt}, SttV H v st → ND.NK H (stK st) v
  | none, h => by rw [stK, ND.NK]; exact h
  | some (s, n), ⟨b, e, h⟩ => by
    rw [stK, ND.NK]
    refine ⟨b, _, e, h, ?_⟩
    rw [ND.NKs]
    refine ⟨_, _, rfl, by rw [ND.NK], ?_⟩
    rw [ND.NKs]
    exact ⟨_, _, rfl, by rw [ND.NK], by rw [ND.NKs]⟩
theorem pairK_nk {H : Hp} {p : Addr} {v1 v2 : V} {q : Stt × Stt} (h : H p = some (.tup [v1, v2])) (h1 : SttV H v1 q.1) (h2 : SttV H v2 q.2) : ND.NK H (pairK q) (.ref p) := by
  rw [pairK, ND.NK]
  refine ⟨p, _, rfl, h, ?_⟩
  rw [ND.NKs]
  refine ⟨_, _, rfl, stK_nk h1, ?_⟩
  rw [ND.NKs]
  exact ⟨_, _, rfl, stK_nk h2, by rw [ND.NKs]⟩
theorem pairK_depth (q : Stt × Stt) : (pairK q).depth ≤ 8 := by
  obtain ⟨a, b⟩ := q
  cases a <;> cases b <;> simp [pairK, stK, NestedKey.depth, NestedKey.depthAll]
/-- the rows and what is known of them, behind what stood at H0 -/
structure AI (P : Program) (w : World) (H0 H : Hp) (lr dk : Addr) (rs : List Row) : Prop where
  same : Same H0 H
  n1 : H0 lr = none
  n2 : H0 dk = none
  ne : lr ≠ dk
  rows : ∃ vs, H lr = some (.lst vs) ∧ Paired (RowV H) vs rs
  keys : ∃ xs, H dk = some (ND.ndO P w dk xs) ∧ ND.Keys H xs ∧ xs.map (·.1) = rs.map fun r => pairK r.2
theorem getN_mem {xs : List ND.Ent} {rows : List Row} (e : xs.map (·.1) = rows.map fun r => pairK r.2) (q : Stt × Stt) : (ND.getN xs (pairK q)).isSome = decide (q ∈ rows.map (·.2)) := by
  by_cases h : q ∈ rows.map (·.2)
  · rw [decide_eq_true h]
    cases e1 : ND.getN xs (pairK q) with
    | some _ => rfl
    | none =>
      obtain ⟨r, hr, e2⟩ := List.mem_map.mp h
      have : pairK q ∈ xs.map (·.1) := by rw [e, ← e2]; exact List.mem_map_of_mem (f := fun r : Row => pairK r.2) hr
      obtain ⟨x, hx, e3⟩ := List.mem_map.mp this
      exact absurd e3 (ND.getN_none.mp e1 x hx)
  · rw [decide_eq_false h]
    have : ND.getN xs (pairK q) = none := by
      rw [ND.getN_none]
      intro x hx e3
      have : pairK q ∈ rows.map fun r => pairK r.2 := by rw [← e, ← e3]; exact List.mem_map_of_mem hx
      obtain ⟨r, hr, e4⟩ := List.mem_map.mp this
      exact h (List.mem_map.mpr ⟨r, hr, pairK_inj e4⟩)
    rw [this]; rfl
theorem AI.tup {P : Program} {w : World} {H0 H H' : Hp} {lr dk : Addr} {rows : List Row} (a : AI P w H0 H lr dk rows) (s : Same H H') : AI P w H0 H' lr dk rows := by
  obtain ⟨h1, h2, h3, h4, ⟨vs, h5, h6⟩, ⟨xs, h7, h8, h9⟩⟩ := a
  exact ⟨h1.trans s, h2, h3, h4, ⟨vs, s _ _ h5, Paired.mapP h6 fun _ _ => RowV.tup (Tup.of s)⟩, ⟨xs, s _ _ h7, h8.mono (Tup.of s), h9⟩⟩
section
variable {P : Program} {w : World} {K : PySem.W.Frag} {mg : Str → Option Value} {base : Heap}
theorem exc_TooMany (T : Txt K mg) : ∃ fd, FnOk P w K mg base C8.CX0 1 (He.ma K (He.ga K "TooMany") "__init__") fd ["self", "most"] (EX.spX (He.ga K "TooMany") "most") ∧ Binds K fd ["self", "most"] [] := by
  obtain ⟨fd, F⟩ := T.f_TooMany___init__
  refine ⟨fd, F.ok sc_TooMany___init__ (fun vs H Q E h => by obtain ⟨_, _, rfl, _⟩ := h; rfl) (fun cdv A outer s H vs Q E hr h => ?_), F.bindsN fun _ _ _ _ _ _ us hl => match us, hl with | [_, _], _ => rfl⟩
  obtain ⟨a, v, rfl, ha, q⟩ := h
  refine ⟨_, PSs.nox ((pss_cons (ps_expr (EX.pe_binit (by rfl) T.g_WaneError T.bin (pa_cons (pv 0) (pa_cons pe_str pa_nil)))) (pss_one (ps_ost (pv 0) (pv 1))))), ?_⟩
  refine ⟨_, rfl, a, He.ga K "TooMany", _, rfl, by show 1 ≤ 1000; decide, T.x_TooMany, ha, ?_⟩
  exact ⟨_, rfl, _, rfl, a, He.ga K "TooMany", rfl, T.x_TooMany, T.n_TooMany_most, .inl ⟨ha, fun dx nd ne => q dx nd ne⟩⟩
end
end WH

set_option maxHeartbeats 4000000
namespace WH
open PySem PySem.Spec PyProof.Rows L2
section
variable {P : Program} {w : World} {K : PySem.W.Frag} {mg : Str → Option Value} {base : Heap}
def spNeed (K : PySem.W.Frag) : Sp := fun vs H Q _ => ∃ a1 w1 s a2 w2 f m, vs = [.ref a1, .int s, .ref a2, .int f, .int m] ∧ WaneAt K H a1 w1 ∧ WaneAt K H a2 w2 ∧ 1 ≤ s ∧ s ≤ w1.cap ∧ 1 ≤ f ∧ f ≤ w2.cap ∧ 1 ≤ m ∧ m ≤ 400 ∧ ∀ H', Same H H' → Q .non H'
theorem cal_need_asked (T : Txt K mg) : C8.Cal P w K mg base 4 "need_asked" (spNeed K) [] := by
  refine calD T.f_need_asked T.g_need_asked sc_need_asked (fun fd F => F.bindsN fun _ _ _ _ _ _ us hl => match us, hl with | [_, _, _, _, _], _ => rfl) (fun vs H Q E h => by obtain ⟨_, _, _, _, _, _, _, rfl, _⟩ := h; rfl) fun cdv A outer s H vs Q E hr h => ?_
  refine ⟨_, (pss_cons (ps_for PassesOwn.never rfl (pi_list (pe_lst (pa_cons (pe_tup (pa_cons pe_int (pa_cons (pv 0) (pa_cons (pv 1) pa_nil)))) (pa_cons (pe_tup (pa_cons pe_int (pa_cons (pv 2) (pa_cons (pv 3) pa_nil)))) pa_nil)))) (pg_tup rfl (pgs_cons (pg_name (i := 5) sc_need_asked.nd rfl (by first | exact Or.inl rfl | exact Or.inr rfl)) (pgs_cons (pg_name (i := 6) sc_need_asked.nd rfl (by first | exact Or.inl rfl | exact Or.inr rfl)) (pgs_cons (pg_name (i := 7) sc_need_asked.nd rfl (by first | exact Or.inl rfl | exact Or.inr rfl)) pgs_nil)))) (pss_cons (ps_if (pt_not (pt_val (pe_callB call_isi (by rfl) T.b_isinstance (by decide +kernel) (pa_cons (pv 6) (pa_cons (C8.pe_gc (v := .ref (He.ga K "Wane")) rfl ⟨_, T.g_Wane, rfl⟩) pa_nil))))) (pss_one ps_never) pss_nil) (pss_one (ps_if (PW.pt (pw_or (pt_not (pt_val (C8.pe_c (cal_is_strength T) hr (by decide) rfl (pa_cons (pv 7) pa_nil)))) (pw_or1 (pt_cmpR op_gt (pv 7) (C8.pe_mt0 (met_Wane_cap T) hr (by decide) (pv 6)) (nomark _))))) (pss_one ps_never) pss_nil)))) (pss_one (ps_if (PW.pt (pw_or (pt_not (pt_val (C8.pe_c (cal_is_whole T) hr (by decide) rfl (pa_cons (pv 4) pa_nil)))) (pw_or1 (pt_not (pt_chain op_le op_le pe_int (pv 4) (C8.pe_gc rfl T.c_MOST_PAIRS)))))) (pss_one ps_never) pss_nil))), ?_⟩
  obtain ⟨a1, w1, s, a2, w2, f, m, rfl, hw1, hw2, s1, s2, f1, f2, m1, m2, q⟩ := h
  have c1 := hw1.ok.c2
  have c2 := hw2.ok.c2
  refine ⟨_, rfl, _, rfl, by show 3 ≤ sizeLine; decide, fun t1 n1 => ?_⟩
  refine ⟨_, rfl, _, rfl, by show 3 ≤ sizeLine; decide, fun t2 n2 => ?_⟩
  refine ⟨by show 2 ≤ sizeLine; decide, fun l nl => ⟨l, rfl, ⟨_, SqL.of upd_same⟩, ?_⟩⟩
  have S0 : Same H (upd (upd (upd H t1 (.tup [.int 0, .ref a1, .int s])) t2 (.tup [.int 2, .ref a2, .int f])) l (.lst [.ref t1, .ref t2])) := ((same_new n1).trans (same_new n2)).trans (same_new nl)
  generalize hG : upd (upd (upd H t1 (.tup [.int 0, .ref a1, .int s])) t2 (.tup [.int 2, .ref a2, .int f])) l (.lst [.ref t1, .ref t2]) = G at S0 ⊢
  have g1 : G t1 = some (.tup [.int 0, .ref a1, .int s]) := by rw [← hG]; exact same_new nl _ _ (same_new n2 _ _ upd_same)
  have g2 : G t2 = some (.tup [.int 2, .ref a2, .int f]) := by rw [← hG]; exact same_new nl _ _ upd_same
  have g3 : G l = some (.lst [.ref t1, .ref t2]) := by rw [← hG]; exact upd_same
  refine for_list (K := K) (a := l) (xs := [.ref t1, .ref t2]) (fun i σ H' => H' = G ∧ ∃ o5 o6 o7, σ = [some (.ref a1), some (.int s), some (.ref a2), some (.int f), some (.int m), o5, o6, o7]) ⟨rfl, _, _, _, rfl⟩ (fun i σ H' _ p => by rw [p.1]; exact SqL.of g3) ?_ ?_
  · rintro i x σ H' hi ⟨rfl, o5, o6, o7, rfl⟩
    have key : ∃ t pl a w n, x = .ref t ∧ H' t = some (.tup [.int pl, .ref a, .int n]) ∧ WaneAt K H' a w ∧ 1 ≤ n ∧ n ≤ w.cap := by
      match i, hi with
      | 0, hi => exact ⟨t1, 0, a1, w1, s, by simpa using hi.symm, g1, hw1.mono S0, s1, s2⟩
      | 1, hi => exact ⟨t2, 2, a2, w2, f, by simpa using hi.symm, g2, hw2.mono S0, f1, f2⟩
      | n + 2, hi => simp at hi
    obtain ⟨t, pl, a, w, n, rfl, ht, hw, k1, k2⟩ := key
    have c := hw.ok.c2
    obtain ⟨dx, h, t', e, _⟩ := id hw
    refine ⟨t, _, rfl, SqT.of ht, rfl, _, _, rfl, _, _, rfl, _, _, rfl, rfl, ?_⟩
    refine ⟨_, rfl, _, _, .ref (cW K), _, _, rfl, .own _, knw_wane T hw, T.kit (by simp [tys]) (by simp [cls]), _, rfl, ?_⟩
    rw [show isk (.ref (cW K)) (.ref (cW K)) = true by simp [isk]]
    refine iteF ⟨_, rfl, _, rfl, knw_int _, _, rfl, ?_⟩
    rw [wi_int k1 (by omega)]
    refine iteF ⟨_, rfl, _, rfl, a, dx, _, rfl, e, by kernel_rfl, a, w, rfl, hw, _, _, rfl, rfl, _, rfl, ?_⟩
    rw [show decide (w.cap < n) = false from decide_eq_false (by omega)]
    exact iteF ⟨rfl, _, _, _, rfl⟩
  · rintro σ H' ⟨rfl, o5, o6, o7, rfl⟩
    refine ⟨_, rfl, _, rfl, knw_int _, _, rfl, iteF ?_⟩
    refine ⟨_, rfl, _, _, rfl, rfl, _, rfl, ?_⟩
    rw [show decide ((1 : Int) ≤ m) = true from decide_eq_true m1]
    refine iteT ⟨_, _, rfl, rfl, _, rfl, ?_⟩
    rw [show decide (m ≤ (400 : Int)) = true from decide_eq_true m2]
    exact iteF (q _ S0)
/-- strength and since behind a row -/
def stepA (w : WN) (p : Int × Nat) (b : Bool) : Int × Nat := (if b then w.turn p.1 p.2 else w.ask p.1, w.nxt b p.2)
def stA (w : WN) (p : Int × Nat) (l : List Bool) : Int × Nat := l.foldl (stepA w) p
def PairV (H : Hp) (v : V) (x : Int × Nat) : Prop := ∃ b, v = .ref b ∧ H b = some (.tup [.int x.1, .int (x.2 : Nat)])
theorem PairV.tup {H H' : Hp} (s : Tup H H') {v : V} {x : Int × Nat} : PairV H v x → PairV H' v x := fun ⟨b, e, h⟩ => ⟨b, e, s _ _ h⟩
def alongS (w : WN) (p : Int × Nat) (l : List Bool) (k : Nat) : List (Int × Nat) := (List.range k).map fun j => stA w p (l.take j)
theorem take_snoc {α : Type} {l : List α} {i : Nat} {b : α} (h : l[i]? = some b) : l.take (i + 1) = l.take i ++ [b] := by
  rw [List.take_add_one, h]; rfl
theorem paired_snoc {α β : Type} {F : α → β → Prop} {a : List α} {b : List β} {x : α} {y : β} (p : Paired F a b) (r : F x y) : Paired F (a ++ [x]) (b ++ [y]) := ND.paired_app p (.cons r .nil)
end
end WH

set_option maxHeartbeats 4000000
namespace WH
open PySem PySem.Spec PyProof.Rows L2
section
variable {P : Program} {w : World} {K : PySem.W.Frag} {mg : Str → Option Value} {base : Heap}
abbrev cTM (K : PySem.W.Frag) : Addr := He.ga K "TooMany"
def spAlike (K : PySem.W.Frag) : Sp := fun vs H Q E => ∃ a1 w1 s a2 w2 f m, vs = [.ref a1, .int s, .ref a2, .int f, .int (m : Nat)] ∧ WaneAt K H a1 w1 ∧ WaneAt K H a2 w2 ∧ 1 ≤ s ∧ s ≤ w1.cap ∧ 1 ≤ f ∧ f ≤ w2.cap ∧ 1 ≤ m ∧ m ≤ 400 ∧
  (∀ k row p H' t, k < m → Clean w1 w2 s f k → (run w1 w2 s f k)[k]? = some (row, p) → parts p = true → Same H H' → H' t = some (.tup [.str "parted", .str (rowS row)]) → Q (.ref t) H') ∧
  (∀ k H' t l vs, Clean w1 w2 s f k → k = (run w1 w2 s f k).length → k ≤ m → Same H H' → H l = none → H' t = some (.tup [.str "alike", .ref l]) → H' l = some (.lst vs) → Paired (RowV H') vs (run w1 w2 s f k) → Q (.ref t) H') ∧
  (∀ d H', Clean w1 w2 s f m → m < (run w1 w2 s f m).length → Same H H' → H' d = some (.xd [("most", .int (m : Nat))]) → E (.ref (cTM K)) (some d) H')
def Ri (R : List Row) (w1 w2 : WN) (r : Row) : Nat → List Row
  | 0 => R
  | 1 => addR R (stp w1 w2 r true)
  | _ => addR (addR R (stp w1 w2 r true)) (stp w1 w2 r false)
theorem sttV_non {H : Hp} {v : V} : ∀ {st : Stt}, SttV H v st → decide (v = .non) = st.isNone
  | none, h => by have h : v = .non := h; subst h; rfl
  | some p, ⟨b, e, h⟩ => by subst e; rfl
theorem paired_at {α β : Type} {F : α → β → Prop} : ∀ {xs : List α} {ys : List β} {i : Nat} {y : β}, Paired F xs ys → ys[i]? = some y → ∃ x, xs[i]? = some x ∧ F x y
  | _, _, _, _, .nil, e => by simp at e
  | _, _, 0, _, .cons r _, e => by simp at e; subst e; exact ⟨_, rfl, r⟩
  | _, _, i + 1, x, .cons _ t, e => by
    obtain ⟨u, h1, h2⟩ := paired_at (i := i) (y := x) t (by simpa using e)
    exact ⟨u, by simpa using h1, h2⟩
theorem parts_eq {H : Hp} {v1 v2 : V} {q : Stt × Stt} (h1 : SttV H v1 q.1) (h2 : SttV H v2 q.2) : (!decide (V.bl (decide (v1 = .non)) = V.bl (decide (v2 = .non)))) = parts q := by
  rw [sttV_non h1, sttV_non h2, parts]
  cases q.1.isNone <;> cases q.2.isNone <;> rfl
/-- the new row stands -/
theorem AI.add {H0 H H1 H2 H3 : Hp} {lr dk p t1 t2 : Addr} {R : List Row} {q : Row} {v1 v2 : V} {vs : List V} {xs : List ND.Ent} (a : AI P w H0 H lr dk R)
    (hv : H lr = some (.lst vs)) (hx : H dk = some (ND.ndO P w dk xs)) (hk : ND.Keys H xs) (ek : xs.map (·.1) = R.map fun r => pairK r.2)
    (hp : H p = some (.tup [v1, v2])) (s1 : SttV H v1 q.2.1) (s2 : SttV H v2 q.2.2) (hn : q.2 ∉ R.map (·.2))
    (e1 : H1 = upd H dk (ND.ndO P w dk (xs ++ [(pairK q.2, p, .bl true)]))) (n1 : H1 t1 = none) (e2 : H2 = upd H1 t1 (.tup [.str (rowS q.1)])) (n2 : H2 t2 = none) (e3 : H3 = upd H2 t2 (.tup [.str (rowS q.1), v1, v2])) :
    H2 lr = some (.lst vs) ∧ H3 lr = some (.lst vs) ∧ AI P w H0 (upd H3 lr (.lst (vs ++ [.ref t2]))) lr dk (addR R q) ∧ Tup H (upd H3 lr (.lst (vs ++ [.ref t2]))) := by
  obtain ⟨h1, k1, k2, k4, ⟨vs', h5, h6⟩, _⟩ := a
  rw [hv] at h5; cases h5
  have T1 : Tup H H1 := by rw [e1]; exact Tup.upd fun vs e => by rw [hx] at e; cases e
  have S2 : Same H1 H2 := by rw [e2]; exact same_new n1
  have S3 : Same H2 H3 := by rw [e3]; exact same_new n2
  have l1 : H1 lr = some (.lst vs) := by rw [e1, upd_ne k4]; exact hv
  have l3 := S3 _ _ (S2 _ _ l1)
  have T4 : Tup H3 (upd H3 lr (.lst (vs ++ [.ref t2]))) := Tup.upd fun vs e => by rw [l3] at e; cases e
  have TT : Tup H (upd H3 lr (.lst (vs ++ [.ref t2]))) := ((T1.trans (Tup.of S2)).trans (Tup.of S3)).trans T4
  have d1 : H1 dk = some (ND.ndO P w dk (xs ++ [(pairK q.2, p, .bl true)])) := by rw [e1, upd_same]
  have sm : Same H0 H1 := by rw [e1]; exact Same.mut h1 k2
  refine ⟨S2 _ _ l1, l3, ⟨Same.mut ((sm.trans S2).trans S3) k1, k1, k2, k4, ⟨_, upd_same, ?_⟩, ⟨_, by rw [upd_ne (Ne.symm k4)]; exact S3 _ _ (S2 _ _ d1), ?_, ?_⟩⟩, TT⟩
  · unfold addR
    rw [if_neg hn]
    have tl : t2 ≠ lr := fun z => by rw [z, S2 _ _ l1] at n2; cases n2
    exact paired_snoc (Paired.mapP h6 fun _ _ => RowV.tup TT) ⟨t2, v1, v2, rfl, by rw [upd_ne tl, e3, upd_same], s1.tup TT, s2.tup TT⟩
  · intro x hx'
    rcases List.mem_append.mp hx' with hx' | hx'
    · exact hk.mono TT x hx'
    · rw [List.mem_singleton.mp hx']
      exact ⟨pairK_nk (TT _ _ hp) (s1.tup TT) (s2.tup TT), pairK_depth _⟩
  · unfold addR
    rw [if_neg hn, List.map_append, List.map_append, ek]; rfl
theorem fn_alike (T : Txt K mg) {fd : FuncData} (F : FD K d_alike fd) : FnOk P w K mg base (L2.CX P w) 6 (He.fAd K d_alike.at_) fd ["one", "strength", "other", "far", "most"] (spAlike K) := by
  refine F.ok sc_alike (fun vs H Q E h => by obtain ⟨_, _, _, _, _, _, _, rfl, _⟩ := h; rfl) fun cdv A outer s H vs Q E hr h => ?_
  obtain ⟨a1, w1, s, a2, w2, f, m, rfl, hw1, hw2, s1, s2, f1, f2, m1, m2, qP, qA, qT⟩ := h
  refine ⟨_, (pss_cons (ps_expr (C8.pe_c (cal_need_asked T) hr (by decide) rfl (pa_cons (pv 0) (pa_cons (pv 1) (pa_cons (pv 2) (pa_cons (pv 3) (pa_cons (pv 4) pa_nil))))))) (pss_cons (ps_set (i := 5) sc_alike.nd rfl (by first | exact Or.inl rfl | exact Or.inr rfl) (pe_lst (pa_cons (pe_tup (pa_cons pe_str (pa_cons (pe_tup (pa_cons (pv 1) (pa_cons pe_int pa_nil))) (pa_cons (pe_tup (pa_cons (pv 3) (pa_cons pe_int pa_nil))) pa_nil)))) pa_nil))) (pss_cons (ps_set (i := 6) sc_alike.nd rfl (by first | exact Or.inl rfl | exact Or.inr rfl) (ND.pe_none hr (pe_slice sl_tup (pe_ix ix_list (pv 5) pe_int (fun _ _ => rfl)) (po_some pe_int) po_none) pe_bl)) (pss_cons (ps_set (i := 7) sc_alike.nd rfl (by first | exact Or.inl rfl | exact Or.inr rfl) pe_int) (pss_cons (ps_while (passes_of rfl) (pt_cmpR op_lt (pv 7) (pe_callB (call_min2 rfl) (by rfl) T.b_min (by decide +kernel) (pa_cons (pv 4) (pa_cons (pe_callB call_len (by rfl) T.b_len (by decide +kernel) (pa_cons (pv 5) pa_nil)) pa_nil))) (nomark _)) (pss_cons (ps_asg (pe_ix ix_list (pv 5) (pv 7) (fun _ _ => rfl)) (pg_tup rfl (pgs_cons (pg_name (i := 8) sc_alike.nd rfl (by first | exact Or.inl rfl | exact Or.inr rfl)) (pgs_cons (pg_name (i := 9) sc_alike.nd rfl (by first | exact Or.inl rfl | exact Or.inr rfl)) (pgs_cons (pg_name (i := 10) sc_alike.nd rfl (by first | exact Or.inl rfl | exact Or.inr rfl)) pgs_nil))))) (pss_cons (ps_if (pt_cmpR op_ne (pe_cmpR op_isN (pv 9) pe_non (nomark _)) (pe_cmpR op_isN (pv 10) pe_non (nomark _)) (nomark _)) (pss_one (ps_ret (pe_tup (pa_cons pe_str (pa_cons (pv 8) pa_nil))))) pss_nil) (pss_cons (ps_for (passes_of rfl) rfl (pi_str (C8.pe_gc rfl T.c_SIGNS)) (pg_name (i := 11) sc_alike.nd rfl (by first | exact Or.inl rfl | exact Or.inr rfl)) (pss_cons (ps_set (i := 12) sc_alike.nd rfl (by first | exact Or.inl rfl | exact Or.inr rfl) (pe_tup (pa_cons (C8.pe_c (cal_led T) hr (by decide) rfl (pa_cons (pv 0) (pa_cons (pv 9) (pa_cons (pv 11) pa_nil)))) (pa_cons (C8.pe_c (cal_led T) hr (by decide) rfl (pa_cons (pv 2) (pa_cons (pv 10) (pa_cons (pv 11) pa_nil)))) pa_nil)))) (pss_one (ps_if (pt_cmp (ND.pc_nnotin hr (pv 12) (pv 6)) (by rfl)) (pss_cons (ND.ps_nput hr (pv 6) (pv 12) pe_bl) (pss_one (ps_expr (pe_bm PySem.F.plainAttrs_list PySem.F.slot_list_append PySem.F.type_list_append mt_append (pv 5) (pa_cons (pe_op op_catT (pe_tup (pa_cons (pe_op op_add_str (pv 8) (pv 11)) pa_nil)) (pv 12)) pa_nil))))) pss_nil)))) (pss_one (ps_aug (i := 7) sc_alike.nd rfl (by first | exact Or.inl rfl | exact Or.inr rfl) pe_int ip_add)))))) (pss_cons (ps_if (pt_cmpR op_gt (pe_callB call_len (by rfl) T.b_len (by decide +kernel) (pa_cons (pv 5) pa_nil)) (pv 4) (nomark _)) (pss_one (ps_raise rfl (takes_of rfl rfl rfl rfl) (EX.pmk_f (fI := He.ma K (He.ga K "TooMany") "__init__") T.x_TooMany T.xi_TooMany (exc_TooMany T) hr (by decide) rfl T.g_TooMany (pa_cons (pv 4) pa_nil)))) pss_nil) (pss_one (ps_ret (pe_tup (pa_cons pe_str (pa_cons (pv 5) pa_nil))))))))))), ?_⟩
  refine ⟨_, rfl, _, rfl, _, rfl, _, rfl, _, rfl, a1, w1, s, a2, w2, f, _, rfl, hw1, hw2, s1, s2, f1, f2, by omega, by omega, fun H1 S1 => ?_⟩
  refine ⟨_, rfl, by show 2 ≤ sizeLine; decide, fun t1 n1 => ?_⟩
  refine ⟨_, rfl, by show 2 ≤ sizeLine; decide, fun t2 n2 => ?_⟩
  refine ⟨by show 3 ≤ sizeLine; decide, fun t3 n3 => ⟨by show 1 ≤ sizeLine; decide, fun lr n4 => ?_⟩⟩
  have E1 : Same H1 (upd (upd (upd H1 t1 (.tup [.int s, .int 0])) t2 (.tup [.int f, .int 0])) t3 (.tup [.str "", .ref t1, .ref t2])) := ((same_new n1).trans (same_new n2)).trans (same_new n3)
  have g1 : (upd (upd (upd H1 t1 (.tup [.int s, .int 0])) t2 (.tup [.int f, .int 0])) t3 (.tup [.str "", .ref t1, .ref t2])) t1 = some (.tup [.int s, .int 0]) := same_new n3 _ _ (same_new n2 _ _ upd_same)
  have g2 : (upd (upd (upd H1 t1 (.tup [.int s, .int 0])) t2 (.tup [.int f, .int 0])) t3 (.tup [.str "", .ref t1, .ref t2])) t2 = some (.tup [.int f, .int 0]) := same_new n3 _ _ upd_same
  have g3 : (upd (upd (upd H1 t1 (.tup [.int s, .int 0])) t2 (.tup [.int f, .int 0])) t3 (.tup [.str "", .ref t1, .ref t2])) t3 = some (.tup [.str "", .ref t1, .ref t2]) := upd_same
  generalize (upd (upd (upd H1 t1 (.tup [.int s, .int 0])) t2 (.tup [.int f, .int 0])) t3 (.tup [.str "", .ref t1, .ref t2])) = G at E1 g1 g2 g3 n4 ⊢
  have S2 : Same H G := S1.trans E1
  have l0 : H lr = none := S2.free n4
  -- known
  intro dk n5
  have g4 : upd G lr (.lst [.ref t3]) dk = none := n5
  have S3 : Same G (upd (upd G lr (.lst [.ref t3])) dk (ND.ndO P w dk [])) := (same_new n4).trans (same_new n5)
  have hl : (upd (upd G lr (.lst [.ref t3])) dk (ND.ndO P w dk [])) lr = some (.lst [.ref t3]) := same_new n5 _ _ upd_same
  have hd : (upd (upd G lr (.lst [.ref t3])) dk (ND.ndO P w dk [])) dk = some (ND.ndO P w dk []) := upd_same
  have d0 : H dk = none := (S2.trans (same_new n4)).free n5
  have ld : lr ≠ dk := fun z => by rw [← z, upd_same] at n5; cases n5
  have g1 := S3 _ _ g1
  have g2 := S3 _ _ g2
  have g3 := S3 _ _ g3
  have S4 := S2.trans S3
  refine ⟨_, rfl, lr, _, _, _, rfl, rfl, SqL.of hl, rfl, ?_⟩
  refine ⟨_, rfl, t3, _, rfl, SqT.of g3, (show ¬ (HT.sIx 3 0 (some 1) = 0 ∧ HT.sIx 3 3 none = 3) by decide), fun p np => ?_⟩
  have S5 : Same (upd (upd G lr (.lst [.ref t3])) dk (ND.ndO P w dk [])) (upd (upd (upd G lr (.lst [.ref t3])) dk (ND.ndO P w dk [])) p (.tup [.ref t1, .ref t2])) := same_new np
  have hp : (upd (upd (upd G lr (.lst [.ref t3])) dk (ND.ndO P w dk [])) p (.tup [.ref t1, .ref t2])) p = some (.tup [.ref t1, .ref t2]) := upd_same
  refine ⟨S5 _ _ hd, p, pairK (some (s, 0), some (f, 0)), rfl, pairK_nk hp ⟨t1, rfl, S5 _ _ g1⟩ ⟨t2, rfl, S5 _ _ g2⟩, pairK_depth _, ?_⟩
  have g1 := S5 _ _ g1
  have g2 := S5 _ _ g2
  have g3 := S5 _ _ g3
  have hl := S5 _ _ hl
  have hd := S5 _ _ hd
  have S6 := S4.trans S5
  have nk := pairK_nk (q := (some (s, 0), some (f, 0))) hp ⟨t1, rfl, g1⟩ ⟨t2, rfl, g2⟩
  have TT : Tup (upd (upd (upd G lr (.lst [.ref t3])) dk (ND.ndO P w dk [])) p (.tup [.ref t1, .ref t2])) (upd (upd (upd (upd G lr (.lst [.ref t3])) dk (ND.ndO P w dk [])) p (.tup [.ref t1, .ref t2])) dk (ND.ndO P w dk [(pairK (some (s, 0), some (f, 0)), p, .bl true)])) := Tup.upd fun vs e => by rw [hd] at e; cases e
  have A0 : AI P w H (upd (upd (upd (upd G lr (.lst [.ref t3])) dk (ND.ndO P w dk [])) p (.tup [.ref t1, .ref t2])) dk (ND.ndO P w dk [(pairK (some (s, 0), some (f, 0)), p, .bl true)])) lr dk (run w1 w2 s f 0) := by
    refine ⟨Same.mut S6 d0, l0, d0, ld, ⟨_, by rw [upd_ne ld]; exact hl, .cons ⟨t3, _, _, rfl, TT _ _ g3, ⟨t1, rfl, TT _ _ g1⟩, ⟨t2, rfl, TT _ _ g2⟩⟩ .nil⟩, ⟨_, upd_same, fun x hx => ?_, rfl⟩⟩
    rw [List.mem_singleton.mp hx]
    exact ⟨ND.NK.mono TT _ _ nk, pairK_depth _⟩
  have o1 := hw1.ok
  have o2 := hw2.ok
  have ok0 : ∀ k, ∀ r ∈ run w1 w2 s f k, okRow w1 w2 k r := run_ok o1 o2 ⟨s1, s2, by have := o1.tpos; omega⟩ ⟨f1, f2, by have := o2.tpos; omega⟩
  -- the loop
  refine ⟨fun n σ H' => ∃ k o8 o9 o10 o11 o12, n = m - k ∧ k ≤ m ∧ k ≤ (run w1 w2 s f k).length ∧ Clean w1 w2 s f k ∧ AI P w H H' lr dk (run w1 w2 s f k) ∧
    σ = [some (.ref a1), some (.int s), some (.ref a2), some (.int f), some (.int (m : Nat)), some (.ref lr), some (.ref dk), some (.int (k : Nat)), o8, o9, o10, o11, o12],
    ⟨m, 0, _, _, _, _, _, rfl, Nat.zero_le _, Nat.zero_le _, fun j hj => absurd hj (Nat.not_lt_zero _), A0, rfl⟩, ?_⟩
  rintro n σ H' ⟨k, o8, o9, o10, o11, o12, rfl, km, kl, cl, A1, rfl⟩
  obtain ⟨vs, hv, hr'⟩ := A1.rows
  have hlen := paired_len hr'
  have hrl := run_len w1 w2 s f k
  refine ⟨_, rfl, _, rfl, _, rfl, _, _, rfl, .inl ⟨_, SqL.of hv, rfl⟩, _, _, rfl, _, _, rfl, rfl, _, rfl, ?_⟩
  refine ite2 (fun c => ?_) (fun c => ?_)
  · -- a turn
    have c := of_decide_eq_true c
    have km' : k < m := by split at c <;> omega
    have kl' : k < (run w1 w2 s f k).length := by split at c <;> omega
    have hk : (run w1 w2 s f k)[k]? = some (run w1 w2 s f k)[k] := List.getElem?_eq_getElem kl'
    generalize (run w1 w2 s f k)[k] = r at hk
    obtain ⟨x, hx, t, v1, v2, rfl, ht, sv1, sv2⟩ := paired_at hr' hk
    have okr := ok0 k r (List.mem_of_getElem? hk)
    refine ⟨fun σ H' => ∃ k' o8 o9 o10 o11 o12, k' = k + 1 ∧ k' ≤ (run w1 w2 s f k').length ∧ Clean w1 w2 s f k' ∧ AI P w H H' lr dk (run w1 w2 s f k') ∧
      σ = [some (.ref a1), some (.int s), some (.ref a2), some (.int f), some (.int (m : Nat)), some (.ref lr), some (.ref dk), some (.int (k' : Nat)), o8, o9, o10, o11, o12],
      fun σ' H'' ⟨k', o8, o9, o10, o11, o12, ek, h1, h2, h3, h4⟩ => ⟨m - k', by omega, k', o8, o9, o10, o11, o12, rfl, by omega, h1, h2, h3, h4⟩, ?_⟩
    refine ⟨_, rfl, _, rfl, lr, vs, _, _, rfl, rfl, SqL.of hv, atI_nat hx, t, _, rfl, SqT.of ht, rfl, _, _, rfl, _, _, rfl, _, _, rfl, rfl, ?_⟩
    refine ⟨_, rfl, rfl, _, rfl, rfl, rfl, _, rfl, ?_⟩
    rw [parts_eq sv1 sv2]
    cases hpq : parts r.2 with
    | true =>
      refine iteT ⟨_, rfl, by show 2 ≤ sizeLine; decide, fun t' nt' => ?_⟩
      exact qP k r.1 r.2 _ t' km' cl hk hpq (A1.same.trans (same_new nt')) upd_same
    | false =>
      refine iteF ?_
      have cl' : Clean w1 w2 s f (k + 1) := fun j hj => by
        by_cases e : j = k
        · rw [e]; exact ⟨r, hk, hpq⟩
        · exact cl j (by omega)
      have er : run w1 w2 s f (k + 1) = Ri (run w1 w2 s f k) w1 w2 r 2 := by
        show (match (run w1 w2 s f k)[k]? with | some r => _ | none => _) = _
        rw [hk]; rfl
      refine ⟨_, rfl, for_it walk_str (fun i σ H'' => ∃ o11 o12, AI P w H H'' lr dk (Ri (run w1 w2 s f k) w1 w2 r i) ∧ SttV H'' v1 r.2.1 ∧ SttV H'' v2 r.2.2 ∧
        σ = [some (.ref a1), some (.int s), some (.ref a2), some (.int f), some (.int (m : Nat)), some (.ref lr), some (.ref dk), some (.int (k : Nat)), some (.str (rowS r.1)), some v1, some v2, o11, o12])
        ⟨_, _, A1, sv1, sv2, rfl⟩ (fun _ _ _ _ _ => trivial) ?_ ?_⟩
      · rintro i x σ Ha Hb hi ⟨o11, o12, A2, u1, u2, rfl⟩ ⟨rfl, c', hc', rfl⟩
        have hi2 : i < 2 := hi
        obtain ⟨b, es, eR⟩ : ∃ b, V.str ⟨#[c']⟩ = V.str (sgn b) ∧ Ri (run w1 w2 s f k) w1 w2 r (i + 1) = addR (Ri (run w1 w2 s f k) w1 w2 r i) (stp w1 w2 r b) := by
          match i, hi2, hc' with
          | 0, _, hc' => exact ⟨true, by have : c' = 46 := (Option.some.inj hc').symm; rw [this]; decide +kernel, rfl⟩
          | 1, _, hc' => exact ⟨false, by have : c' = 97 := (Option.some.inj hc').symm; rw [this]; decide +kernel, rfl⟩
          | n + 2, h, _ => exact absurd h (by omega)
        have hRl : (Ri (run w1 w2 s f k) w1 w2 r i).length ≤ 2 * k + 3 := by
          have a := addR_len (run w1 w2 s f k) (stp w1 w2 r true)
          match i, hi2 with
          | 0, _ => show (run w1 w2 s f k).length ≤ _; omega
          | 1, _ => show (addR (run w1 w2 s f k) (stp w1 w2 r true)).length ≤ _; omega
          | n + 2, h => exact absurd h (by omega)
        rw [eR]
        generalize Ri (run w1 w2 s f k) w1 w2 r i = R at A2 hRl ⊢
        show tSeq _ _ _ (List.set _ 11 _) _
        rw [es]
        obtain ⟨dx1, _, _, e1, _⟩ := id (hw1.mono A2.same)
        refine ⟨_, rfl, _, rfl, _, rfl, a1, w1, v1, _, b, rfl, hw1.mono A2.same, u1, okr.a, fun x1 Hc S7 q1 => ?_⟩
        refine ⟨_, rfl, _, rfl, _, rfl, a2, w2, v2, _, b, rfl, hw2.mono (A2.same.trans S7), u2.mono S7, okr.b, fun x2 Hd S8 q2 => ?_⟩
        refine ⟨by show 2 ≤ sizeLine; decide, fun p np => ?_⟩
        have q1 := (q1.mono S8).mono (same_new np (o := .tup [x1, x2]))
        have q2 := q2.mono (same_new np (o := .tup [x1, x2]))
        have A3 := A2.tup ((S7.trans S8).trans (same_new np (o := .tup [x1, x2])))
        have u1 := u1.mono ((S7.trans S8).trans (same_new np (o := .tup [x1, x2])))
        have u2 := u2.mono ((S7.trans S8).trans (same_new np (o := .tup [x1, x2])))
        have hp : (upd Hd p (.tup [x1, x2])) p = some (.tup [x1, x2]) := upd_same
        generalize upd Hd p (.tup [x1, x2]) = He at q1 q2 A3 u1 u2 hp ⊢
        obtain ⟨vs, hv, hrr⟩ := A3.rows
        obtain ⟨xs, hx, hks, ek⟩ := A3.keys
        have hl1 := paired_len hrr
        have hl2 : xs.length = R.length := by have := congrArg List.length ek; simpa using this
        have nk := pairK_nk (q := (stp w1 w2 r b).2) hp q1 q2
        refine ⟨_, rfl, _, rfl, dk, p, _, xs, rfl, rfl, hx, hks, nk, pairK_depth _, _, rfl, ?_⟩
        show if (!(ND.getN xs (pairK (stp w1 w2 r b).2)).isSome) = true then _ else _
        rw [getN_mem ek]
        by_cases hin : (stp w1 w2 r b).2 ∈ R.map (·.2)
        · rw [decide_eq_true hin]
          refine iteF ⟨_, _, ?_, u1, u2, rfl⟩
          unfold addR
          rw [if_pos hin]; exact A3
        · rw [decide_eq_false hin]
          have gn : ND.getN xs (pairK (stp w1 w2 r b).2) = none := by
            have := getN_mem ek (stp w1 w2 r b).2
            rw [decide_eq_false hin] at this
            cases h : ND.getN xs (pairK (stp w1 w2 r b).2) with
            | none => rfl
            | some _ => rw [h] at this; cases this
          refine iteT ⟨_, rfl, _, rfl, dk, p, _, xs, rfl, rfl, hx, hks, nk, pairK_depth _, small1000 (by omega), gn, ?_⟩
          have hlv : upd He dk (ND.ndO P w dk (xs ++ [(pairK (stp w1 w2 r b).2, p, .bl true)])) lr = some (.lst vs) := by rw [upd_ne A3.ne]; exact hv
          have hpp : upd He dk (ND.ndO P w dk (xs ++ [(pairK (stp w1 w2 r b).2, p, .bl true)])) p = some (.tup [x1, x2]) := by
            rw [upd_ne (fun z => by rw [z, hx] at hp; cases hp)]; exact hp
          have hrow : (rowS r.1).length ≤ 400 := by rw [rowS_len]; have := okr.l; omega
          have esg : (sgn b).length = 1 := by rw [sgn_row, rowS_len]; rfl
          refine ⟨_, rfl, .inl ⟨rfl, _, SqL.of hlv⟩, _, rfl, _, rfl, _, _, rfl, rfl, by rw [esg]; exact Nat.le_of_lt (small1000 (by omega)), by show 1 ≤ sizeLine; decide, fun t1 n1 => ?_⟩
          have er1 : rowS r.1 ++ sgn b = rowS (stp w1 w2 r b).1 := by rw [sgn_row, rowS_app]; rfl
          refine ⟨_, rfl, t1, p, _, _, rfl, rfl, SqT.of upd_same, SqT.of (same_new n1 _ _ hpp), by simp, by show 3 ≤ sizeLine; decide, (fun z => nomatch z), fun _ t2 n2 => ?_⟩
          obtain ⟨m1', m2', m3', m4'⟩ := A3.add (H3 := upd _ t2 (.tup [.str (rowS r.1 ++ sgn b), x1, x2])) hv hx hks ek hp q1 q2 hin rfl n1 (by rw [← er1]; rfl) n2 (by rw [← er1])
          exact ⟨lr, vs, _, rfl, rfl, m2', by rw [hl1]; exact small1000 (by omega), _, _, m3', u1.tup m4', u2.tup m4', rfl⟩
      · rintro σ Ha ⟨o11, o12, A2, u1, u2, rfl⟩
        refine ⟨_, rfl, _, _, rfl, rfl, k + 1, _, _, _, _, _, rfl, ?_, cl', ?_, rfl⟩
        · rw [er]
          have a := addR_len (run w1 w2 s f k) (stp w1 w2 r true)
          have b := addR_len (addR (run w1 w2 s f k) (stp w1 w2 r true)) (stp w1 w2 r false)
          show k + 1 ≤ (addR (addR (run w1 w2 s f k) (stp w1 w2 r true)) (stp w1 w2 r false)).length
          omega
        · rw [er]; exact A2
  · have c : ¬ ((k : Int) < if ((vs.length : Nat) : Int) < (m : Int) then ((vs.length : Nat) : Int) else (m : Int)) := fun z => c (decide_eq_true z)
    have c2 : m ≤ k ∨ (run w1 w2 s f k).length ≤ k := by split at c <;> omega
    refine ⟨_, rfl, _, _, rfl, .inl ⟨_, SqL.of hv, rfl⟩, _, rfl, _, _, rfl, rfl, _, rfl, ?_⟩
    refine ite2 (fun c' => ?_) (fun c' => ?_)
    · have c' := of_decide_eq_true c'
      have ekm : k = m := by omega
      subst ekm
      refine ⟨_, rfl, EX.mkO_use fun d H'' S9 hd9 _ => ?_⟩
      exact qT d H'' cl (by omega) (A1.same.trans S9) hd9
    · have c' : ¬ ((m : Int) < (vs.length : Nat)) := fun z => c' (decide_eq_true z)
      refine ⟨_, rfl, by show 2 ≤ sizeLine; decide, fun t' nt' => ?_⟩
      exact qA k _ t' lr vs cl (by omega) km (A1.same.trans (same_new nt')) l0 upd_same (same_new nt' _ _ hv) (Paired.mapP hr' fun _ _ => RowV.tup (Tup.of (same_new nt')))
end
end WH

set_option maxHeartbeats 4000000
namespace WH
open PySem PySem.Spec PyProof.Rows L2
/-! ### the bag that draws -/
/-- all but what stands at b is as it was -/
def But (b : Addr) (H H' : Hp) : Prop := ∀ q o, q ≠ b → H q = some o → H' q = some o
theorem But.refl (b : Addr) (H : Hp) : But b H H := fun _ _ _ h => h
theorem But.trans {b : Addr} {H H1 H2 : Hp} (x : But b H H1) (y : But b H1 H2) : But b H H2 := fun q o n h => y q o n (x q o n h)
theorem But.of {b : Addr} {H H' : Hp} (s : Same H H') : But b H H' := fun q o _ h => s q o h
theorem But.upd {b : Addr} {H : Hp} {o : HO} : But b H (upd H b o) := fun q u n h => by rw [upd_ne n]; exact h
/-- a bag at b, its cells at c -/
structure BagC (H : Hp) (b : Addr) (cur seed idx : Int) (c : Addr) (ns : List Int) : Prop where
  b : H b = some (.lst [.int cur, .int seed, .int idx, .ref c])
  c : H c = some (.lst (ns.map V.int))
  h1 : 0 ≤ cur
  h2 : 0 ≤ seed
  h3 : 0 ≤ idx
  ns : ∀ n ∈ ns, 0 ≤ n
def Bag (H : Hp) (b c : Addr) : Prop := ∃ cur seed idx ns, BagC H b cur seed idx c ns
theorem BagC.ne {H : Hp} {b : Addr} {cur seed idx : Int} {c : Addr} {ns : List Int} (g : BagC H b cur seed idx c ns) : c ≠ b := fun z => by
  have h := g.c
  rw [z, g.b] at h
  match ns, h with
  | [], h => cases h
  | [_], h => cases h
  | [_, _], h => cases h
  | [_, _, _], h => cases h
  | _ :: _ :: _ :: _ :: _, h => simp at h
theorem BagC.put {H : Hp} {b : Addr} {cur seed idx : Int} {c : Addr} {ns : List Int} (g : BagC H b cur seed idx c ns) {cur' seed' idx' : Int} (h1 : 0 ≤ cur') (h2 : 0 ≤ seed') (h3 : 0 ≤ idx') :
    BagC (upd H b (.lst [.int cur', .int seed', .int idx', .ref c])) b cur' seed' idx' c ns := ⟨upd_same, by rw [upd_ne g.ne]; exact g.c, h1, h2, h3, g.ns⟩
section
variable {P : Program} {w : World} {K : PySem.W.Frag} {mg : Str → Option Value} {base : Heap}
def spTake : Sp := fun vs H Q _ => ∃ b c many, vs = [.ref b, .int many] ∧ Bag H b c ∧ 0 < many ∧ many < 1073741824 ∧ ∀ v H', 0 ≤ v → v < many → But b H H' → Bag H' b c → Q (.int v) H'
theorem cal__law_take (T : Txt K mg) : C8.Cal P w K mg base 1 "_law_take" spTake [] := by
  refine calD T.f__law_take T.g__law_take sc__law_take (fun fd F => F.bindsN fun _ _ _ _ _ _ us hl => match us, hl with | [_, _], _ => rfl) (fun vs H Q E h => by obtain ⟨_, _, _, rfl, _⟩ := h; rfl) fun cdv A outer s H vs Q E hr h => ?_
  refine ⟨_, (C8.pss_cut (ps_if (pt_cmpR op_eq (pe_ix ix_list (pv 0) pe_int (fun _ _ => rfl)) pe_int (nomark _)) (pss_cons (ps_set (i := 2) sc__law_take.nd rfl (by first | exact Or.inl rfl | exact Or.inr rfl) pe_int) (C8.pss_cut (ps_if (pt_cmpR op_lt (pe_ix ix_list (pv 0) pe_int (fun _ _ => rfl)) (pe_callB call_len (by rfl) T.b_len (by decide +kernel) (pa_cons (pe_ix ix_list (pv 0) pe_int (fun _ _ => rfl)) pa_nil)) (nomark _)) (pss_one (ps_set (i := 2) sc__law_take.nd rfl (by first | exact Or.inl rfl | exact Or.inr rfl) (pe_ix ix_list (pe_ix ix_list (pv 0) pe_int (fun _ _ => rfl)) (pe_ix ix_list (pv 0) pe_int (fun _ _ => rfl)) (fun _ _ => rfl)))) pss_nil) (pss_cons (ps_augS (pv 0) pe_int ND.get_list pe_int ip_add set_list) (C8.pss_cut (ps_if (pt_cmpR op_ge (pv 2) pe_int (nomark _)) (pss_one (ps_asg (pv 2) (pg_sub (pv 0) pe_int set_list))) pss_nil) (pss_one (ps_asg (pe_op op_mod (pe_op op_add (pe_op op_add (pe_op op_mul (pe_ix ix_list (pv 0) pe_int (fun _ _ => rfl)) pe_int) (pe_op op_mod (pv 2) pe_int)) (pe_op op_mul pe_int (pe_ix ix_list (pv 0) pe_int (fun _ _ => rfl)))) pe_int) (pg_sub (pv 0) pe_int set_list))))))) pss_nil) (pss_cons (ps_if (pt_cmpR op_gt (pe_ix ix_list (pv 0) pe_int (fun _ _ => rfl)) pe_int (nomark _)) (pss_cons (ps_set (i := 3) sc__law_take.nd rfl (by first | exact Or.inl rfl | exact Or.inr rfl) (pe_op op_mod (pe_ix ix_list (pv 0) pe_int (fun _ _ => rfl)) (pv 1))) (pss_cons (ps_asg (pe_op op_fdiv (pe_ix ix_list (pv 0) pe_int (fun _ _ => rfl)) (pv 1)) (pg_sub (pv 0) pe_int set_list)) (pss_one (ps_ret (pv 3))))) pss_nil) (pss_cons (ps_set (i := 4) sc__law_take.nd rfl (by first | exact Or.inl rfl | exact Or.inr rfl) (pe_op op_mod (pe_op op_mul (pe_op op_add (pe_ix ix_list (pv 0) pe_int (fun _ _ => rfl)) pe_int) pe_int) pe_int)) (pss_cons (ps_set (i := 5) sc__law_take.nd rfl (by first | exact Or.inl rfl | exact Or.inr rfl) (pe_op op_mod (pe_op op_mul (pe_op op_mod (pe_op op_mul (pv 4) (pv 4)) pe_int) pe_int) pe_int)) (pss_cons (ps_if (pt_cmpR op_gt (pv 1) pe_int (nomark _)) (pss_one (ps_ret (pe_op op_mod (pe_op op_add (pe_op op_mul (pv 5) pe_int) (pv 4)) (pv 1)))) pss_nil) (pss_one (ps_ret (pe_op op_mod (pe_op op_fdiv (pv 5) pe_int) (pv 1))))))))), ?_⟩
  obtain ⟨b, c, many, rfl, ⟨cur, seed, idx, ns, g⟩, m1, m2, q⟩ := h
  refine ⟨fun σ H' => ∃ o2, σ = [some (.ref b), some (.int many), o2, none, none, none] ∧ But b H H' ∧ ∃ cur seed idx, BagC H' b cur seed idx c ns, ?_, ?_⟩
  · refine ⟨_, rfl, b, _, _, _, rfl, rfl, SqL.of g.b, rfl, rfl, _, rfl, ite2 (fun z => ?_) fun z => ?_⟩
    · -- a cell
      refine ⟨fun σ H' => ∃ cell, σ = [some (.ref b), some (.int many), some (.int cell), none, none, none] ∧ H' = H ∧ 0 ≤ cell, ?_, ?_⟩
      · refine ⟨_, rfl, b, _, _, _, rfl, rfl, SqL.of g.b, rfl, _, rfl, b, _, _, _, rfl, rfl, SqL.of g.b, rfl, _, _, rfl, .inl ⟨_, SqL.of g.c, rfl⟩, _, _, rfl, rfl, _, rfl, ite2 (fun y => ?_) fun y => ?_⟩
        · have y := of_decide_eq_true y
          have h3 := g.h3
          rw [List.length_map] at y
          obtain ⟨k, rfl⟩ := Int.eq_ofNat_of_zero_le h3
          have hk : k < ns.length := by omega
          refine ⟨_, rfl, b, _, _, _, rfl, rfl, SqL.of g.b, rfl, _, rfl, b, _, _, _, rfl, rfl, SqL.of g.b, rfl, c, _, _, _, rfl, rfl, SqL.of g.c, atI_nat (by rw [List.getElem?_map, List.getElem?_eq_getElem hk]; rfl), _, rfl, rfl, g.ns _ (List.getElem_mem hk)⟩
        · exact ⟨0, rfl, rfl, Int.le_refl _⟩
      · rintro σ H' ⟨cell, rfl, rfl, c0⟩
        have h3 := g.h3
        refine ⟨_, rfl, b, _, _, _, rfl, rfl, by decide, SqL.of g.b, rfl, _, _, rfl, rfl, b, _, _, _, rfl, rfl, g.b, rfl, ?_⟩
        have g2 := g.put g.h1 g.h2 (show 0 ≤ idx + 1 by omega)
        have s2 : But b H' (upd H' b (.lst [.int cur, .int seed, .int (idx + 1), .ref c])) := But.upd
        show C8.tCut _ _ _ _ (upd H' b (.lst [.int cur, .int seed, .int (idx + 1), .ref c]))
        generalize upd H' b (.lst [.int cur, .int seed, .int (idx + 1), .ref c]) = H2 at g2 s2
        refine ⟨fun σ H'' => ∃ cur', σ = [some (.ref b), some (.int many), some (.int cell), none, none, none] ∧ But b H' H'' ∧ BagC H'' b cur' seed (idx + 1) c ns, ?_, ?_⟩
        · refine ⟨_, rfl, _, _, rfl, rfl, _, rfl, ite2 (fun y => ?_) fun y => ?_⟩
          · refine ⟨_, rfl, _, rfl, b, _, _, _, rfl, rfl, g2.b, rfl, cell, rfl, s2.trans But.upd, g2.put c0 g2.h2 g2.h3⟩
          · exact ⟨cur, rfl, s2, g2⟩
        · rintro σ H3 ⟨cur', rfl, s3, g3⟩
          refine ⟨_, rfl, b, _, _, _, rfl, rfl, SqL.of g3.b, rfl, _, _, rfl, rfl, .inr ⟨by decide, by decide⟩, _, rfl, _, _, rfl, rfl, by show (0 : Int) < 2147483647; decide, _, _, rfl, rfl, ?_⟩
          refine ⟨_, rfl, b, _, _, _, rfl, rfl, SqL.of g3.b, rfl, _, _, rfl, rfl, .inl ⟨by decide, by decide⟩, _, _, rfl, rfl, _, _, rfl, rfl, by show (0 : Int) < 2147483647; decide, ?_⟩
          refine ⟨_, rfl, b, _, _, _, rfl, rfl, g3.b, rfl, _, rfl, s3.trans But.upd, cur', _, idx + 1, g3.put g3.h1 (Int.emod_nonneg _ (by decide)) g3.h3⟩
    · exact ⟨_, rfl, But.refl _ _, cur, seed, idx, g⟩
  · rintro σ H' ⟨o2, rfl, s, cur, seed, idx, g⟩
    have hb := g.b
    refine ⟨_, rfl, b, _, _, _, rfl, rfl, SqL.of hb, rfl, _, _, rfl, rfl, _, rfl, ite2 (fun z => ?_) fun z => ?_⟩
    · refine ⟨_, rfl, b, _, _, _, rfl, rfl, SqL.of hb, rfl, _, rfl, _, _, rfl, rfl, m1, ?_⟩
      refine ⟨_, rfl, b, _, _, _, rfl, rfl, SqL.of hb, rfl, _, rfl, _, _, rfl, rfl, ⟨m1, m2⟩, ?_⟩
      refine ⟨_, rfl, b, _, _, _, rfl, rfl, hb, rfl, _, rfl, ?_⟩
      exact q _ _ (Int.emod_nonneg _ (by omega)) (Int.emod_lt_of_pos _ m1) (s.trans But.upd) ⟨_, _, _, ns, g.put (Int.ediv_nonneg g.h1 (by omega)) g.h2 g.h3⟩
    · have hs := g.h2
      refine ⟨_, rfl, b, _, _, _, rfl, rfl, SqL.of hb, rfl, _, _, rfl, rfl, _, _, rfl, rfl, .inr ⟨by decide, by decide⟩, _, _, rfl, rfl, by show (0 : Int) < 1000000007; decide, ?_⟩
      have f1 : 0 ≤ (seed + 1) * 39373 % 1000000007 := Int.emod_nonneg _ (by decide)
      have f2 : (seed + 1) * 39373 % 1000000007 < 1000000007 := Int.emod_lt_of_pos _ (by decide)
      refine ⟨_, rfl, _, rfl, _, _, rfl, rfl, .inl ⟨by omega, by omega⟩, _, _, rfl, rfl, by show (0 : Int) < 998244353; decide, _, _, rfl, rfl, .inr ⟨by decide, by decide⟩, _, _, rfl, rfl, by show (0 : Int) < 998244353; decide, ?_⟩
      refine ⟨_, rfl, _, _, rfl, rfl, _, rfl, ite2 (fun y => ?_) fun y => ?_⟩
      · refine ⟨_, rfl, _, _, rfl, rfl, .inr ⟨by decide, by decide⟩, _, rfl, _, _, rfl, rfl, _, rfl, _, _, rfl, rfl, m1, ?_⟩
        exact q _ _ (Int.emod_nonneg _ (by omega)) (Int.emod_lt_of_pos _ m1) s ⟨_, _, _, ns, g⟩
      · refine ⟨_, rfl, _, _, rfl, rfl, ⟨by decide, by decide⟩, _, rfl, _, _, rfl, rfl, m1, ?_⟩
        exact q _ _ (Int.emod_nonneg _ (by omega)) (Int.emod_lt_of_pos _ m1) s ⟨_, _, _, ns, g⟩
end
end WH

set_option maxHeartbeats 4000000
namespace WH
open PySem PySem.Spec PyProof.Rows L2
section
variable {P : Program} {w : World} {K : PySem.W.Frag} {mg : Str → Option Value} {base : Heap}
theorem But.mut {b p : Addr} {H H' : Hp} {o : HO} (s : But b H H') (n : H p = none) : But b H (L2.upd H' p o) := fun q u nq h => by
  rw [upd_ne (fun z => by rw [z, n] at h; cases h)]; exact s q u nq h
theorem But.same {b : Addr} {H H1 H2 : Hp} (x : But b H H1) (y : Same H1 H2) : But b H H2 := x.trans (But.of y)
theorem Bag.ne {H : Hp} {b c p : Addr} {vs : List V} {xs : List (Int × Int)} (g : Bag H b c) (hv : H p = some (.lst vs)) (hp : Paired (StepV H) vs xs) : p ≠ b := fun z => by
  obtain ⟨_, _, _, _, g⟩ := g
  rw [z, g.b] at hv; cases hv; cases hp with | cons r _ => obtain ⟨q, e, _⟩ := r; cases e
theorem BagC.same {H H' : Hp} {b c : Addr} {cur seed idx : Int} {ns : List Int} (g : BagC H b cur seed idx c ns) (s : Same H H') : BagC H' b cur seed idx c ns := ⟨s _ _ g.b, s _ _ g.c, g.h1, g.h2, g.h3, g.ns⟩
theorem Bag.same {H H' : Hp} {b c : Addr} (g : Bag H b c) (s : Same H H') : Bag H' b c := by
  obtain ⟨x, y, z, ns, g⟩ := g
  exact ⟨_, _, _, _, g.same s⟩
theorem Bag.nb {H : Hp} {b c p : Addr} (g : Bag H b c) (n : H p = none) : p ≠ b := fun z => by
  obtain ⟨_, _, _, _, g⟩ := g
  rw [z, g.b] at n; cases n
theorem Bag.put {H : Hp} {b c p : Addr} {o : HO} (g : Bag H b c) (n : p ≠ b) (m : p ≠ c) : Bag (L2.upd H p o) b c := by
  obtain ⟨x, y, z, ns, g⟩ := g
  exact ⟨x, y, z, ns, by rw [upd_ne (Ne.symm n)]; exact g.b, by rw [upd_ne (Ne.symm m)]; exact g.c, g.h1, g.h2, g.h3, g.ns⟩
theorem StepV.but {H H' : Hp} {b c : Addr} (g : Bag H b c) (s : But b H H') {v : V} {x : Int × Int} (h : StepV H v x) : StepV H' v x := by
  obtain ⟨a, rfl, h⟩ := h
  obtain ⟨_, _, _, _, g⟩ := g
  exact ⟨a, rfl, s _ _ (fun z => by rw [z, g.b] at h; cases h) h⟩
theorem Steps.but {H H' : Hp} {b c : Addr} (g : Bag H b c) (s : But b H H') {a : Addr} {xs : List (Int × Int)} (h : Steps H a xs) : Steps H' a xs := by
  obtain ⟨vs, h, p⟩ := h
  obtain ⟨_, _, _, _, g'⟩ := id g
  refine ⟨vs, s _ _ (fun z => ?_) h, Paired.mapP p fun _ _ => StepV.but g s⟩
  rw [z, g'.b] at h
  cases h
  cases p with
  | cons r _ => obtain ⟨q, e, _⟩ := r; cases e
def okT (x : Int × Int) : Prop := 1 ≤ x.1 ∧ x.1 ≤ 9 ∧ 0 ≤ x.2 ∧ x.2 ≤ 9
theorem okT.s {x : Int × Int} (h : okT x) : okS x := ⟨h.1, h.2.1, h.2.2.1, by have := h.2.2.2; omega⟩
def PlanV (H : Hp) (v : V) (w : WN) : Prop := ∃ p ah at_, v = .ref p ∧ H p = some (.tup [.ref ah, .ref at_, .int w.cap, .int w.lift, .bl w.anew]) ∧ Steps H ah w.head ∧ Steps H at_ w.tail
theorem PlanV.but {H H' : Hp} {b c : Addr} (g : Bag H b c) (s : But b H H') {v : V} {w : WN} (h : PlanV H v w) : PlanV H' v w := by
  obtain ⟨p, ah, at_, rfl, h, s1, s2⟩ := h
  obtain ⟨_, _, _, _, g'⟩ := id g
  exact ⟨p, ah, at_, rfl, s _ _ (fun z => by rw [z, g'.b] at h; cases h) h, s1.but g s, s2.but g s⟩
theorem PlanV.mono {H H' : Hp} (s : Same H H') {v : V} {w : WN} (h : PlanV H v w) : PlanV H' v w := by
  obtain ⟨p, ah, at_, rfl, h, s1, s2⟩ := h
  exact ⟨p, ah, at_, rfl, s _ _ h, s1.mono s, s2.mono s⟩
def spBag (K : PySem.W.Frag) : Sp := fun vs H Q _ => ∃ (a : Addr) (ns : List Int), vs = [.ref a] ∧ SqL K H a (ns.map V.int) ∧ ∀ b c H', Same H H' → H b = none → Bag H' b c → Q (.ref b) H'
theorem cal__law_bag (T : Txt K mg) : C8.Cal P w K mg base 1 "_law_bag" (spBag K) [] := by
  refine calD T.f__law_bag T.g__law_bag sc__law_bag (fun fd F => F.bindsN fun _ _ _ _ _ _ us hl => match us, hl with | [_], _ => rfl) (fun vs H Q E h => by obtain ⟨_, _, rfl, _⟩ := h; rfl) fun cdv A outer s H vs Q E hr h => ?_
  refine ⟨_, (pss_one (ps_ret (pe_lst (pa_cons pe_int (pa_cons pe_int (pa_cons pe_int (pa_cons (pe_lc (own := [("_law_cell", 1)]) (by rfl) sc__law_bag.nd (pi_list (pe_slice sl_list (pv 0) po_none (po_some pe_int))) (blkOk_by (own := [("_law_cell", 1)]) (N := n__law_bag) (sc := defScope s__law_bag) (by decide +kernel)) (fun _ _ _ _ _ => (pg_name (i := 1) sc__law_bag.nd rfl (by first | exact Or.inl rfl | exact Or.inr rfl))) (fun _ _ _ _ _ => pts_nil) (fun _ _ _ _ _ => (pe_callB call_abs (by rfl) T.b_abs (by decide +kernel) (pa_cons (pv 1) pa_nil)))) pa_nil))))))), ?_⟩
  obtain ⟨a, ns, rfl, hs, q⟩ := h
  refine ⟨_, rfl, _, rfl, a, _, rfl, hs, fun l nl => ⟨l, rfl, ⟨_, SqL.of upd_same⟩, fun D nD => ?_⟩⟩
  obtain ⟨ms, ec, el⟩ : ∃ ms : List Int, cutV (ns.map V.int) none (some 63) = ms.map V.int ∧ ms.length ≤ 63 := by
    have e : HT.sIx (ns.map V.int).length (ns.map V.int).length (some 63) = min 63 (ns.map V.int).length := HT.sIx_nat _ _ 63
    refine ⟨(ns.drop 0).take (min 63 (ns.map V.int).length), ?_, ?_⟩
    · unfold cutV
      rw [e, HT.sIx_none, Nat.sub_zero, List.map_take, List.map_drop]
    · rw [List.length_take]; omega
  rw [ec] at nD ⊢
  have s1 : Same H (upd H l (.lst (ms.map V.int))) := same_new nl
  have hl : (upd H l (.lst (ms.map V.int))) l = some (.lst (ms.map V.int)) := upd_same
  generalize (upd H l (.lst (ms.map V.int))) = H1 at s1 hl nD ⊢
  refine lc_list (K := K) (a := l) (xs := ms.map V.int) (fun i H' => Same H1 H' ∧ ∃ ks : List Int, H' D = some (.lst (ks.map V.int)) ∧ ks.length = i ∧ ∀ n ∈ ks, 0 ≤ n) ⟨same_new nD, [], upd_same, rfl, by simp⟩ (fun i H' _ p => SqL.of (p.1 _ _ hl)) ?_ ?_
  · rintro i x H' hi ⟨s2, ks, hk, hkl, hk0⟩
    have hi2 := (List.getElem?_eq_some_iff.mp hi).1
    rw [List.length_map] at hi2
    rw [List.getElem?_map] at hi
    obtain ⟨n, _, rfl⟩ := Option.map_eq_some_iff.mp hi
    refine ⟨rfl, _, rfl, n, rfl, _, hk, ?_, Same.mut s2 nD, ks ++ [if n < 0 then -n else n], ?_, by simp [hkl], ?_⟩
    · rw [List.length_map]; exact small1000 (by omega)
    · rw [upd_same, List.map_append]; rfl
    · intro m hm
      rcases List.mem_append.mp hm with hm | hm
      · exact hk0 m hm
      · rw [List.mem_singleton.mp hm]; split <;> omega
  · rintro H' ⟨s2, ks, hk, hkl, hk0⟩
    refine ⟨by show 4 ≤ sizeLine; decide, fun p np => q p D _ ((s1.trans s2).trans (same_new np)) ((s1.trans s2).free np) ⟨0, 1234567891, 0, ks, upd_same, same_new np _ _ hk, by decide, by decide, by decide, hk0⟩⟩
theorem pick4 {a b c d v : Int} (h0 : 0 ≤ v) (h1 : v < 4) : ∃ y, (y = a ∨ y = b ∨ y = c ∨ y = d) ∧ atI [V.int a, V.int b, V.int c, V.int d] v = some (.int y) := by
  obtain rfl | rfl | rfl | rfl : v = 0 ∨ v = 1 ∨ v = 2 ∨ v = 3 := by omega
  · exact ⟨a, by simp, rfl⟩
  · exact ⟨b, by simp, rfl⟩
  · exact ⟨c, by simp, rfl⟩
  · exact ⟨d, by simp, rfl⟩
def spSteps : Sp := fun vs H Q _ => ∃ b c n, vs = [.ref b, .int (n : Nat)] ∧ n ≤ 24 ∧ Bag H b c ∧ ∀ p xs H', But b H H' → H p = none → Bag H' b c → Steps H' p xs → (∀ x ∈ xs, okT x) → xs.length = n → Q (.ref p) H'
theorem cal__law_steps (T : Txt K mg) : C8.Cal P w K mg base 2 "_law_steps" spSteps [] := by
  refine calD T.f__law_steps T.g__law_steps sc__law_steps (fun fd F => F.bindsN fun _ _ _ _ _ _ us hl => match us, hl with | [_, _], _ => rfl) (fun vs H Q E h => by obtain ⟨_, _, _, rfl, _⟩ := h; rfl) fun cdv A outer s H vs Q E hr h => ?_
  refine ⟨_, (pss_cons (ps_set (i := 2) sc__law_steps.nd rfl (by first | exact Or.inl rfl | exact Or.inr rfl) (pe_lst pa_nil)) (pss_cons (ps_for PassesOwn.never rfl (pi_range1 (by rfl) T.b_range (pa_cons (pv 1) pa_nil)) (pg_name (i := 3) sc__law_steps.nd rfl (by first | exact Or.inl rfl | exact Or.inr rfl)) (pss_cons (ps_set (i := 4) sc__law_steps.nd rfl (by first | exact Or.inl rfl | exact Or.inr rfl) (pe_ix ix_list (pe_lst (pa_cons pe_int (pa_cons pe_int (pa_cons (pe_op op_add pe_int (C8.pe_c (cal__law_take T) hr (by decide) rfl (pa_cons (pv 0) (pa_cons pe_int pa_nil)))) (pa_cons pe_int pa_nil))))) (C8.pe_c (cal__law_take T) hr (by decide) rfl (pa_cons (pv 0) (pa_cons pe_int pa_nil))) (fun _ _ => rfl))) (pss_one (ps_expr (pe_bm PySem.F.plainAttrs_list PySem.F.slot_list_append PySem.F.type_list_append mt_append (pv 2) (pa_cons (pe_tup (pa_cons (pv 4) (pa_cons (C8.pe_c (cal__law_take T) hr (by decide) rfl (pa_cons (pv 0) (pa_cons pe_int pa_nil))) pa_nil))) pa_nil)))))) (pss_one (ps_ret (pv 2))))), ?_⟩
  obtain ⟨b, c, n, rfl, hn, g, q⟩ := h
  have g0 := g
  refine ⟨by decide, fun p np => ?_⟩
  refine ⟨_, rfl, _, rfl, by omega, by omega, for_range (n := n) (fun i σ H' => ∃ vs xs o3 o4, But b H H' ∧ Bag H' b c ∧ H' p = some (.lst vs) ∧ Paired (StepV H') vs xs ∧ (∀ x ∈ xs, okT x) ∧ xs.length = i ∧ σ = [some (.ref b), some (.int (n : Nat)), some (.ref p), o3, o4]) ?_ ?_ ?_⟩
  · exact ⟨[], [], _, _, (But.refl b H).same (same_new np), g.same (same_new np), upd_same, .nil, by simp, rfl, rfl⟩
  · rintro i σ H' hi ⟨vs, xs, o3, o4, s, g, hv, hp, ok, hl, rfl⟩
    have hvl := paired_len hp
    refine ⟨_, rfl, b, c, 3, rfl, g, by decide, by decide, fun v1 H1 a1 a2 s1 g1 => ⟨_, _, rfl, rfl, by show 4 ≤ sizeLine; decide, fun l nl => ?_⟩⟩
    refine ⟨_, rfl, b, c, 4, rfl, g1.same (same_new nl), by decide, by decide, fun v2 H2 r1 r2 s2 g2 => ?_⟩
    have s12 := (s1.same (same_new nl (o := .lst [.int 1, .int 1, .int (1 + v1), .int 9]))).trans s2
    have lb : l ≠ b := fun z => by
      obtain ⟨_, _, _, _, g1⟩ := g1
      rw [z, g1.b] at nl; cases nl
    obtain ⟨by_, hby, e⟩ := pick4 (a := 1) (b := 1) (c := 1 + v1) (d := 9) r1 r2
    refine ⟨l, _, _, _, rfl, rfl, SqL.of (s2 _ _ lb upd_same), e, ?_⟩
    have s3 := s.trans s12
    have pb : p ≠ b := g.ne hv hp
    have pc : p ≠ c := fun z => by rw [z] at np; obtain ⟨_, _, _, _, g⟩ := g0; rw [g.c] at np; cases np
    have hv2 := s12 _ _ pb hv
    refine ⟨_, rfl, .inl ⟨rfl, _, SqL.of hv2⟩, _, rfl, _, rfl, b, c, 3, rfl, g2, by decide, by decide, fun v3 H3 d1 d2 s4 g3 => ⟨by show 2 ≤ sizeLine; decide, fun t nt => ?_⟩⟩
    have s5 := (s12.trans s4).same (same_new nt (o := .tup [.int by_, .int v3]))
    have hv3 := s5 _ _ pb hv
    refine ⟨p, vs, _, rfl, rfl, hv3, small1000 (by omega), ?_⟩
    have s6 := (s.trans s5).mut (o := .lst (vs ++ [.ref t])) np
    have g4 : Bag (upd (upd H3 t (.tup [.int by_, .int v3])) p (.lst (vs ++ [.ref t]))) b c := (g3.same (same_new nt)).put pb pc
    have tp : t ≠ p := fun z => by rw [z, s4 _ _ pb hv2] at nt; cases nt
    refine ⟨_, xs ++ [(by_, v3)], _, _, s6, g4, upd_same, paired_snoc (Paired.mapP hp fun v x h => ?_) ⟨t, rfl, by rw [upd_ne tp, upd_same]⟩, ?_, by simp [hl], rfl⟩
    · obtain ⟨a, rfl, h'⟩ := h.but g s5
      obtain ⟨_, e, h0⟩ := h
      cases e
      exact ⟨a, rfl, by rw [upd_ne (fun z => by rw [z, hv] at h0; cases h0)]; exact h'⟩
    · intro x hx
      rcases List.mem_append.mp hx with hx | hx
      · exact ok x hx
      · rw [List.mem_singleton.mp hx]
        exact ⟨by show 1 ≤ by_; omega, by show by_ ≤ 9; omega, d1, by show v3 ≤ 9; omega⟩
  · rintro σ H' ⟨vs, xs, o3, o4, s, g, hv, hp, ok, hl, rfl⟩
    exact ⟨_, rfl, q p xs H' s np g ⟨vs, hv, hp⟩ ok hl⟩
end
end WH

set_option maxHeartbeats 4000000
namespace WH
open PySem PySem.Spec PyProof.Rows L2
section
variable {P : Program} {w : World} {K : PySem.W.Frag} {mg : Str → Option Value} {base : Heap}
/-- a drawn plan -/
structure okP (w : WN) : Prop where
  h : ∀ x ∈ w.head, okT x
  hl : w.head.length ≤ 3
  t : ∀ x ∈ w.tail, okT x
  tl : w.tail.length = 1 ∨ w.tail.length = 2 ∨ w.tail.length = 3
  c1 : 1 ≤ w.cap
  c2 : w.cap ≤ 1000
  l1 : 0 ≤ w.lift
  l2 : w.lift ≤ w.cap
def spPlan : Sp := fun vs H Q _ => ∃ b c n, vs = [.ref b, .int n] ∧ 1 ≤ n ∧ n ≤ 1000 ∧ Bag H b c ∧ ∀ v w H', But b H H' → Bag H' b c → PlanV H' v w → okP w → Q v H'
theorem cal__law_plan (T : Txt K mg) : C8.Cal P w K mg base 3 "_law_plan" spPlan [] := by
  refine calD T.f__law_plan T.g__law_plan sc__law_plan (fun fd F => F.bindsN fun _ _ _ _ _ _ us hl => match us, hl with | [_, _], _ => rfl) (fun vs H Q E h => by obtain ⟨_, _, _, rfl, _⟩ := h; rfl) fun cdv A outer s H vs Q E hr h => ?_
  refine ⟨_, (pss_cons (ps_set (i := 2) sc__law_plan.nd rfl (by first | exact Or.inl rfl | exact Or.inr rfl) (C8.pe_c (cal__law_steps T) hr (by decide) rfl (pa_cons (pv 0) (pa_cons (pe_ix ix_list (pe_lst (pa_cons pe_int (pa_cons pe_int (pa_cons pe_int (pa_cons pe_int pa_nil))))) (C8.pe_c (cal__law_take T) hr (by decide) rfl (pa_cons (pv 0) (pa_cons pe_int pa_nil))) (fun _ _ => rfl)) pa_nil)))) (pss_cons (ps_set (i := 3) sc__law_plan.nd rfl (by first | exact Or.inl rfl | exact Or.inr rfl) (C8.pe_c (cal__law_steps T) hr (by decide) rfl (pa_cons (pv 0) (pa_cons (pe_ix ix_list (pe_lst (pa_cons pe_int (pa_cons pe_int (pa_cons pe_int (pa_cons pe_int pa_nil))))) (C8.pe_c (cal__law_take T) hr (by decide) rfl (pa_cons (pv 0) (pa_cons pe_int pa_nil))) (fun _ _ => rfl)) pa_nil)))) (pss_cons (ps_set (i := 4) sc__law_plan.nd rfl (by first | exact Or.inl rfl | exact Or.inr rfl) (pe_op op_add pe_int (C8.pe_c (cal__law_take T) hr (by decide) rfl (pa_cons (pv 0) (pa_cons (pv 1) pa_nil))))) (pss_one (ps_ret (pe_tup (pa_cons (pv 2) (pa_cons (pv 3) (pa_cons (pv 4) (pa_cons (C8.pe_c (cal__law_take T) hr (by decide) rfl (pa_cons (pv 0) (pa_cons (pe_op op_add (pv 4) pe_int) pa_nil))) (pa_cons (pe_cmpR op_eq (C8.pe_c (cal__law_take T) hr (by decide) rfl (pa_cons (pv 0) (pa_cons pe_int pa_nil))) pe_int (nomark _)) pa_nil))))))))))), ?_⟩
  obtain ⟨b, c, n, rfl, n1, n2, g, q⟩ := h
  refine ⟨_, rfl, by show 4 ≤ sizeLine; decide, fun l nl => ?_⟩
  refine ⟨_, rfl, b, c, 4, rfl, g.same (same_new nl), by decide, by decide, fun v1 H1 a1 a2 s1 g1 => ?_⟩
  obtain ⟨y, hy, e⟩ := pick4 (a := 0) (b := 0) (c := 1) (d := 3) a1 a2
  refine ⟨l, _, _, _, rfl, rfl, SqL.of (s1 _ _ (g.nb nl) upd_same), e, ?_⟩
  obtain ⟨m, rfl⟩ : ∃ m : Nat, y = m := Int.eq_ofNat_of_zero_le (by omega)
  refine ⟨b, c, m, rfl, by omega, g1, fun p xs H2 s2 np g2 sh okh lh => ?_⟩
  refine ⟨_, rfl, by show 4 ≤ sizeLine; decide, fun l2 nl2 => ?_⟩
  refine ⟨_, rfl, b, c, 4, rfl, g2.same (same_new nl2), by decide, by decide, fun v2 H3 r1 r2 s3 g3 => ?_⟩
  obtain ⟨y2, hy2, e2⟩ := pick4 (a := 1) (b := 1) (c := 2) (d := 3) r1 r2
  refine ⟨l2, _, _, _, rfl, rfl, SqL.of (s3 _ _ (g2.nb nl2) upd_same), e2, ?_⟩
  obtain ⟨m2, rfl⟩ : ∃ m : Nat, y2 = m := Int.eq_ofNat_of_zero_le (by omega)
  refine ⟨b, c, m2, rfl, by omega, g3, fun p2 xs2 H4 s4 np2 g4 st okt lt => ?_⟩
  have sh := ((sh.mono (same_new nl2 (o := .lst [.int 1, .int 1, .int 2, .int 3]))).but (g2.same (same_new nl2)) s3).but g3 s4
  refine ⟨_, rfl, _, rfl, b, c, n, rfl, g4, by omega, by omega, fun v3 H5 c1 c2 s5 g5 => ⟨_, _, rfl, rfl, ?_⟩⟩
  have sh := sh.but g4 s5
  have st := st.but g4 s5
  refine ⟨_, rfl, _, rfl, _, rfl, _, rfl, _, rfl, _, _, rfl, rfl, b, c, _, rfl, g5, by omega, by omega, fun v4 H6 d1 d2 s6 g6 => ?_⟩
  have sh := sh.but g5 s6
  have st := st.but g5 s6
  refine ⟨_, rfl, b, c, 2, rfl, g6, by decide, by decide, fun v5 H7 e1 e2 s7 g7 => ⟨rfl, by show 5 ≤ sizeLine; decide, fun r nr => ?_⟩⟩
  have sh := (sh.but g6 s7).mono (same_new nr (o := .tup [.ref p, .ref p2, .int (1 + v3), .int v4, .bl (decide (V.int v5 = V.int 0))]))
  have st := (st.but g6 s7).mono (same_new nr (o := .tup [.ref p, .ref p2, .int (1 + v3), .int v4, .bl (decide (V.int v5 = V.int 0))]))
  refine q _ ⟨xs, xs2, 1 + v3, v4, decide (V.int v5 = V.int 0)⟩ _ ?_ (g7.same (same_new nr)) ⟨r, p, p2, rfl, upd_same, sh, st⟩ ⟨okh, by show xs.length ≤ 3; omega, okt, by show xs2.length = 1 ∨ xs2.length = 2 ∨ xs2.length = 3; omega, by show 1 ≤ 1 + v3; omega, by show 1 + v3 ≤ 1000; omega, d1, by show v4 ≤ 1 + v3; omega⟩
  exact (((((((But.of (same_new nl)).trans s1).trans s2).same (same_new nl2)).trans s3).trans s4).trans s5).trans ((s6.trans s7).same (same_new nr))
section
variable {X : Cx} {k j n : Nat} {f C : Addr} {ps ks : List Str} {sp : Sp} {x : Str} {p pos : Pos} {e : Expr} {es : List Expr} {kws : List Keyword} {t tk : TA} {gV : List V → List V → List V} 
theorem pe_mkK (M : Mk X.K C f) (c : ∃ fd g, FnOk X.prog X.w X.K X.mg X.base C8.CX0 k f fd ps sp ∧ KBn X.K fd ps (n + 1) ks g gV) (hr : Room j X.A) (hk : k + 1 ≤ j) (hg : Gl X x) (hm : X.mg x = some (.ref C)) (ha : PA X (e :: es) t) (hkw : PK X kws tk)
    (hall : (backToKw pos (keywordEach kws X.env)).all (·.1.isSome) = true := by rfl) (hks : (backToKw pos (keywordEach kws X.env)).filterMap (·.1) = ks := by rfl) (hdb : (x == ("__debug__" : Str)) = false := by decide)
    (he : starEach (e :: es) X.env = (false, eval e X.env) :: starEach es X.env := by rfl) (hpl : ((backTo pos (starEach (e :: es) X.env)).any (·.1) || (backToKw pos (keywordEach kws X.env)).any (·.1.isNone)) = false := by rfl) :
    PE X (.Call (.Name x p) (e :: es) kws pos) (tMakeK C n ks.length sp gV C8.E0 t tk) := by
  obtain ⟨fd, g, F, b⟩ := c
  exact pe_makeK M F (hr.mono hk) hg hm b C8.pass0 ha hkw hall hks hdb he hpl
end
theorem init_Wane (T : Txt K mg) : ∃ fd g, FnOk P w K mg base C8.CX0 6 (He.ma K (He.ga K "Wane") "__init__") fd ["self", "head", "tail", "cap", "lift", "anew"] (spWInit K) ∧ KBn K fd ["self", "head", "tail", "cap", "lift", "anew"] 3 ["cap", "lift", "anew"] g (fun vs zs => vs ++ zs) := by
  obtain ⟨fd, F⟩ := T.f_Wane___init__
  obtain ⟨mv, b⟩ := F.kbinds0 (ps := ["self", "head", "tail", "cap", "lift", "anew"]) 3 ["cap", "lift", "anew"] [] (fun us _ ws => us ++ ws) (by simp [He.DefD.kws, d_Wane___init__]) (by simp) (fun r1 r2 r3 => ND.paired_app r1 r3) (fun D doc pm an cdv ct us mv ws l1 l2 l3 => by
    match us, ws, l1, l3 with
    | [_, _, _], [_, _, _], _, _ => rfl)
  exact ⟨fd, _, fn_Wane_init T F, b⟩
def spMade (K : PySem.W.Frag) : Sp := fun vs H Q _ => ∃ v w, vs = [v] ∧ PlanV H v w ∧ okW w ∧ ∀ a H', Same H H' → WaneAt K H' a w → (∀ D, H D ≠ none → WaneN K D H' a w) → Q (.ref a) H'
theorem cal__law_made (T : Txt K mg) : C8.Cal P w K mg base 8 "_law_made" (spMade K) [] := by
  refine calD T.f__law_made T.g__law_made sc__law_made (fun fd F => F.bindsN fun _ _ _ _ _ _ us hl => match us, hl with | [_], _ => rfl) (fun vs H Q E h => by obtain ⟨_, _, rfl, _⟩ := h; rfl) fun cdv A outer s H vs Q E hr h => ?_
  refine ⟨_, (pss_one (ps_ret (pe_mkK T.mk_Wane (init_Wane T) hr (by decide) rfl T.g_Wane (pa_cons (pe_callTy call_list_of (by rfl) T.b_list (by decide +kernel) (pa_cons (pe_ix ix_tup (pv 0) pe_int (fun _ _ => rfl)) pa_nil)) (pa_cons (pe_callTy call_list_of (by rfl) T.b_list (by decide +kernel) (pa_cons (pe_ix ix_tup (pv 0) pe_int (fun _ _ => rfl)) pa_nil)) pa_nil)) (pk_cons (pe_ix ix_tup (pv 0) pe_int (fun _ _ => rfl)) (pk_cons (pe_ix ix_tup (pv 0) pe_int (fun _ _ => rfl)) (pk_cons (pe_ix ix_tup (pv 0) pe_int (fun _ _ => rfl)) pk_nil)))))), ?_⟩
  obtain ⟨v, w, rfl, ⟨p, ah, at_, rfl, hp, ⟨vh, hh, ph⟩, ⟨vt, ht, pt⟩⟩, ok, q⟩ := h
  refine ⟨_, rfl, p, _, _, _, rfl, rfl, SqT.of hp, rfl, ah, vh, rfl, .inl (SqL.of hh), fun l nl => ?_⟩
  have s1 := same_new nl (o := .lst vh)
  refine ⟨_, rfl, p, _, _, _, rfl, rfl, SqT.of (s1 _ _ hp), rfl, at_, vt, rfl, .inl (SqL.of (s1 _ _ ht)), fun l2 nl2 => ?_⟩
  have s2 := s1.trans (same_new nl2 (o := .lst vt))
  have hp2 := s2 _ _ hp
  refine ⟨_, rfl, p, _, _, _, rfl, rfl, SqT.of hp2, rfl, _, rfl, p, _, _, _, rfl, rfl, SqT.of hp2, rfl, _, rfl, p, _, _, _, rfl, rfl, SqT.of hp2, rfl, rfl, rfl, fun x dx nx nd ne => ?_⟩
  refine ⟨_, x, dx, l, l2, w, rfl, rfl, nx, nd, ne, ⟨vh, ?_, ?_⟩, ⟨vt, ?_, ?_⟩, ok, fun H' s3 hw hn => ⟨rfl, q x H' (s2.trans s3) hw fun D hD => hn D (by cases hh : H D with | none => exact absurd hh hD | some o => intro e; rw [s2 _ _ hh] at e; cases e)⟩⟩
  · exact same_new nl2 _ _ upd_same
  · exact Paired.mapP ph fun _ _ => StepV.mono s2
  · exact upd_same
  · exact Paired.mapP pt fun _ _ => StepV.mono s2
/-- phases by the law's own reckoning -/
def spPhaseL : Sp := fun vs H Q _ => ∃ v w n, vs = [v, .int (n : Nat)] ∧ PlanV H v w ∧ 1 ≤ w.tail.length ∧ Q (.int (w.phase n : Nat)) H
theorem cal__law_phase (T : Txt K mg) : C8.Cal P w K mg base 1 "_law_phase" spPhaseL [] := by
  refine calD T.f__law_phase T.g__law_phase sc__law_phase (fun fd F => F.bindsN fun _ _ _ _ _ _ us hl => match us, hl with | [_, _], _ => rfl) (fun vs H Q E h => by obtain ⟨_, _, _, rfl, _⟩ := h; rfl) fun cdv A outer s H vs Q E hr h => ?_
  refine ⟨_, (pss_cons (ps_if (pt_cmpR op_lt (pv 1) (pe_op op_add (pe_callB call_len (by rfl) T.b_len (by decide +kernel) (pa_cons (pe_ix ix_tup (pv 0) pe_int (fun _ _ => rfl)) pa_nil)) (pe_callB call_len (by rfl) T.b_len (by decide +kernel) (pa_cons (pe_ix ix_tup (pv 0) pe_int (fun _ _ => rfl)) pa_nil))) (nomark _)) (pss_one (ps_ret (pv 1))) pss_nil) (pss_one (ps_ret (pe_op op_add (pe_callB call_len (by rfl) T.b_len (by decide +kernel) (pa_cons (pe_ix ix_tup (pv 0) pe_int (fun _ _ => rfl)) pa_nil)) (pe_op op_mod (pe_op op_sub (pv 1) (pe_callB call_len (by rfl) T.b_len (by decide +kernel) (pa_cons (pe_ix ix_tup (pv 0) pe_int (fun _ _ => rfl)) pa_nil))) (pe_callB call_len (by rfl) T.b_len (by decide +kernel) (pa_cons (pe_ix ix_tup (pv 0) pe_int (fun _ _ => rfl)) pa_nil))))))), ?_⟩
  obtain ⟨v, w, n, rfl, ⟨p, ah, at_, rfl, hp, ⟨vh, hh, ph⟩, ⟨vt, ht, pt⟩⟩, tp, q⟩ := h
  have l1 := paired_len ph
  have l2 := paired_len pt
  refine ⟨_, rfl, _, rfl, p, _, _, _, rfl, rfl, SqT.of hp, rfl, _, _, rfl, .inl ⟨_, SqL.of hh, rfl⟩, _, rfl, p, _, _, _, rfl, rfl, SqT.of hp, rfl, _, _, rfl, .inl ⟨_, SqL.of ht, rfl⟩, _, _, rfl, rfl, _, _, rfl, rfl, _, rfl, ite2 (fun c => ?_) (fun c => ?_)⟩
  · have c := of_decide_eq_true c
    rw [WN.phase, if_pos (by omega)] at q
    exact ⟨_, rfl, q⟩
  · have c : ¬ (n : Int) < (vh.length : Int) + vt.length := fun z => c (decide_eq_true z)
    rw [WN.phase, if_neg (by omega)] at q
    refine ⟨_, rfl, p, _, _, _, rfl, rfl, SqT.of hp, rfl, _, _, rfl, .inl ⟨_, SqL.of hh, rfl⟩, _, rfl, _, rfl, p, _, _, _, rfl, rfl, SqT.of hp, rfl, _, _, rfl, .inl ⟨_, SqL.of hh, rfl⟩, _, _, rfl, rfl, _, rfl, p, _, _, _, rfl, rfl, SqT.of hp, rfl, _, _, rfl, .inl ⟨_, SqL.of ht, rfl⟩, _, _, rfl, rfl, by show (0 : Int) < (vt.length : Int); omega, _, _, rfl, rfl, ?_⟩
    have e4 : (vh.length : Int) + ((n : Int) - (vh.length : Int)) % (vt.length : Int) = ((w.head.length + (n - w.head.length) % w.tail.length : Nat) : Int) := by
      rw [l1, l2, ← Int.ofNat_sub (by omega), ← Int.natCast_emod]; omega
    show Q (.int ((vh.length : Int) + ((n : Int) - (vh.length : Int)) % (vt.length : Int))) H
    rw [e4]; exact q
theorem at_app {w : WN} (tp : 1 ≤ w.tail.length) (n : Nat) : (w.head ++ w.tail)[w.phase n]? = some (w.at n) := by
  unfold WN.phase WN.at
  have m := Nat.mod_lt (n - w.head.length) tp
  split
  · rename_i c
    by_cases h : n < w.head.length
    · rw [if_pos h, List.getElem?_append_left h, List.getD_eq_getElem?_getD, List.getElem?_eq_getElem h]; rfl
    · rw [if_neg h, List.getElem?_append_right (by omega), Nat.mod_eq_of_lt (by omega), List.getD_eq_getElem?_getD, List.getElem?_eq_getElem (by omega)]; rfl
  · rename_i c
    rw [if_neg (by omega), List.getElem?_append_right (by omega), Nat.add_sub_cancel_left, List.getD_eq_getElem?_getD, List.getElem?_eq_getElem m]; rfl
def spWanedL : Sp := fun vs H Q _ => ∃ v w s n, vs = [v, .int s, .int (n : Nat)] ∧ PlanV H v w ∧ okW w ∧ ∀ H', Same H H' → Q (.int (w.turn s n)) H'
theorem cal__law_waned (T : Txt K mg) : C8.Cal P w K mg base 2 "_law_waned" spWanedL [] := by
  refine calD T.f__law_waned T.g__law_waned sc__law_waned (fun fd F => F.bindsN fun _ _ _ _ _ _ us hl => match us, hl with | [_, _, _], _ => rfl) (fun vs H Q E h => by obtain ⟨_, _, _, _, rfl, _⟩ := h; rfl) fun cdv A outer s H vs Q E hr h => ?_
  refine ⟨_, (pss_cons (ps_asg (pe_ix ix_list (pe_op op_cat (pe_ix ix_tup (pv 0) pe_int (fun _ _ => rfl)) (pe_ix ix_tup (pv 0) pe_int (fun _ _ => rfl))) (C8.pe_c (cal__law_phase T) hr (by decide) rfl (pa_cons (pv 0) (pa_cons (pv 2) pa_nil))) (fun _ _ => rfl)) (pg_tup rfl (pgs_cons (pg_name (i := 3) sc__law_waned.nd rfl (by first | exact Or.inl rfl | exact Or.inr rfl)) (pgs_cons (pg_name (i := 4) sc__law_waned.nd rfl (by first | exact Or.inl rfl | exact Or.inr rfl)) pgs_nil)))) (pss_one (ps_ret (pe_callB (call_max2 rfl) (by rfl) T.b_max (by decide +kernel) (pa_cons pe_int (pa_cons (pe_op op_sub (pe_op op_fdiv (pv 1) (pv 3)) (pv 4)) pa_nil)))))), ?_⟩
  obtain ⟨v, w, s, n, rfl, hv, ok, q⟩ := h
  obtain ⟨p, ah, at_, rfl, hp, ⟨vh, hh, ph⟩, ⟨vt, ht, pt⟩⟩ := id hv
  have l1 := paired_len ph
  have l2 := paired_len pt
  have b1 := ok.hl
  have b2 := (tails_le ok.tl).2
  refine ⟨_, rfl, p, _, _, _, rfl, rfl, SqT.of hp, rfl, _, rfl, p, _, _, _, rfl, rfl, SqT.of hp, rfl, ah, at_, vh, vt, rfl, rfl, hh, ht, Nat.le_of_lt (small1000 (by omega)), fun l nl => ?_⟩
  refine ⟨_, rfl, _, rfl, _, w, n, rfl, hv.mono (same_new nl), (tails_le ok.tl).1, ?_⟩
  obtain ⟨x, hx, b, rfl, hb⟩ := paired_at (ND.paired_app ph pt) (at_app (tails_le ok.tl).1 n)
  refine ⟨l, _, _, _, rfl, rfl, SqL.of upd_same, atI_nat hx, b, _, rfl, SqT.of (same_new nl _ _ hb), rfl, _, _, rfl, _, _, rfl, rfl, ?_⟩
  obtain ⟨b1, b2, t1, t2⟩ := ok.at n
  refine ⟨_, rfl, _, rfl, _, _, rfl, rfl, ⟨b1, by omega⟩, _, rfl, _, _, rfl, rfl, _, _, rfl, ?_⟩
  exact q _ (same_new nl)
end
end WH

set_option maxHeartbeats 4000000
namespace WH
open PySem PySem.Spec PyProof.Rows L2
section
variable {P : Program} {w : World} {K : PySem.W.Frag} {mg : Str → Option Value} {base : Heap}
structure okTwo (w1 : WN) (s : Int) (w2 : WN) (f : Int) : Prop where
  a : okW w1
  b : okW w2
  s1 : 1 ≤ s
  s2 : s ≤ w1.cap
  f1 : 1 ≤ f
  f2 : f ≤ w2.cap
def TwoV (H : Hp) (v : V) (w1 : WN) (s : Int) (w2 : WN) (f : Int) : Prop := ∃ p v1 v2, v = .ref p ∧ H p = some (.tup [v1, .int s, v2, .int f]) ∧ PlanV H v1 w1 ∧ PlanV H v2 w2
theorem TwoV.but {H H' : Hp} {b c : Addr} (g : Bag H b c) (s : But b H H') {v : V} {w1 w2 : WN} {x y : Int} (h : TwoV H v w1 x w2 y) : TwoV H' v w1 x w2 y := by
  obtain ⟨p, v1, v2, rfl, h, s1, s2⟩ := h
  obtain ⟨_, _, _, _, g'⟩ := id g
  exact ⟨p, v1, v2, rfl, s _ _ (fun z => by rw [z, g'.b] at h; cases h) h, s1.but g s, s2.but g s⟩
theorem TwoV.mono {H H' : Hp} (s : Same H H') {v : V} {w1 w2 : WN} {x y : Int} (h : TwoV H v w1 x w2 y) : TwoV H' v w1 x w2 y := by
  obtain ⟨p, v1, v2, rfl, h, s1, s2⟩ := h
  exact ⟨p, v1, v2, rfl, s _ _ h, s1.mono s, s2.mono s⟩
theorem tl_of {n : Nat} (h : n = 1 ∨ n = 2 ∨ n = 3 ∨ n = 4 ∨ n = 6 ∨ n = 8 ∨ n = 12 ∨ n = 24) : (n : Int) ∈ tails := by
  simp [tails]; omega
theorem okP.ok {w : WN} (h : okP w) : okW w := ⟨fun x hx => (h.h x hx).s, by have := h.hl; omega, fun x hx => (h.t x hx).s, tl_of (by have := h.tl; omega), h.c1, by have := h.c2; omega, h.l1, by have := h.l2; have := h.c2; omega⟩
theorem tupB {H H' : Hp} {b c p : Addr} {vs : List V} (g : Bag H b c) (s : But b H H') (h : H p = some (.tup vs)) : H' p = some (.tup vs) := by
  obtain ⟨_, _, _, _, g⟩ := g
  exact s _ _ (fun z => by rw [z, g.b] at h; cases h) h
theorem paired_drop {α β : Type} {F : α → β → Prop} : ∀ {xs : List α} {ys : List β} (k : Nat), Paired F xs ys → Paired F (xs.drop k) (ys.drop k)
  | _, _, 0, p => p
  | _, _, _ + 1, .nil => .nil
  | _, _, k + 1, .cons _ t => paired_drop k t
theorem paired_take {α β : Type} {F : α → β → Prop} : ∀ {xs : List α} {ys : List β} (k : Nat), Paired F xs ys → Paired F (xs.take k) (ys.take k)
  | _, _, 0, _ => by simp; exact .nil
  | _, _, _ + 1, .nil => .nil
  | _, _, k + 1, .cons r t => .cons r (paired_take k t)
theorem paired_rep {α β : Type} {F : α → β → Prop} {xs : List α} {ys : List β} (p : Paired F xs ys) : ∀ k : Nat, Paired F (List.replicate k xs).flatten (List.replicate k ys).flatten
  | 0 => .nil
  | k + 1 => by
    rw [List.replicate_succ, List.replicate_succ, List.flatten_cons, List.flatten_cons]
    exact ND.paired_app p (paired_rep p k)
theorem cut_take {xs : List V} {k : Nat} (h : k ≤ xs.length) : cutV xs none (some (k : Int)) = xs.take k := by
  unfold cutV
  rw [HT.sIx_nat, HT.sIx_none, Nat.sub_zero, List.drop_zero, Nat.min_eq_left h]
theorem cut_drop {xs : List V} {k : Nat} (h : k ≤ xs.length) : cutV xs (some (k : Int)) none = xs.drop k := by
  unfold cutV
  rw [HT.sIx_nat, HT.sIx_none, Nat.min_eq_left h, List.take_of_length_le (by rw [List.length_drop]; omega)]
theorem paired_put {F : V → (Int × Int) → Prop} {vt : List V} {ys : List (Int × Int)} {k : Nat} {v : V} {y : Int × Int} (p : Paired F vt ys) (r : F v y) (hk : k < vt.length) :
    Paired F (cutV vt none (some (k : Int)) ++ [v] ++ cutV vt (some ((k : Int) + 1)) none) (ys.take k ++ [y] ++ ys.drop (k + 1)) := by
  rw [cut_take (by omega), show ((k : Int) + 1) = ((k + 1 : Nat) : Int) from rfl, cut_drop (by omega)]
  exact ND.paired_app (ND.paired_app (paired_take k p) (.cons r .nil)) (paired_drop (k + 1) p)
/-- the last step: the tuple of two -/
theorem two_ret {H0 H : Hp} {b c : Addr} {v1 v2 : V} {w1 w2 : WN} {s f : Int} {Q : VK} (q : ∀ v w1 s w2 f H', But b H0 H' → Bag H' b c → TwoV H' v w1 s w2 f → okTwo w1 s w2 f → Q v H') (S : But b H0 H) (g : Bag H b c) (h1 : PlanV H v1 w1) (h2 : PlanV H v2 w2) (ok : okTwo w1 s w2 f) :
    4 ≤ sizeLine ∧ ∀ r, H r = none → Q (.ref r) (upd H r (.tup [v1, .int s, v2, .int f])) :=
  ⟨by decide, fun r nr => q _ w1 s w2 f _ (S.same (same_new nr)) (g.same (same_new nr)) ⟨r, v1, v2, rfl, upd_same, h1.mono (same_new nr), h2.mono (same_new nr)⟩ ok⟩
/-- .. the lift of the other not great -/
theorem two_retL {H0 H : Hp} {b c : Addr} {v1 v2 : V} {w1 w2 : WN} {s f : Int} {Q : VK} (hl : w2.lift ≤ 100000) (q : ∀ v w1 s w2 f H', But b H0 H' → Bag H' b c → TwoV H' v w1 s w2 f → okTwo w1 s w2 f → w2.lift ≤ 100000 → Q v H') (S : But b H0 H) (g : Bag H b c) (h1 : PlanV H v1 w1) (h2 : PlanV H v2 w2) (ok : okTwo w1 s w2 f) :
    4 ≤ sizeLine ∧ ∀ r, H r = none → Q (.ref r) (upd H r (.tup [v1, .int s, v2, .int f])) :=
  ⟨by decide, fun r nr => q _ w1 s w2 f _ (S.same (same_new nr)) (g.same (same_new nr)) ⟨r, v1, v2, rfl, upd_same, h1.mono (same_new nr), h2.mono (same_new nr)⟩ ok hl⟩
def spTwo : Sp := fun vs H Q _ => ∃ b c n, vs = [.ref b, .int n] ∧ 1 ≤ n ∧ n ≤ 100 ∧ Bag H b c ∧ ∀ v w1 s w2 f H', But b H H' → Bag H' b c → TwoV H' v w1 s w2 f → okTwo w1 s w2 f → w2.lift ≤ 100000 → Q v H'
theorem cal__law_two (T : Txt K mg) : C8.Cal P w K mg base 4 "_law_two" spTwo [] := by
  refine calD T.f__law_two T.g__law_two sc__law_two (fun fd F => F.bindsN fun _ _ _ _ _ _ us hl => match us, hl with | [_, _], _ => rfl) (fun vs H Q E h => by obtain ⟨_, _, _, rfl, _⟩ := h; rfl) fun cdv A outer s H vs Q E hr h => ?_
  refine ⟨_, (pss_cons (ps_set (i := 2) sc__law_two.nd rfl (by first | exact Or.inl rfl | exact Or.inr rfl) (C8.pe_c (cal__law_plan T) hr (by decide) rfl (pa_cons (pv 0) (pa_cons (pv 1) pa_nil)))) (pss_cons (ps_set (i := 3) sc__law_two.nd rfl (by first | exact Or.inl rfl | exact Or.inr rfl) (pe_op op_add pe_int (C8.pe_c (cal__law_take T) hr (by decide) rfl (pa_cons (pv 0) (pa_cons (pe_ix ix_tup (pv 2) pe_int (fun _ _ => rfl)) pa_nil))))) (pss_cons (ps_asg (pv 2) (pg_tup rfl (pgs_cons (pg_name (i := 4) sc__law_two.nd rfl (by first | exact Or.inl rfl | exact Or.inr rfl)) (pgs_cons (pg_name (i := 5) sc__law_two.nd rfl (by first | exact Or.inl rfl | exact Or.inr rfl)) (pgs_cons (pg_name (i := 6) sc__law_two.nd rfl (by first | exact Or.inl rfl | exact Or.inr rfl)) (pgs_cons (pg_name (i := 7) sc__law_two.nd rfl (by first | exact Or.inl rfl | exact Or.inr rfl)) (pgs_cons (pg_name (i := 8) sc__law_two.nd rfl (by first | exact Or.inl rfl | exact Or.inr rfl)) pgs_nil))))))) (pss_cons (ps_set (i := 9) sc__law_two.nd rfl (by first | exact Or.inl rfl | exact Or.inr rfl) (C8.pe_c (cal__law_take T) hr (by decide) rfl (pa_cons (pv 0) (pa_cons pe_int pa_nil)))) (pss_cons (ps_if (pt_cmpR op_eq (pv 9) pe_int (nomark _)) (pss_one (ps_ret (pe_tup (pa_cons (pv 2) (pa_cons (pv 3) (pa_cons (pe_tup (pa_cons (pv 4) (pa_cons (pe_op op_rep (pv 5) pe_int) (pa_cons (pv 6) (pa_cons (pv 7) (pa_cons (pv 8) pa_nil)))))) (pa_cons (pv 3) pa_nil))))))) pss_nil) (pss_cons (ps_if (pt_cmpR op_eq (pv 9) pe_int (nomark _)) (pss_one (ps_ret (pe_tup (pa_cons (pv 2) (pa_cons (pv 3) (pa_cons (pe_tup (pa_cons (pe_op op_cat (pv 4) (pv 5)) (pa_cons (pv 5) (pa_cons (pv 6) (pa_cons (pv 7) (pa_cons (pv 8) pa_nil)))))) (pa_cons (pv 3) pa_nil))))))) pss_nil) (pss_cons (ps_if (pt_cmpR op_eq (pv 9) pe_int (nomark _)) (pss_cons (ps_set (i := 2) sc__law_two.nd rfl (by first | exact Or.inl rfl | exact Or.inr rfl) (pe_tup (pa_cons (pv 4) (pa_cons (pe_op op_rep (pv 5) pe_int) (pa_cons (pv 6) (pa_cons (pv 7) (pa_cons (pv 8) pa_nil))))))) (pss_one (ps_ret (pe_tup (pa_cons (pv 2) (pa_cons (pv 3) (pa_cons (pe_tup (pa_cons (pe_op op_cat (pv 4) (pe_op op_rep (pv 5) pe_int)) (pa_cons (pe_op op_rep (pv 5) pe_int) (pa_cons (pv 6) (pa_cons (pv 7) (pa_cons (pv 8) pa_nil)))))) (pa_cons (pv 3) pa_nil)))))))) pss_nil) (pss_cons (ps_if (pt_cmpR op_eq (pv 9) pe_int (nomark _)) (pss_one (ps_ret (pe_tup (pa_cons (pv 2) (pa_cons (pv 3) (pa_cons (pe_tup (pa_cons (pv 4) (pa_cons (pv 5) (pa_cons (pe_op op_add (pe_op op_add (pv 6) pe_int) (C8.pe_c (cal__law_take T) hr (by decide) rfl (pa_cons (pv 0) (pa_cons pe_int pa_nil)))) (pa_cons (pv 7) (pa_cons (pv 8) pa_nil)))))) (pa_cons (pv 3) pa_nil))))))) pss_nil) (pss_cons (ps_if (pt_cmpR op_eq (pv 9) pe_int (nomark _)) (pss_one (ps_ret (pe_tup (pa_cons (pv 2) (pa_cons (pv 3) (pa_cons (pv 2) (pa_cons (pe_op op_add pe_int (C8.pe_c (cal__law_take T) hr (by decide) rfl (pa_cons (pv 0) (pa_cons (pv 6) pa_nil)))) pa_nil))))))) pss_nil) (pss_cons (ps_if (pt_cmpR op_eq (pv 9) pe_int (nomark _)) (pss_one (ps_ret (pe_tup (pa_cons (pv 2) (pa_cons (pv 3) (pa_cons (pe_tup (pa_cons (pv 4) (pa_cons (pv 5) (pa_cons (pv 6) (pa_cons (pe_op op_add (pv 7) pe_int) (pa_cons (pe_not (pv 8)) pa_nil)))))) (pa_cons (pv 3) pa_nil))))))) pss_nil) (pss_cons (ps_if (pt_cmpR op_eq (pv 9) pe_int (nomark _)) (pss_cons (ps_set (i := 10) sc__law_two.nd rfl (by first | exact Or.inl rfl | exact Or.inr rfl) (C8.pe_c (cal__law_take T) hr (by decide) rfl (pa_cons (pv 0) (pa_cons (pe_callB call_len (by rfl) T.b_len (by decide +kernel) (pa_cons (pv 5) pa_nil)) pa_nil)))) (pss_cons (ps_set (i := 11) sc__law_two.nd rfl (by first | exact Or.inl rfl | exact Or.inr rfl) (pe_op op_cat (pe_op op_cat (pe_slice sl_list (pv 5) po_none (po_some (pv 10))) (pe_lst (pa_cons (pe_tup (pa_cons (pe_ix ix_seq (pe_ix ix_list (pv 5) (pv 10) (fun _ _ => rfl)) pe_int (fun _ _ => rfl)) (pa_cons (pe_op op_add (pe_ix ix_seq (pe_ix ix_list (pv 5) (pv 10) (fun _ _ => rfl)) pe_int (fun _ _ => rfl)) pe_int) pa_nil))) pa_nil))) (pe_slice sl_list (pv 5) (po_some (pe_op op_add (pv 10) pe_int)) po_none))) (pss_one (ps_ret (pe_tup (pa_cons (pv 2) (pa_cons (pv 3) (pa_cons (pe_tup (pa_cons (pv 4) (pa_cons (pv 11) (pa_cons (pv 6) (pa_cons (pv 7) (pa_cons (pv 8) pa_nil)))))) (pa_cons (pv 3) pa_nil))))))))) pss_nil) (pss_cons (ps_set (i := 12) sc__law_two.nd rfl (by first | exact Or.inl rfl | exact Or.inr rfl) (C8.pe_c (cal__law_plan T) hr (by decide) rfl (pa_cons (pv 0) (pa_cons (pv 1) pa_nil)))) (pss_one (ps_ret (pe_tup (pa_cons (pv 2) (pa_cons (pv 3) (pa_cons (pv 12) (pa_cons (pe_op op_add pe_int (C8.pe_c (cal__law_take T) hr (by decide) rfl (pa_cons (pv 0) (pa_cons (pe_ix ix_tup (pv 12) pe_int (fun _ _ => rfl)) pa_nil)))) pa_nil))))))))))))))))))), ?_⟩
  obtain ⟨b, c, n, rfl, n1, n2, g, q⟩ := h
  refine ⟨_, rfl, _, rfl, b, c, n, rfl, n1, by omega, g, fun v w1 H1 s1 g1 hv ok => ?_⟩
  obtain ⟨p, ah, at_, rfl, hp, sh, st⟩ := id hv
  refine ⟨_, rfl, _, rfl, p, _, _, _, rfl, rfl, SqT.of hp, rfl, b, c, _, rfl, g1, ok.c1, by have := ok.c2; omega, fun v1 H2 a1 a2 s2 g2 => ⟨_, _, rfl, rfl, ?_⟩⟩
  have hp2 := tupB g1 s2 hp
  have sh2 := sh.but g1 s2
  have st2 := st.but g1 s2
  refine ⟨_, rfl, p, _, rfl, SqT.of hp2, rfl, _, _, rfl, _, _, rfl, _, _, rfl, _, _, rfl, _, _, rfl, rfl, ?_⟩
  refine ⟨_, rfl, b, c, 9, rfl, g2, by decide, by decide, fun v2 H3 r1 r2 s3 g3 => ?_⟩
  have hp := tupB g2 s3 hp2
  have sh := sh2.but g2 s3
  have st := st2.but g2 s3
  have S := (s1.trans s2).trans s3
  have P1 : PlanV H3 (.ref p) w1 := ⟨p, ah, at_, rfl, hp, sh, st⟩
  have hst : 1 ≤ 1 + v1 ∧ 1 + v1 ≤ w1.cap := by omega
  clear hp2 sh2 st2 s1 s2 s3 g1 g2
  obtain ⟨vh, hh, ph⟩ := id sh
  obtain ⟨vt, ht, pt⟩ := id st
  have lh := paired_len ph
  have lt := paired_len pt
  have o1 := ok.hl
  have o2 := ok.tl
  have ok1 := ok.ok
  have oc1 := ok.c1
  have oc2 := ok.c2
  have ol1 := ok.l1
  have ol2 := ok.l2
  refine ⟨_, rfl, rfl, _, rfl, ite2 (fun _ => ?_) fun _ => ?_⟩
  · -- tail * 2
    refine ⟨_, rfl, _, rfl, _, rfl, _, rfl, at_, 2, vt, rfl, rfl, ht, by decide, by decide, Nat.le_of_lt (small1000 (by show vt.length * 2 ≤ 1000; omega)), fun l nl => ?_⟩
    refine ⟨_, rfl, _, rfl, _, rfl, by show 5 ≤ sizeLine; decide, fun p2 np2 => ⟨_, rfl, ?_⟩⟩
    have Z := (same_new nl (o := .lst (List.replicate (2 : Int).toNat vt).flatten)).trans (same_new np2 (o := .tup [.ref ah, .ref l, .int w1.cap, .int w1.lift, .bl w1.anew]))
    refine two_retL (by first | omega | (dsimp only; omega)) q (S.same Z) (g3.same Z) (P1.mono Z) (w2 := ⟨w1.head, (List.replicate 2 w1.tail).flatten, w1.cap, w1.lift, w1.anew⟩) ⟨p2, ah, l, rfl, upd_same, sh.mono Z, ⟨_, same_new np2 _ _ upd_same, Paired.mapP (paired_rep pt 2) fun _ _ => StepV.mono Z⟩⟩ ⟨ok1, ⟨ok1.h, ok1.hl, ?_, tl_of ?_, ok1.c1, ok1.c2, ok1.l1, ok1.l2⟩, hst.1, hst.2, hst.1, hst.2⟩
    · intro x hx
      simp at hx
      exact ok1.t x hx
    · simp; omega
  refine ⟨_, rfl, rfl, _, rfl, ite2 (fun _ => ?_) fun _ => ?_⟩
  · -- head + tail
    refine ⟨_, rfl, _, rfl, _, rfl, _, rfl, ah, at_, vh, vt, rfl, rfl, hh, ht, Nat.le_of_lt (small1000 (by omega)), fun l nl => ?_⟩
    refine ⟨_, rfl, _, rfl, _, rfl, _, rfl, by show 5 ≤ sizeLine; decide, fun p2 np2 => ⟨_, rfl, ?_⟩⟩
    have Z := (same_new nl (o := .lst (vh ++ vt))).trans (same_new np2 (o := .tup [.ref l, .ref at_, .int w1.cap, .int w1.lift, .bl w1.anew]))
    refine two_retL (by first | omega | (dsimp only; omega)) q (S.same Z) (g3.same Z) (P1.mono Z) (w2 := ⟨w1.head ++ w1.tail, w1.tail, w1.cap, w1.lift, w1.anew⟩) ⟨p2, l, at_, rfl, upd_same, ⟨_, same_new np2 _ _ upd_same, Paired.mapP (ND.paired_app ph pt) fun _ _ => StepV.mono Z⟩, st.mono Z⟩ ⟨ok1, ⟨?_, ?_, ok1.t, ok1.tl, ok1.c1, ok1.c2, ok1.l1, ok1.l2⟩, hst.1, hst.2, hst.1, hst.2⟩
    · intro x hx
      rcases List.mem_append.mp hx with hx | hx
      · exact ok1.h x hx
      · exact ok1.t x hx
    · show (w1.head ++ w1.tail).length ≤ 24
      rw [List.length_append]; omega
  refine ⟨_, rfl, rfl, _, rfl, ite2 (fun _ => ?_) fun _ => ?_⟩
  · -- tail * 4; head + tail * 2, tail * 2
    refine ⟨_, rfl, _, rfl, at_, 4, vt, rfl, rfl, ht, by decide, by decide, Nat.le_of_lt (small1000 (by show vt.length * 4 ≤ 1000; omega)), fun l nl => ?_⟩
    refine ⟨_, rfl, _, rfl, _, rfl, by show 5 ≤ sizeLine; decide, fun p2 np2 => ?_⟩
    have Z := (same_new nl (o := .lst (List.replicate (4 : Int).toNat vt).flatten)).trans (same_new np2 (o := .tup [.ref ah, .ref l, .int w1.cap, .int w1.lift, .bl w1.anew]))
    have P2 : PlanV (upd (upd H3 l (.lst (List.replicate (4 : Int).toNat vt).flatten)) p2 (.tup [.ref ah, .ref l, .int w1.cap, .int w1.lift, .bl w1.anew])) (.ref p2) ⟨w1.head, (List.replicate 4 w1.tail).flatten, w1.cap, w1.lift, w1.anew⟩ :=
      ⟨p2, ah, l, rfl, upd_same, sh.mono Z, ⟨_, same_new np2 _ _ upd_same, Paired.mapP (paired_rep pt 4) fun _ _ => StepV.mono Z⟩⟩
    have S := S.same Z
    have g4 := g3.same Z
    have ht := Z _ _ ht
    have hh := Z _ _ hh
    have pt := Paired.mapP pt fun _ _ => StepV.mono Z
    have ph := Paired.mapP ph fun _ _ => StepV.mono Z
    refine ⟨_, rfl, _, rfl, _, rfl, _, rfl, at_, 2, vt, rfl, rfl, ht, by decide, by decide, Nat.le_of_lt (small1000 (by show vt.length * 2 ≤ 1000; omega)), fun l1 nl1 => ?_⟩
    have Z1 := same_new nl1 (o := .lst (List.replicate (2 : Int).toNat vt).flatten)
    refine ⟨ah, l1, vh, _, rfl, rfl, Z1 _ _ hh, upd_same, Nat.le_of_lt (small1000 (by simp; omega)), fun l2 nl2 => ?_⟩
    have Z2 := Z1.trans (same_new nl2 (o := .lst (vh ++ (List.replicate (2 : Int).toNat vt).flatten)))
    refine ⟨_, rfl, at_, 2, vt, rfl, rfl, Z2 _ _ ht, by decide, by decide, Nat.le_of_lt (small1000 (by show vt.length * 2 ≤ 1000; omega)), fun l3 nl3 => ?_⟩
    have Z3 := Z2.trans (same_new nl3 (o := .lst (List.replicate (2 : Int).toNat vt).flatten))
    refine ⟨_, rfl, _, rfl, _, rfl, by show 5 ≤ sizeLine; decide, fun p3 np3 => ⟨_, rfl, ?_⟩⟩
    have Z4 := Z3.trans (same_new np3 (o := .tup [.ref l2, .ref l3, .int w1.cap, .int w1.lift, .bl w1.anew]))
    refine two_retL (by first | omega | (dsimp only; omega)) q (S.same Z4) (g4.same Z4) (P2.mono Z4) (w2 := ⟨w1.head ++ (List.replicate 2 w1.tail).flatten, (List.replicate 2 w1.tail).flatten, w1.cap, w1.lift, w1.anew⟩)
      ⟨p3, l2, l3, rfl, upd_same, ⟨_, same_new np3 _ _ (same_new nl3 _ _ upd_same), Paired.mapP (ND.paired_app ph (paired_rep pt 2)) fun _ _ => StepV.mono Z4⟩, ⟨_, same_new np3 _ _ upd_same, Paired.mapP (paired_rep pt 2) fun _ _ => StepV.mono Z4⟩⟩
      ⟨⟨ok1.h, ok1.hl, ?_, tl_of ?_, ok1.c1, ok1.c2, ok1.l1, ok1.l2⟩, ⟨?_, ?_, ?_, tl_of ?_, ok1.c1, ok1.c2, ok1.l1, ok1.l2⟩, hst.1, hst.2, hst.1, hst.2⟩
    · intro x hx
      simp at hx
      exact ok1.t x hx
    · simp; omega
    · intro x hx
      rcases List.mem_append.mp hx with hx | hx
      · exact ok1.h x hx
      · simp at hx; exact ok1.t x hx
    · simp; omega
    · intro x hx
      simp at hx
      exact ok1.t x hx
    · simp; omega
  refine ⟨_, rfl, rfl, _, rfl, ite2 (fun _ => ?_) fun _ => ?_⟩
  · -- a greater cap
    refine ⟨_, rfl, _, rfl, _, rfl, _, rfl, _, rfl, _, _, rfl, rfl, _, rfl, b, c, 2, rfl, g3, by decide, by decide, fun v4 H4 d1 d2 s4 g4 => ⟨_, _, rfl, rfl, ?_⟩⟩
    refine ⟨_, rfl, _, rfl, by show 5 ≤ sizeLine; decide, fun p2 np2 => ⟨_, rfl, ?_⟩⟩
    have Z := same_new np2 (o := .tup [.ref ah, .ref at_, .int (w1.cap + 1 + v4), .int w1.lift, .bl w1.anew])
    refine two_retL (by first | omega | (dsimp only; omega)) q ((S.trans s4).same Z) (g4.same Z) ((P1.but g3 s4).mono Z) (w2 := ⟨w1.head, w1.tail, w1.cap + 1 + v4, w1.lift, w1.anew⟩) ⟨p2, ah, at_, rfl, upd_same, (sh.but g3 s4).mono Z, (st.but g3 s4).mono Z⟩ ⟨ok1, ⟨ok1.h, ok1.hl, ok1.t, ok1.tl, ?_, ?_, ok1.l1, ok1.l2⟩, hst.1, hst.2, hst.1, ?_⟩
    · show 1 ≤ w1.cap + 1 + v4; omega
    · show w1.cap + 1 + v4 ≤ 1000000000; omega
    · show 1 + v1 ≤ w1.cap + 1 + v4; omega
  refine ⟨_, rfl, rfl, _, rfl, ite2 (fun _ => ?_) fun _ => ?_⟩
  · -- another strength
    refine ⟨_, rfl, _, rfl, _, rfl, _, rfl, _, rfl, b, c, _, rfl, g3, ok.c1, by omega, fun v4 H4 d1 d2 s4 g4 => ⟨_, _, rfl, rfl, ?_⟩⟩
    exact two_retL (by first | omega | (dsimp only; omega)) q (S.trans s4) g4 (P1.but g3 s4) (P1.but g3 s4) ⟨ok1, ok1, hst.1, hst.2, by omega, by omega⟩
  refine ⟨_, rfl, rfl, _, rfl, ite2 (fun _ => ?_) fun _ => ?_⟩
  · -- another lift, anew turned
    refine ⟨_, rfl, _, rfl, _, rfl, _, rfl, _, rfl, _, rfl, _, _, rfl, rfl, _, rfl, ?_⟩
    refine ⟨_, rfl, by show 5 ≤ sizeLine; decide, fun p2 np2 => ⟨_, rfl, ?_⟩⟩
    have Z := same_new np2 (o := .tup [.ref ah, .ref at_, .int w1.cap, .int (w1.lift + 1), .bl (!w1.anew)])
    refine two_retL (by first | omega | (dsimp only; omega)) q (S.same Z) (g3.same Z) (P1.mono Z) (w2 := ⟨w1.head, w1.tail, w1.cap, w1.lift + 1, !w1.anew⟩) ⟨p2, ah, at_, rfl, upd_same, sh.mono Z, st.mono Z⟩ ⟨ok1, ⟨ok1.h, ok1.hl, ok1.t, ok1.tl, ok1.c1, ok1.c2, ?_, ?_⟩, hst.1, hst.2, hst.1, hst.2⟩
    · show 0 ≤ w1.lift + 1; omega
    · show w1.lift + 1 ≤ 1000000000; omega
  refine ⟨_, rfl, rfl, _, rfl, ite2 (fun _ => ?_) fun _ => ?_⟩
  · -- a step put otherwise
    refine ⟨_, rfl, _, rfl, _, _, rfl, .inl ⟨_, SqL.of ht, rfl⟩, b, c, _, rfl, g3, by omega, by omega, fun v4 H4 d1 d2 s4 g4 => ?_⟩
    obtain ⟨k, rfl⟩ := Int.eq_ofNat_of_zero_le d1
    have hk : k < vt.length := by omega
    have ht := (show H4 at_ = some (.lst vt) from s4 _ _ (g3.ne ht pt) ht)
    have sh := sh.but g3 s4
    have pt := Paired.mapP pt fun _ _ => StepV.but g3 s4
    have P1 := P1.but g3 s4
    have S := S.trans s4
    obtain ⟨x, hx, b0, e0, hb0⟩ := paired_get pt (List.getElem?_eq_getElem hk)
    have hx0 : vt[k]? = some (.ref b0) := by rw [List.getElem?_eq_getElem hk, e0]
    have okx := ok.t x (List.mem_of_getElem? hx)
    refine ⟨_, rfl, _, rfl, _, rfl, at_, vt, rfl, SqL.of ht, fun la na => ?_⟩
    have Z1 := same_new na (o := .lst (cutV vt none (some (k : Int))))
    refine ⟨_, rfl, _, rfl, at_, vt, _, _, rfl, rfl, SqL.of (Z1 _ _ ht), atI_nat hx0, .inr (.inl ⟨b0, _, 0, _, rfl, rfl, SqT.of (Z1 _ _ hb0), rfl, ?_⟩)⟩
    refine ⟨_, rfl, _, rfl, at_, vt, _, _, rfl, rfl, SqL.of (Z1 _ _ ht), atI_nat hx0, .inr (.inl ⟨b0, _, 1, _, rfl, rfl, SqT.of (Z1 _ _ hb0), rfl, ?_⟩)⟩
    refine ⟨_, _, rfl, rfl, by show 2 ≤ sizeLine; decide, fun t nt => ⟨by show 1 ≤ sizeLine; decide, fun lb nb => ?_⟩⟩
    have Z2 := (Z1.trans (same_new nt (o := .tup [.int x.1, .int (x.2 + 1)]))).trans (same_new nb (o := .lst [.ref t]))
    refine ⟨la, lb, _, _, rfl, rfl, same_new nb _ _ (same_new nt _ _ upd_same), upd_same, Nat.le_of_lt (small1000 (by have := cutV_length vt none (some (k : Int)); show _ + 1 ≤ 1000; omega)), fun lc nc => ?_⟩
    have Z3 := Z2.trans (same_new nc (o := .lst (cutV vt none (some (k : Int)) ++ [.ref t])))
    refine ⟨_, rfl, _, rfl, _, _, rfl, rfl, _, rfl, at_, vt, rfl, SqL.of (Z3 _ _ ht), fun ld nd => ?_⟩
    have Z4 := Z3.trans (same_new nd (o := .lst (cutV vt (some ((k : Int) + 1)) none)))
    refine ⟨lc, ld, _, _, rfl, rfl, same_new nd _ _ upd_same, upd_same, Nat.le_of_lt (small1000 (by have := cutV_length vt none (some (k : Int)); have := cutV_length vt (some ((k : Int) + 1)) none; rw [List.length_append, List.length_singleton]; omega)), fun le ne => ?_⟩
    have Z5 := Z4.trans (same_new ne (o := .lst (cutV vt none (some (k : Int)) ++ [.ref t] ++ cutV vt (some ((k : Int) + 1)) none)))
    refine ⟨_, rfl, _, rfl, _, rfl, _, rfl, _, rfl, _, rfl, _, rfl, by show 5 ≤ sizeLine; decide, fun p2 np2 => ⟨_, rfl, ?_⟩⟩
    have Z := Z5.trans (same_new np2 (o := .tup [.ref ah, .ref le, .int w1.cap, .int w1.lift, .bl w1.anew]))
    refine two_retL (by first | omega | (dsimp only; omega)) q (S.same Z) (g4.same Z) (P1.mono Z) (w2 := ⟨w1.head, w1.tail.take k ++ [(x.1, x.2 + 1)] ++ w1.tail.drop (k + 1), w1.cap, w1.lift, w1.anew⟩)
      ⟨p2, ah, le, rfl, upd_same, sh.mono Z, ⟨_, same_new np2 _ _ upd_same, ?_⟩⟩ ⟨ok1, ⟨ok1.h, ok1.hl, ?_, tl_of ?_, ok1.c1, ok1.c2, ok1.l1, ok1.l2⟩, hst.1, hst.2, hst.1, hst.2⟩
    · exact paired_put (Paired.mapP pt fun _ _ => StepV.mono Z) ⟨t, rfl, same_new np2 _ _ (same_new ne _ _ (same_new nd _ _ (same_new nc _ _ (same_new nb _ _ upd_same))))⟩ hk
    · intro y hy
      rcases List.mem_append.mp hy with hy | hy
      · rcases List.mem_append.mp hy with hy | hy
        · exact ok1.t y (List.mem_of_mem_take hy)
        · rw [List.mem_singleton.mp hy]
          exact ⟨okx.1, okx.2.1, by have := okx.2.2.1; show 0 ≤ x.2 + 1; omega, by have := okx.2.2.2; show x.2 + 1 ≤ 1000000000; omega⟩
      · exact ok1.t y (List.mem_of_mem_drop hy)
    · show (w1.tail.take k ++ [(x.1, x.2 + 1)] ++ w1.tail.drop (k + 1)).length = 1 ∨ _
      rw [List.length_append, List.length_append, List.length_take, List.length_drop, List.length_singleton]; omega
  · -- drawn alone
    refine ⟨_, rfl, _, rfl, b, c, n, rfl, n1, by omega, g3, fun v w2 H4 s4 g4 hv oko => ?_⟩
    obtain ⟨p2, ah2, at2, rfl, hp2, sh2, st2⟩ := id hv
    have oc3 := oko.c1
    have oc4 := oko.c2
    refine ⟨_, rfl, _, rfl, _, rfl, _, rfl, _, rfl, p2, _, _, _, rfl, rfl, SqT.of hp2, rfl, b, c, _, rfl, g4, oc3, by omega, fun v5 H5 d1 d2 s5 g5 => ⟨_, _, rfl, rfl, ?_⟩⟩
    exact two_retL (by have := oko.l2; omega) q ((S.trans s4).trans s5) g5 ((P1.but g3 s4).but g4 s5) (hv.but g4 s5) ⟨ok1, oko.ok, hst.1, hst.2, by omega, by omega⟩
end
end WH

set_option maxHeartbeats 4000000
namespace WH
open PySem PySem.Spec PyProof.Rows L2
section
variable {P : Program} {w : World} {K : PySem.W.Frag} {mg : Str → Option Value} {base : Heap}
theorem pick2 {a b v : Int} (h0 : 0 ≤ v) (h1 : v < 2) : ∃ y, (y = a ∨ y = b) ∧ atI [V.int a, V.int b] v = some (.int y) := by
  obtain rfl | rfl : v = 0 ∨ v = 1 := by omega
  · exact ⟨a, by simp, rfl⟩
  · exact ⟨b, by simp, rfl⟩
theorem pick3 {a b c v : Int} (h0 : 0 ≤ v) (h1 : v < 3) : ∃ y, (y = a ∨ y = b ∨ y = c) ∧ atI [V.int a, V.int b, V.int c] v = some (.int y) := by
  obtain rfl | rfl | rfl : v = 0 ∨ v = 1 ∨ v = 2 := by omega
  · exact ⟨a, by simp, rfl⟩
  · exact ⟨b, by simp, rfl⟩
  · exact ⟨c, by simp, rfl⟩
theorem paired_set {α β : Type} {F : α → β → Prop} {v : α} {y : β} (r : F v y) : ∀ {xs : List α} {ys : List β} (k : Nat), Paired F xs ys → Paired F (xs.set k v) (ys.set k y)
  | _, _, _, .nil => .nil
  | _, _, 0, .cons _ t => .cons r t
  | _, _, k + 1, .cons q t => .cons q (paired_set r k t)
theorem StepV.updL {H : Hp} {l : Addr} {xs : List V} {o : HO} {v : V} {x : Int × Int} (hl : H l = some (.lst xs)) (h : StepV H v x) : StepV (L2.upd H l o) v x := by
  obtain ⟨a, rfl, h⟩ := h
  exact ⟨a, rfl, by rw [upd_ne (fun z => by rw [z, hl] at h; cases h)]; exact h⟩
/-- a pair of step lists -/
abbrev HT2 := List (Int × Int) × List (Int × Int)
def HTV (H : Hp) (v : V) (x : HT2) : Prop := ∃ p ah at_, v = .ref p ∧ H p = some (.tup [.ref ah, .ref at_]) ∧ Steps H ah x.1 ∧ Steps H at_ x.2
structure okHT (x : HT2) : Prop where
  h : ∀ y ∈ x.1, okS y
  hl : x.1.length ≤ 24
  t : ∀ y ∈ x.2, okS y
  tl : (x.2.length : Int) ∈ tails
theorem HTV.but {H H' : Hp} {b c : Addr} (g : Bag H b c) (s : But b H H') {v : V} {x : HT2} (h : HTV H v x) : HTV H' v x := by
  obtain ⟨p, ah, at_, rfl, h, s1, s2⟩ := h
  exact ⟨p, ah, at_, rfl, tupB g s h, s1.but g s, s2.but g s⟩
theorem HTV.mono {H H' : Hp} (s : Same H H') {v : V} {x : HT2} (h : HTV H v x) : HTV H' v x := by
  obtain ⟨p, ah, at_, rfl, h, s1, s2⟩ := h
  exact ⟨p, ah, at_, rfl, s _ _ h, s1.mono s, s2.mono s⟩
theorem HTV.ne {H : Hp} {l a : Addr} {vs : List V} {ps : List HT2} {xs : List (Int × Int)} (hl : H l = some (.lst vs)) (hp : Paired (HTV H) vs ps) (h0 : ps ≠ []) (h : Steps H a xs) : a ≠ l := fun z => by
  obtain ⟨vs', h, p⟩ := h
  rw [z, hl] at h
  cases h
  cases hp with
  | nil => exact h0 rfl
  | cons r _ =>
    obtain ⟨q, _, _, rfl, e, _⟩ := r
    cases p with
    | cons r' _ =>
      obtain ⟨q', e2, e'⟩ := r'
      cases e2
      rw [e] at e'; cases e'
theorem Steps.updL {H : Hp} {l a : Addr} {vs : List V} {o : HO} {xs : List (Int × Int)} (hl : H l = some (.lst vs)) (n : a ≠ l) (h : Steps H a xs) : Steps (L2.upd H l o) a xs := by
  obtain ⟨us, h, p⟩ := h
  exact ⟨us, by rw [upd_ne n]; exact h, Paired.mapP p fun _ _ => StepV.updL hl⟩
theorem HTV.updL {H : Hp} {l : Addr} {vs : List V} {ps : List HT2} {o : HO} {v : V} {x : HT2} (hl : H l = some (.lst vs)) (hp : Paired (HTV H) vs ps) (h0 : ps ≠ []) (h : HTV H v x) : HTV (L2.upd H l o) v x := by
  obtain ⟨p, ah, at_, rfl, h, s1, s2⟩ := h
  exact ⟨p, ah, at_, rfl, by rw [upd_ne (fun z => by rw [z, hl] at h; cases h)]; exact h, s1.updL hl (HTV.ne hl hp h0 s1), s2.updL hl (HTV.ne hl hp h0 s2)⟩
def spLong : Sp := fun vs H Q _ => ∃ b c, vs = [.ref b] ∧ Bag H b c ∧ ∀ v w1 s w2 f H', But b H H' → Bag H' b c → TwoV H' v w1 s w2 f → okTwo w1 s w2 f → Q v H'
def MidT (H : Hp) (b c : Addr) (σ : L2.St) (H' : Hp) : Prop := ∃ t xs, σ = [some (.ref b), some (.ref t), none, none, none, none] ∧ But b H H' ∧ Bag H' b c ∧ H t = none ∧ Steps H' t xs ∧ (∀ x ∈ xs, okS x) ∧ (xs.length = 8 ∨ xs.length = 12 ∨ xs.length = 24)
def MidH (H : Hp) (b c : Addr) (σ : L2.St) (H' : Hp) : Prop := ∃ t xs h hs, σ = [some (.ref b), some (.ref t), some (.ref h), none, none, none] ∧ But b H H' ∧ Bag H' b c ∧ Steps H' t xs ∧ (∀ x ∈ xs, okS x) ∧ (xs.length = 8 ∨ xs.length = 12 ∨ xs.length = 24) ∧ Steps H' h hs ∧ (∀ x ∈ hs, okS x) ∧ hs.length ≤ 24
def MidS (m : Nat) (H : Hp) (b c : Addr) (σ : L2.St) (H' : Hp) : Prop := ∃ t xs h hs l vs ps, σ = [some (.ref b), some (.ref t), some (.ref h), some (.ref l), none, none] ∧ But b H H' ∧ Bag H' b c ∧ Steps H' t xs ∧ (∀ x ∈ xs, okS x) ∧ (xs.length = 8 ∨ xs.length = 12 ∨ xs.length = 24) ∧ Steps H' h hs ∧ (∀ x ∈ hs, okS x) ∧ hs.length ≤ 24 ∧
  H l = none ∧ H' l = some (.lst vs) ∧ Paired (HTV H') vs ps ∧ (∀ p ∈ ps, okHT p) ∧ ps ≠ [] ∧ ps.length ≤ m
theorem MidS.add {m : Nat} {H H1 H2 : Hp} {b c t h l p : Addr} {xs hs : List (Int × Int)} {vs : List V} {ps : List HT2} {x : HT2} (g0 : Bag H b c) (S : But b H H1) (g : Bag H1 b c) (st : Steps H1 t xs) (okt : ∀ x ∈ xs, okS x) (lt : xs.length = 8 ∨ xs.length = 12 ∨ xs.length = 24) (sh : Steps H1 h hs) (okh : ∀ x ∈ hs, okS x) (lh : hs.length ≤ 24)
    (nl : H l = none) (hl : H1 l = some (.lst vs)) (hp : Paired (HTV H1) vs ps) (okp : ∀ p ∈ ps, okHT p) (h0 : ps ≠ []) (l9 : ps.length < m) (Z : Same H1 H2) (hx : HTV H2 (.ref p) x) (okx : okHT x) :
    MidS m H b c [some (.ref b), some (.ref t), some (.ref h), some (.ref l), none, none] (upd H2 l (.lst (vs ++ [.ref p]))) := by
  have hl2 := Z _ _ hl
  have hp2 := Paired.mapP hp fun _ _ => HTV.mono Z
  have lb : l ≠ b := g0.nb nl
  have lc : l ≠ c := fun z => by obtain ⟨_, _, _, _, g⟩ := g0; rw [z, g.c] at nl; cases nl
  refine ⟨t, xs, h, hs, l, _, ps ++ [x], rfl, (S.same Z).mut nl, (g.same Z).put lb lc, (st.mono Z).updL hl2 (HTV.ne hl2 hp2 h0 (st.mono Z)), okt, lt, (sh.mono Z).updL hl2 (HTV.ne hl2 hp2 h0 (sh.mono Z)), okh, lh, nl, upd_same,
    paired_snoc (Paired.mapP hp2 fun _ _ => HTV.updL hl2 hp2 h0) (HTV.updL hl2 hp2 h0 hx), ?_, by simp, by simp; omega⟩
  intro p hp
  rcases List.mem_append.mp hp with hp | hp
  · exact okp p hp
  · rw [List.mem_singleton.mp hp]; exact okx
theorem cal__law_long (T : Txt K mg) : C8.Cal P w K mg base 2 "_law_long" spLong [] := by
  refine calD T.f__law_long T.g__law_long sc__law_long (fun fd F => F.bindsN fun _ _ _ _ _ _ us hl => match us, hl with | [_], _ => rfl) (fun vs H Q E h => by obtain ⟨_, _, rfl, _⟩ := h; rfl) fun cdv A outer s H vs Q E hr h => ?_
  refine ⟨_, (C8.pss_cut (ps_set (i := 1) sc__law_long.nd rfl (by first | exact Or.inl rfl | exact Or.inr rfl) (pe_op op_rep (pe_lst (pa_cons (pe_tup (pa_cons pe_int (pa_cons pe_int pa_nil))) pa_nil)) (pe_ix ix_list (pe_lst (pa_cons pe_int (pa_cons pe_int (pa_cons pe_int pa_nil)))) (C8.pe_c (cal__law_take T) hr (by decide) rfl (pa_cons (pv 0) (pa_cons pe_int pa_nil))) (fun _ _ => rfl)))) (C8.pss_cut (ps_asg (pe_tup (pa_cons (pe_op op_add pe_int (C8.pe_c (cal__law_take T) hr (by decide) rfl (pa_cons (pv 0) (pa_cons pe_int pa_nil)))) (pa_cons (C8.pe_c (cal__law_take T) hr (by decide) rfl (pa_cons (pv 0) (pa_cons pe_int pa_nil))) pa_nil))) (pg_sub (pv 1) (C8.pe_c (cal__law_take T) hr (by decide) rfl (pa_cons (pv 0) (pa_cons (pe_callB call_len (by rfl) T.b_len (by decide +kernel) (pa_cons (pv 1) pa_nil)) pa_nil))) set_list)) (C8.pss_cut (ps_set (i := 2) sc__law_long.nd rfl (by first | exact Or.inl rfl | exact Or.inr rfl) (pe_op op_rep (pe_lst (pa_cons (pe_tup (pa_cons pe_int (pa_cons pe_int pa_nil))) pa_nil)) (pe_ix ix_list (pe_lst (pa_cons pe_int (pa_cons (C8.pe_c (cal__law_take T) hr (by decide) rfl (pa_cons (pv 0) (pa_cons pe_int pa_nil))) pa_nil))) (C8.pe_c (cal__law_take T) hr (by decide) rfl (pa_cons (pv 0) (pa_cons pe_int pa_nil))) (fun _ _ => rfl)))) (C8.pss_cut (ps_set (i := 3) sc__law_long.nd rfl (by first | exact Or.inl rfl | exact Or.inr rfl) (pe_lst (pa_cons (pe_tup (pa_cons (pv 2) (pa_cons (pv 1) pa_nil))) (pa_cons (pe_tup (pa_cons (pv 2) (pa_cons (pe_op op_cat (pe_slice sl_list (pv 1) (po_some pe_int) po_none) (pe_slice sl_list (pv 1) po_none (po_some pe_int))) pa_nil))) pa_nil)))) (C8.pss_cut (ps_if (pt_cmpR op_eq (pe_callB call_len (by rfl) T.b_len (by decide +kernel) (pa_cons (pv 1) pa_nil)) pe_int (nomark _)) (pss_one (ps_expr (pe_bm PySem.F.plainAttrs_list PySem.F.slot_list_append PySem.F.type_list_append mt_append (pv 3) (pa_cons (pe_tup (pa_cons (pv 2) (pa_cons (pe_op op_rep (pv 1) pe_int) pa_nil))) pa_nil)))) pss_nil) (C8.pss_cut (ps_if (pt_cmpR op_lt (pe_callB call_len (by rfl) T.b_len (by decide +kernel) (pa_cons (pe_op op_cat (pv 2) (pv 1)) pa_nil)) pe_int (nomark _)) (pss_one (ps_expr (pe_bm PySem.F.plainAttrs_list PySem.F.slot_list_append PySem.F.type_list_append mt_append (pv 3) (pa_cons (pe_tup (pa_cons (pe_op op_cat (pv 2) (pv 1)) (pa_cons (pv 1) pa_nil))) pa_nil)))) pss_nil) (pss_cons (ps_set (i := 4) sc__law_long.nd rfl (by first | exact Or.inl rfl | exact Or.inr rfl) (pe_op op_add pe_int (C8.pe_c (cal__law_take T) hr (by decide) rfl (pa_cons (pv 0) (pa_cons pe_int pa_nil))))) (C8.pss_cut (ps_set (i := 5) sc__law_long.nd rfl (by first | exact Or.inl rfl | exact Or.inr rfl) (pe_tup (pa_cons (pv 4) (pa_cons (C8.pe_c (cal__law_take T) hr (by decide) rfl (pa_cons (pv 0) (pa_cons (pe_op op_add (pv 4) pe_int) pa_nil))) (pa_cons (pe_cmpR op_eq (C8.pe_c (cal__law_take T) hr (by decide) rfl (pa_cons (pv 0) (pa_cons pe_int pa_nil))) pe_int (nomark _)) pa_nil))))) (pss_one (ps_ret (pe_tup (pa_cons (pe_op op_catT (pe_ix ix_list (pv 3) pe_int (fun _ _ => rfl)) (pv 5)) (pa_cons (pe_op op_add pe_int (C8.pe_c (cal__law_take T) hr (by decide) rfl (pa_cons (pv 0) (pa_cons (pv 4) pa_nil)))) (pa_cons (pe_op op_catT (pe_ix ix_list (pv 3) (C8.pe_c (cal__law_take T) hr (by decide) rfl (pa_cons (pv 0) (pa_cons (pe_callB call_len (by rfl) T.b_len (by decide +kernel) (pa_cons (pv 3) pa_nil)) pa_nil))) (fun _ _ => rfl)) (pv 5)) (pa_cons (pe_op op_add pe_int (C8.pe_c (cal__law_take T) hr (by decide) rfl (pa_cons (pv 0) (pa_cons (pv 4) pa_nil)))) pa_nil))))))))))))))), ?_⟩
  obtain ⟨b, c, rfl, g, q⟩ := h
  have one : okS (1, 0) := ⟨by decide, by decide, by decide, by decide⟩
  have rep : ∀ {H' : Hp} {t l : Addr} {k : Nat}, H' t = some (.tup [.int 1, .int 0]) → H' l = some (.lst (List.replicate k [V.ref t]).flatten) → Steps H' l (List.replicate k [((1 : Int), (0 : Int))]).flatten := fun h1 h2 => ⟨_, h2, paired_rep (.cons ⟨_, rfl, h1⟩ .nil) _⟩
  have repl : ∀ {k : Nat}, (List.replicate k [((1 : Int), (0 : Int))]).flatten.length = k := by simp
  have repo : ∀ {k : Nat}, ∀ x ∈ (List.replicate k [((1 : Int), (0 : Int))]).flatten, okS x := by
    intro k x hx
    simp at hx
    rw [hx.2]; exact one
  refine ⟨MidT H b c, ?_, ?_⟩
  · -- the tail
    refine ⟨by show 2 ≤ sizeLine; decide, fun t nt => ⟨by show 1 ≤ sizeLine; decide, fun l0 n0 => ⟨by show 3 ≤ sizeLine; decide, fun l1 n1 => ?_⟩⟩⟩
    have Z := ((same_new nt (o := .tup [.int 1, .int 0])).trans (same_new n0 (o := .lst [.ref t]))).trans (same_new n1 (o := .lst [.int 8, .int 12, .int 24]))
    have e1 := same_new n1 (o := .lst [.int 8, .int 12, .int 24]) _ _ (same_new n0 (o := .lst [.ref t]) _ _ (upd_same (H := H) (a := t) (o := .tup [.int 1, .int 0])))
    have e2 := same_new n1 (o := .lst [.int 8, .int 12, .int 24]) _ _ (upd_same (H := upd H t (.tup [.int 1, .int 0])) (a := l0) (o := .lst [.ref t]))
    have e3 := upd_same (H := upd (upd H t (.tup [.int 1, .int 0])) l0 (.lst [.ref t])) (a := l1) (o := .lst [.int 8, .int 12, .int 24])
    have g1 := g.same Z
    refine ⟨_, rfl, b, c, 3, rfl, g1, by decide, by decide, fun v1 H2 r1 r2 s2 g2 => ?_⟩
    obtain ⟨y, hy, ey⟩ := pick3 (a := 8) (b := 12) (c := 24) r1 r2
    refine ⟨l1, _, _, _, rfl, rfl, SqL.of (s2 _ _ (fun z => by rw [z] at n1; exact (g.same ((same_new nt).trans (same_new n0))).nb n1 rfl) e3), ey, ?_⟩
    have e1 := tupB g1 s2 e1
    have e2 := s2 _ _ (fun z => by rw [z] at n0; exact (g.same (same_new nt)).nb n0 rfl) e2
    refine ⟨l0, y, _, rfl, rfl, e2, by omega, by omega, Nat.le_of_lt (small1000 (by show 1 * y.toNat ≤ 1000; omega)), fun l nl => ?_⟩
    have S := (But.of Z).trans s2
    have nl0 : H l = none := by
      cases e : H l with
      | none => rfl
      | some o => 
        by_cases z : l = b
        · exact absurd z (g2.nb nl)
        · rw [S _ _ z e] at nl; cases nl
    refine ⟨l, _, rfl, S.same (same_new nl), g2.same (same_new nl), nl0, rep (same_new nl _ _ e1) upd_same, repo, ?_⟩
    rw [repl]; omega
  rintro σ H1 ⟨t, xs, rfl, S1, g1, nt, st, okt, lt⟩
  refine ⟨MidT H b c, ?_, ?_⟩
  · -- one step of it
    refine ⟨_, rfl, b, c, 2, rfl, g1, by decide, by decide, fun v1 H2 a1 a2 s2 g2 => ⟨_, _, rfl, rfl, ?_⟩⟩
    refine ⟨_, rfl, b, c, 2, rfl, g2, by decide, by decide, fun v2 H3 b1 b2 s3 g3 => ⟨by show 2 ≤ sizeLine; decide, fun p np => ?_⟩⟩
    have st3 := ((st.but g1 s2).but g2 s3).mono (same_new np (o := .tup [.int (1 + v1), .int v2]))
    obtain ⟨vt, ht, pt⟩ := id st3
    have lv := paired_len pt
    have g4 := g3.same (same_new np (o := .tup [.int (1 + v1), .int v2]))
    have S4 := ((S1.trans s2).trans s3).same (same_new np (o := .tup [.int (1 + v1), .int v2]))
    refine ⟨_, rfl, _, rfl, _, rfl, _, _, rfl, .inl ⟨_, SqL.of ht, rfl⟩, b, c, _, rfl, g4, by omega, by omega, fun v4 H5 c1 c2 s5 g5 => ?_⟩
    obtain ⟨k, rfl⟩ := Int.eq_ofNat_of_zero_le c1
    have ht5 := s5 _ _ (g4.ne ht pt) ht
    have hp5 := tupB g4 s5 (upd_same (H := H3) (a := p) (o := .tup [.int (1 + v1), .int v2]))
    have tb : t ≠ b := g.nb nt
    have tc : t ≠ c := fun z => by obtain ⟨_, _, _, _, g⟩ := g; rw [z, g.c] at nt; cases nt
    refine ⟨t, vt, k, k, rfl, rfl, ht5, ?_, t, xs.set k (1 + v1, v2), rfl, (S4.trans s5).mut nt, g5.put tb tc, nt, ⟨_, upd_same, paired_set (StepV.updL ht5 ⟨p, rfl, hp5⟩) k (Paired.mapP pt fun _ _ h => StepV.updL ht5 (StepV.but g4 s5 h))⟩, ?_, by rw [List.length_set]; exact lt⟩
    · unfold ixN
      rw [if_pos (by omega), if_pos (by omega)]; simp
    · intro x hx
      rcases List.mem_or_eq_of_mem_set hx with hx | hx
      · exact okt x hx
      · rw [hx]
        exact ⟨by show 1 ≤ 1 + v1; omega, by show 1 + v1 ≤ 9; omega, b1, by show v2 ≤ 1000000000; omega⟩
  rintro σ H1 ⟨t, xs, rfl, S1, g1, nt, st, okt, lt⟩
  refine ⟨MidH H b c, ?_, ?_⟩
  · -- the head
    refine ⟨by show 2 ≤ sizeLine; decide, fun t1 nt1 => ⟨by show 1 ≤ sizeLine; decide, fun l0 n0 => ?_⟩⟩
    have Z := (same_new nt1 (o := .tup [.int 1, .int 0])).trans (same_new n0 (o := .lst [.ref t1]))
    have e1 := same_new n0 (o := .lst [.ref t1]) _ _ (upd_same (H := H1) (a := t1) (o := .tup [.int 1, .int 0]))
    have e2 := (upd_same (H := upd H1 t1 (.tup [.int 1, .int 0])) (a := l0) (o := .lst [.ref t1]))
    have g2 := g1.same Z
    refine ⟨_, rfl, b, c, 25, rfl, g2, by decide, by decide, fun v1 H2 a1 a2 s2 g3 => ⟨by show 2 ≤ sizeLine; decide, fun l1 n1 => ?_⟩⟩
    refine ⟨_, rfl, b, c, 2, rfl, g3.same (same_new n1), by decide, by decide, fun v2 H3 r1 r2 s3 g4 => ?_⟩
    obtain ⟨y, hy, ey⟩ := pick2 (a := 0) (b := v1) r1 r2
    have l1b : l1 ≠ b := g3.nb n1
    have l0b : l0 ≠ b := (g1.same (same_new nt1)).nb n0
    refine ⟨l1, _, _, _, rfl, rfl, SqL.of (s3 _ _ l1b upd_same), ey, ?_⟩
    have s23 := (s2.same (same_new n1 (o := .lst [.int 0, .int v1]))).trans s3
    have e1 := tupB g2 s23 e1
    have e2 := s23 _ _ l0b e2
    refine ⟨l0, y, _, rfl, rfl, e2, by omega, by omega, Nat.le_of_lt (small1000 (by show 1 * y.toNat ≤ 1000; omega)), fun l nl => ?_⟩
    refine ⟨t, xs, l, _, rfl, ((S1.same Z).trans s23).same (same_new nl), g4.same (same_new nl), ((st.mono Z).but g2 s23).mono (same_new nl), okt, lt, rep (same_new nl _ _ e1) upd_same, repo, ?_⟩
    rw [repl]; omega
  rintro σ H1 ⟨t, xs, h, hs, rfl, S1, g1, st, okt, lt, sh, okh, lh⟩
  obtain ⟨vt, ht, pt⟩ := id st
  have lv := paired_len pt
  have tlx : (xs.length : Int) ∈ tails := tl_of (by omega)
  refine ⟨MidS 2 H b c, ?_, ?_⟩
  · -- some
    refine ⟨_, rfl, _, rfl, by show 2 ≤ sizeLine; decide, fun p1 np1 => ?_⟩
    have Z1 := same_new np1 (o := .tup [.ref h, .ref t])
    refine ⟨_, rfl, _, rfl, _, rfl, t, vt, rfl, SqL.of (Z1 _ _ ht), fun la na => ?_⟩
    have Z2 := Z1.trans (same_new na (o := .lst (cutV vt (some 1) none)))
    refine ⟨_, rfl, _, rfl, t, vt, rfl, SqL.of (Z2 _ _ ht), fun lb nb => ?_⟩
    have Z3 := Z2.trans (same_new nb (o := .lst (cutV vt none (some 1))))
    refine ⟨la, lb, _, _, rfl, rfl, same_new nb _ _ upd_same, upd_same, Nat.le_of_lt (small1000 (by have := cutV_length vt none (some 1); have := cutV_length vt (some 1) none; omega)), fun lc nc => ?_⟩
    have Z4 := Z3.trans (same_new nc (o := .lst (cutV vt (some 1) none ++ cutV vt none (some 1))))
    refine ⟨by show 2 ≤ sizeLine; decide, fun p2 np2 => ⟨by show 2 ≤ sizeLine; decide, fun l nl => ?_⟩⟩
    have Z5 := Z4.trans (same_new np2 (o := .tup [.ref h, .ref lc]))
    have Z6 := Z5.trans (same_new nl (o := .lst [.ref p1, .ref p2]))
    have S := S1.same Z6
    have hc := same_new nl (o := .lst [.ref p1, .ref p2]) _ _ (same_new np2 (o := .tup [.ref h, .ref lc]) _ _ (upd_same (a := lc) (H := upd (upd (upd H1 p1 (.tup [.ref h, .ref t])) la (.lst (cutV vt (some 1) none))) lb (.lst (cutV vt none (some 1)))) (o := .lst (cutV vt (some 1) none ++ cutV vt none (some 1)))))
    have h1 := same_new nl (o := .lst [.ref p1, .ref p2]) _ _ (same_new np2 (o := .tup [.ref h, .ref lc]) _ _ (same_new nc (o := .lst (cutV vt (some 1) none ++ cutV vt none (some 1))) _ _ (same_new nb (o := .lst (cutV vt none (some 1))) _ _ (same_new na (o := .lst (cutV vt (some 1) none)) _ _ (upd_same (a := p1) (H := H1) (o := .tup [.ref h, .ref t]))))))
    have h2 := same_new nl (o := .lst [.ref p1, .ref p2]) _ _ (upd_same (a := p2) (H := upd (upd (upd (upd H1 p1 (.tup [.ref h, .ref t])) la (.lst (cutV vt (some 1) none))) lb (.lst (cutV vt none (some 1)))) lc (.lst (cutV vt (some 1) none ++ cutV vt none (some 1)))) (o := .tup [.ref h, .ref lc]))
    have h3 := upd_same (a := l) (H := upd (upd (upd (upd (upd H1 p1 (.tup [.ref h, .ref t])) la (.lst (cutV vt (some 1) none))) lb (.lst (cutV vt none (some 1)))) lc (.lst (cutV vt (some 1) none ++ cutV vt none (some 1)))) p2 (.tup [.ref h, .ref lc])) (o := .lst [.ref p1, .ref p2])
    have nl0 : H l = none := by
      cases e : H l with
      | none => rfl
      | some o =>
        have lb : l ≠ b := (g1.same Z5).nb nl
        rw [(S1.same Z5) _ _ lb e] at nl; cases nl
    have g2 := g1.same Z6
    have st := st.mono Z6
    have sh := sh.mono Z6
    have ptz := Paired.mapP pt fun _ _ => StepV.mono Z6
    show MidS 2 H b c _ (upd (upd (upd (upd (upd (upd H1 p1 (.tup [.ref h, .ref t])) la (.lst (cutV vt (some 1) none))) lb (.lst (cutV vt none (some 1)))) lc (.lst (cutV vt (some 1) none ++ cutV vt none (some 1)))) p2 (.tup [.ref h, .ref lc])) l (.lst [.ref p1, .ref p2]))
    generalize upd (upd (upd (upd (upd (upd H1 p1 (.tup [.ref h, .ref t])) la (.lst (cutV vt (some 1) none))) lb (.lst (cutV vt none (some 1)))) lc (.lst (cutV vt (some 1) none ++ cutV vt none (some 1)))) p2 (.tup [.ref h, .ref lc])) l (.lst [.ref p1, .ref p2]) = H2 at S g2 st sh ptz hc h1 h2 h3 ⊢
    rw [show (some (1 : Int)) = some ((1 : Nat) : Int) from rfl, cut_drop (by omega), cut_take (by omega)] at hc
    refine ⟨t, xs, h, hs, l, _, [(hs, xs), (hs, xs.drop 1 ++ xs.take 1)], rfl, S, g2, st, okt, lt, sh, okh, lh, nl0, h3, .cons ⟨p1, h, t, rfl, h1, sh, st⟩ (.cons ⟨p2, h, lc, rfl, h2, sh, ⟨_, hc, ND.paired_app (paired_drop 1 ptz) (paired_take 1 ptz)⟩⟩ .nil), ?_, by simp, Nat.le_refl 2⟩
    intro p hp
    rcases List.mem_cons.mp hp with hp | hp
    · rw [hp]; exact ⟨okh, lh, okt, tlx⟩
    · rw [List.mem_singleton.mp hp]
      refine ⟨okh, lh, fun y hy => ?_, ?_⟩
      · rcases List.mem_append.mp hy with hy | hy
        · exact okt y (List.mem_of_mem_drop hy)
        · exact okt y (List.mem_of_mem_take hy)
      · have : (xs.drop 1 ++ xs.take 1).length = xs.length := by rw [List.length_append, List.length_drop, List.length_take]; omega
        show ((xs.drop 1 ++ xs.take 1).length : Int) ∈ tails
        rw [this]; exact tlx
  clear ht pt lv vt
  rintro σ H1 ⟨t, xs, h, hs, l, vs, ps, rfl, S1, g1, st, okt, lt, sh, okh, lh, nl, hl, hp, okp, h0, l9⟩
  refine ⟨MidS 3 H b c, ?_, ?_⟩
  · -- the tail twice
    obtain ⟨vt, ht, pt⟩ := id st
    have lv := paired_len pt
    refine ⟨_, rfl, _, _, rfl, .inl ⟨_, SqL.of ht, rfl⟩, rfl, _, rfl, ite2 (fun z => ?_) fun _ => ?_⟩
    · have z : (vt.length : Int) = 12 := by simpa using z
      refine ⟨_, rfl, .inl ⟨rfl, _, SqL.of hl⟩, _, rfl, _, rfl, t, 2, vt, rfl, rfl, ht, by decide, by decide, Nat.le_of_lt (small1000 (by show vt.length * 2 ≤ 1000; omega)), fun la na => ?_⟩
      refine ⟨by show 2 ≤ sizeLine; decide, fun p np => ?_⟩
      have Z := (same_new na (o := .lst (List.replicate (2 : Int).toNat vt).flatten)).trans (same_new np (o := .tup [.ref h, .ref la]))
      have lvp := paired_len hp
      refine ⟨l, vs, _, rfl, rfl, Z _ _ hl, small1000 (by omega), ?_⟩
      refine MidS.add g S1 g1 st okt lt sh okh lh nl hl hp okp h0 (Nat.lt_succ_of_le l9) Z (x := (hs, (List.replicate 2 xs).flatten)) ⟨p, h, la, rfl, upd_same, sh.mono Z, ⟨_, same_new np _ _ upd_same, Paired.mapP (paired_rep pt 2) fun _ _ => StepV.mono Z⟩⟩ ⟨okh, lh, ?_, tl_of ?_⟩
      · intro x hx
        simp at hx
        exact okt x hx
      · simp; omega
    · exact ⟨t, xs, h, hs, l, vs, ps, rfl, S1, g1, st, okt, lt, sh, okh, lh, nl, hl, hp, okp, h0, Nat.le_succ_of_le l9⟩
  clear S1 g1 st okt lt sh okh lh nl hl hp okp h0 l9
  rintro σ H1 ⟨t, xs, h, hs, l, vs, ps, rfl, S1, g1, st, okt, lt, sh, okh, lh, nl, hl, hp, okp, h0, l9⟩
  refine ⟨MidS 4 H b c, ?_, ?_⟩
  · -- the tail as a head
    have tlx : (xs.length : Int) ∈ tails := tl_of (by omega)
    obtain ⟨vt, ht, pt⟩ := id st
    obtain ⟨vh, hh, ph⟩ := id sh
    have lv := paired_len pt
    have lvh := paired_len ph
    refine ⟨_, rfl, _, rfl, h, t, vh, vt, rfl, rfl, hh, ht, Nat.le_of_lt (small1000 (by omega)), fun la na => ?_⟩
    have Z1 := same_new na (o := .lst (vh ++ vt))
    refine ⟨_, _, rfl, .inl ⟨_, SqL.of upd_same, rfl⟩, _, _, rfl, rfl, _, rfl, ite2 (fun z => ?_) fun _ => ?_⟩
    · have z : ((vh ++ vt).length : Int) < 25 := by simpa using z
      rw [List.length_append] at z
      refine ⟨_, rfl, .inl ⟨rfl, _, SqL.of (Z1 _ _ hl)⟩, _, rfl, _, rfl, h, t, vh, vt, rfl, rfl, Z1 _ _ hh, Z1 _ _ ht, Nat.le_of_lt (small1000 (by omega)), fun lb nb => ?_⟩
      have Z2 := Z1.trans (same_new nb (o := .lst (vh ++ vt)))
      refine ⟨_, rfl, by show 2 ≤ sizeLine; decide, fun p np => ?_⟩
      have Z := Z2.trans (same_new np (o := .tup [.ref lb, .ref t]))
      have lvp := paired_len hp
      refine ⟨l, vs, _, rfl, rfl, Z _ _ hl, small1000 (by omega), ?_⟩
      refine MidS.add g S1 g1 st okt lt sh okh lh nl hl hp okp h0 (Nat.lt_succ_of_le l9) Z (x := (hs ++ xs, xs)) ⟨p, lb, t, rfl, upd_same, ⟨_, same_new np _ _ upd_same, Paired.mapP (ND.paired_app ph pt) fun _ _ => StepV.mono Z⟩, st.mono Z⟩ ⟨?_, ?_, okt, tlx⟩
      · intro x hx
        rcases List.mem_append.mp hx with hx | hx
        · exact okh x hx
        · exact okt x hx
      · show (hs ++ xs).length ≤ 24
        rw [List.length_append]; omega
    · exact ⟨t, xs, h, hs, l, vs, ps, rfl, S1.same Z1, g1.same Z1, st.mono Z1, okt, lt, sh.mono Z1, okh, lh, nl, Z1 _ _ hl, Paired.mapP hp fun _ _ => HTV.mono Z1, okp, h0, Nat.le_succ_of_le l9⟩
  clear S1 g1 st okt lt sh okh lh nl hl hp okp h0 l9
  rintro σ H1 ⟨t, xs, h, hs, l, vs, ps, rfl, S1, g1, st, okt, lt, sh, okh, lh, nl, hl, hp, okp, h0, l9⟩
  have lb : l ≠ b := g.nb nl
  have lvp := paired_len hp
  refine ⟨_, rfl, b, c, 3, rfl, g1, by decide, by decide, fun v1 H2 a1 a2 s2 g2 => ⟨_, _, rfl, rfl, ?_⟩⟩
  refine ⟨fun σ H5 => ∃ pr v2 v3, 0 ≤ v2 ∧ v2 ≤ 1000 ∧ σ = [some (.ref b), some (.ref t), some (.ref h), some (.ref l), some (.int (1 + v1)), some (.ref pr)] ∧ But b H1 H5 ∧ Bag H5 b c ∧ H5 pr = some (.tup [.int (1 + v1), .int v2, .bl (decide (V.int v3 = V.int 0))]), ?_, ?_⟩
  · refine ⟨_, rfl, _, rfl, _, rfl, _, _, rfl, rfl, b, c, _, rfl, g2, by omega, by omega, fun v2 H3 b1 b2 s3 g3 => ?_⟩
    refine ⟨_, rfl, b, c, 2, rfl, g3, by decide, by decide, fun v3 H4 c1 c2 s4 g4 => ⟨rfl, by show 3 ≤ sizeLine; decide, fun pr nr => ?_⟩⟩
    exact ⟨pr, v2, v3, b1, by omega, rfl, ((s2.trans s3).trans s4).same (same_new nr), g4.same (same_new nr), upd_same⟩
  rintro σ H5 ⟨pr, v2, v3, b1, b2, rfl, S5, g5, hr⟩
  have hl5 := S5 _ _ lb hl
  have hp5 := Paired.mapP hp fun _ _ => HTV.but g1 S5
  have S1 := S1.trans S5
  -- one of some, with the rest
  have one_of : ∀ {H6 : Hp} {k : Nat} {v : V}, But b H5 H6 → vs[k]? = some v → ∃ q0 ah at_ x, v = .ref q0 ∧ H6 q0 = some (.tup [.ref ah, .ref at_]) ∧ Steps H6 ah x.1 ∧ Steps H6 at_ x.2 ∧ okHT x := by
    intro H6 k v s hk
    obtain ⟨x, hx, q0, ah, at_, e, e1, e2, e3⟩ := paired_get hp5 hk
    exact ⟨q0, ah, at_, x, e, tupB g5 s e1, e2.but g5 s, e3.but g5 s, okp x (List.mem_of_getElem? hx)⟩
  have okv : ∀ {x : HT2}, okHT x → okW ⟨x.1, x.2, 1 + v1, v2, decide (V.int v3 = V.int 0)⟩ := fun {x} o => ⟨o.h, o.hl, o.t, o.tl, by show 1 ≤ 1 + v1; omega, by show 1 + v1 ≤ 1000000000; omega, b1, by show v2 ≤ 1000000000; omega⟩
  have l0 : 0 < ps.length := List.length_pos_iff.mpr h0
  obtain ⟨q1, ah1, at1, x1, e1, h1, sh1, st1, ok1⟩ := one_of (But.refl b H5) (List.getElem?_eq_getElem (show 0 < vs.length by omega))
  have e1' : vs[0]? = some (.ref q1) := by rw [List.getElem?_eq_getElem (show 0 < vs.length by omega), e1]
  refine ⟨_, rfl, l, vs, 0, _, rfl, rfl, SqL.of hl5, atI_nat (j := 0) e1', _, rfl, q1, pr, _, _, rfl, rfl, SqT.of h1, SqT.of hr, by simp, by show 5 ≤ sizeLine; decide, fun e => (by cases e), fun _ p1 np1 => ?_⟩
  have Z6 := same_new np1 (o := .tup ([V.ref ah1, V.ref at1] ++ [V.int (1 + v1), V.int v2, .bl (decide (V.int v3 = V.int 0))]))
  have P1 : PlanV (upd H5 p1 (.tup ([V.ref ah1, V.ref at1] ++ [V.int (1 + v1), V.int v2, .bl (decide (V.int v3 = V.int 0))]))) (.ref p1) ⟨x1.1, x1.2, 1 + v1, v2, decide (V.int v3 = V.int 0)⟩ := ⟨p1, ah1, at1, rfl, upd_same, sh1.mono Z6, st1.mono Z6⟩
  refine ⟨_, rfl, _, rfl, b, c, _, rfl, g5.same Z6, by omega, by omega, fun v4 H7 d1 d2 s7 g7 => ⟨_, _, rfl, rfl, ?_⟩⟩
  have P1 := P1.but (g5.same Z6) s7
  have S7 := (But.of (b := b) Z6).trans s7
  have hl7 := S7 _ _ lb hl5
  refine ⟨_, rfl, _, rfl, _, rfl, _, _, rfl, .inl ⟨_, SqL.of hl7, rfl⟩, b, c, _, rfl, g7, by omega, by omega, fun v5 H8 i1 i2 s8 g8 => ?_⟩
  obtain ⟨k, rfl⟩ := Int.eq_ofNat_of_zero_le i1
  have S8 := S7.trans s8
  obtain ⟨q2, ah2, at2, x2, e2, h2, sh2, st2, ok2⟩ := one_of S8 (List.getElem?_eq_getElem (show k < vs.length by omega))
  have e2' : vs[k]? = some (.ref q2) := by rw [List.getElem?_eq_getElem (show k < vs.length by omega), e2]
  have hr8 := tupB g5 S8 hr
  have P1 := P1.but g7 s8
  refine ⟨l, vs, k, _, rfl, rfl, SqL.of (s8 _ _ lb hl7), atI_nat e2', _, rfl, q2, pr, _, _, rfl, rfl, SqT.of h2, SqT.of hr8, by simp, by show 5 ≤ sizeLine; decide, fun e => (by cases e), fun _ p2 np2 => ?_⟩
  have Z9 := same_new np2 (o := .tup ([V.ref ah2, V.ref at2] ++ [V.int (1 + v1), V.int v2, .bl (decide (V.int v3 = V.int 0))]))
  have P2 : PlanV (upd H8 p2 (.tup ([V.ref ah2, V.ref at2] ++ [V.int (1 + v1), V.int v2, .bl (decide (V.int v3 = V.int 0))]))) (.ref p2) ⟨x2.1, x2.2, 1 + v1, v2, decide (V.int v3 = V.int 0)⟩ := ⟨p2, ah2, at2, rfl, upd_same, sh2.mono Z9, st2.mono Z9⟩
  have g9 := g8.same Z9
  refine ⟨_, rfl, _, rfl, b, c, _, rfl, g9, by omega, by omega, fun v6 H10 j1 j2 s10 g10 => ⟨_, _, rfl, rfl, ?_⟩⟩
  exact two_ret q (((S1.trans S8).same Z9).trans s10) g10 ((P1.mono Z9).but g9 s10) (P2.but g9 s10) ⟨okv ok1, okv ok2, by omega, by show 1 + v4 ≤ 1 + v1; omega, by omega, by show 1 + v6 ≤ 1 + v1; omega⟩
end
end WH

set_option maxHeartbeats 4000000
/-! displays whose new object is told by what stands there, the heap behind it by no more -/
namespace NW
open PySem PySem.Spec PyProof.Rows L2
theorem same_fresh {H : Hp} {p : Addr} {o : HO} (h : H p = none) : Same H (upd H p o) := fun b u e => by rw [upd_ne (ne_of_none e h)]; exact e
def tTupN (t : TA) : TE := fun σ H Q => t σ H fun xs H1 => xs.length ≤ sizeLine ∧ ∀ p H2, H1 p = none → Same H1 H2 → H2 p = some (.tup xs) → Q (.ref p) H2
def tLstN (t : TA) : TE := fun σ H Q => t σ H fun xs H1 => xs.length ≤ sizeLine ∧ ∀ p H2, H1 p = none → Same H1 H2 → H2 p = some (.lst xs) → Q (.ref p) H2
section
variable {X : Cx} {es : List Expr} {t : TA} {pos : Pos}
theorem pe_tupN {x1} (h : PA X es t) : PE X (.Tuple es x1 pos) (tTupN t) := by
  refine ⟨fun pins s σ H Q I hq => ?_⟩
  refine wpAny_Tuple_spliced (thn (h.run pos pins s σ H _ I hq) fun us s1 ⟨xs, H1, I1, r, z, q⟩ => ⟨by rw [← r.length]; exact z, ?_⟩)
  have hf : H1 s1.heap.objs.size = none := I1.hok.fresh (Nat.le_refl _)
  exact ⟨.ref s1.heap.objs.size, upd H1 s1.heap.objs.size (.tup xs), I1.laid (t' := s1.toks) (fun b u e => Heap.get?_push_of_some _ e) (Nat.le_refl _) ⟨z, us, r, ⟨_, Heap.get?_push_size _ rfl, rfl, _, rfl⟩⟩, rfl, q _ _ hf (same_fresh hf) upd_same⟩
theorem pe_lstN (h : PA X es t) : PE X (.List es pos) (tLstN t) := by
  refine ⟨fun pins s σ H Q I hq => ?_⟩
  refine wpAny_List_spliced (thn (h.run pos pins s σ H _ I hq) fun us s1 ⟨xs, H1, I1, r, z, q⟩ => ⟨by rw [← r.length]; exact z, ?_⟩)
  have hf : H1 s1.heap.objs.size = none := I1.hok.fresh (Nat.le_refl _)
  exact ⟨.ref s1.heap.objs.size, upd H1 s1.heap.objs.size (.lst xs), I1.laid (t' := s1.toks) (fun b u e => Heap.get?_push_of_some _ e) (Nat.le_refl _) ⟨z, us, 0, r, Heap.get?_push_size _ rfl⟩, rfl, q _ _ hf (same_fresh hf) upd_same⟩
def rCatN : R2 := fun x y H Q => ∃ l b xs zs, x = .ref l ∧ y = .ref b ∧ H l = some (.lst xs) ∧ H b = some (.lst zs) ∧ xs.length + zs.length ≤ sizeLine ∧ ∀ p H2, H p = none → Same H H2 → H2 p = some (.lst (xs ++ zs)) → Q (.ref p) H2
theorem op_catN : OpR X (binaryOp .Add) rCatN := by
  intro pins s σ H x y v u Q I rx ry h
  obtain ⟨l, b, xs, zs, e1, e2, h1, h2, hz, q⟩ := h
  exact op_cat pins s σ H x y v u Q I rx ry ⟨l, b, xs, zs, e1, e2, h1, h2, hz, fun p np => q p _ np (same_fresh np) upd_same⟩
def rRepN : R2 := fun x y H Q => ∃ l k xs, x = .ref l ∧ y = .int k ∧ H l = some (.lst xs) ∧ -(2 ^ 63) ≤ k ∧ k < 2 ^ 63 ∧ xs.length * k.toNat ≤ sizeLine ∧ ∀ p H2, H p = none → Same H H2 → H2 p = some (.lst (List.replicate k.toNat xs).flatten) → Q (.ref p) H2
theorem op_repN : OpR X (binaryOp .Mult) rRepN := by
  intro pins s σ H x y v u Q I rx ry h
  obtain ⟨l, k, xs, e1, e2, h1, h2, h3, hz, q⟩ := h
  exact op_rep pins s σ H x y v u Q I rx ry ⟨l, k, xs, e1, e2, h1, h2, h3, hz, fun p np => q p _ np (same_fresh np) upd_same⟩
def rCatTN (K : PySem.W.Frag) : R2 := fun x y H Q => ∃ a b xs ys, x = .ref a ∧ y = .ref b ∧ SqT K H a xs ∧ SqT K H b ys ∧ xs ≠ [] ∧ xs.length + ys.length ≤ sizeLine ∧
  (ys = [] → Q (.ref a) H) ∧ (ys ≠ [] → ∀ p H2, H p = none → Same H H2 → H2 p = some (.tup (xs ++ ys)) → Q (.ref p) H2)
theorem op_catTN : OpR X (binaryOp .Add) (rCatTN X.K) := by
  intro pins s σ H x y v u Q I rx ry h
  obtain ⟨l, b, xs, zs, e1, e2, h1, h2, h3, hz, q1, q⟩ := h
  exact op_catT pins s σ H x y v u Q I rx ry ⟨l, b, xs, zs, e1, e2, h1, h2, h3, hz, q1, fun n p np => q n p _ np (same_fresh np) upd_same⟩
def rSlLN (K : PySem.W.Frag) : V → Option Int → Option Int → Hp → VK → Prop := fun x lo hi H Q => ∃ a xs, x = .ref a ∧ SqL K H a xs ∧ ∀ p H2, H p = none → Same H H2 → H2 p = some (.lst (cutV xs lo hi)) → Q (.ref p) H2
theorem sl_listN : SlR X (rSlLN X.K) := by
  intro pins s σ H x v vl vu lo hi sl Q I rx hs pl pu h
  obtain ⟨a, xs, e, hx, q⟩ := h
  exact sl_list pins s σ H x v vl vu lo hi sl Q I rx hs pl pu ⟨a, xs, e, hx, fun p np => q p _ np (same_fresh np) upd_same⟩
def rSlTN (K : PySem.W.Frag) : V → Option Int → Option Int → Hp → VK → Prop := fun x lo hi H Q => ∃ a xs, x = .ref a ∧ SqT K H a xs ∧ ¬ (HT.sIx xs.length 0 lo = 0 ∧ HT.sIx xs.length xs.length hi = xs.length) ∧ ∀ p H2, H p = none → Same H H2 → H2 p = some (.tup (cutV xs lo hi)) → Q (.ref p) H2
theorem sl_tupN : SlR X (rSlTN X.K) := by
  intro pins s σ H x v vl vu lo hi sl Q I rx hs pl pu h
  obtain ⟨a, xs, e, hx, hw, q⟩ := h
  exact sl_tup pins s σ H x v vl vu lo hi sl Q I rx hs pl pu ⟨a, xs, e, hx, hw, fun p np => q p _ np (same_fresh np) upd_same⟩
theorem call_list_ofN : CallR X (.type "list") (fun xs H Q => ∃ p ys, xs = [.ref p] ∧ (SqL X.K H p ys ∨ SqT X.K H p ys) ∧ ∀ l H2, H l = none → Same H H2 → H2 l = some (.lst ys) → Q (.ref l) H2) := by
  intro pins s σ H xs us Q I r h
  obtain ⟨p, ys, e, hq, q⟩ := h
  exact call_list_of pins s σ H xs us Q I r ⟨p, ys, e, hq, fun p np => q p _ np (same_fresh np) upd_same⟩
end
end NW

/-! rules within a comprehension's block, K told -/
namespace KX
open PySem PySem.Spec PyProof.Rows L2
variable {X : Cx} {K : PySem.W.Frag}
theorem ix_tup (h : X.K = K) : IxR X (rIxT K) := by subst h; exact L2.ix_tup
theorem ix_list (h : X.K = K) : IxR X (rIxL K) := by subst h; exact L2.ix_list
theorem ix_seq (h : X.K = K) : IxR X (rIx K) := by subst h; exact L2.ix_seq
theorem call_len (h : X.K = K) : CallR X (.builtin "len") (fun xs H Q => ∃ x n, xs = [x] ∧ LenV K x H n ∧ Q (.int n) H) := by subst h; exact L2.call_len
theorem op_in_seq (h : X.K = K) : OpR X (compareOp .In) (rIn K false) := by subst h; exact L2.op_in_seq
theorem op_notIn_seq (h : X.K = K) : OpR X (compareOp .NotIn) (rIn K true) := by subst h; exact L2.op_notIn_seq
end KX

set_option maxHeartbeats 4000000
namespace ND
open PySem PySem.Spec PyProof.Rows L2
def tNEmp (P : Program) (w : World) : TE := fun _ H Q => ∀ d H2, H d = none → Same H H2 → H2 d = some (ndO P w d []) → Q (.ref d) H2
/-- an empty dict for such keys -/
theorem pe_emp {X : Cx} {pos : Pos} : PE X (.Dict [] [] pos) (tNEmp X.prog X.w) := by
  refine ⟨fun pins s σ H Q I q => ?_⟩
  have nf := I.hok.fresh (Nat.le_refl s.heap.objs.size)
  have I1 := I.laid (a := s.heap.objs.size) (o := ndO X.prog X.w s.heap.objs.size []) (h' := s.heap.push { cls := .type "dict", data := .dict #[] }) (t' := s.toks) (fun _ _ z => Heap.get?_push_of_some _ z) (Nat.le_refl _) (ndO_ok (nd_empty s.heap I.big))
  exact wpAny_Dict_empty ⟨.ref s.heap.objs.size, _, I1, rfl, q _ _ nf (NW.same_fresh nf) upd_same⟩
end ND

set_option maxHeartbeats 4000000
/-! defs that are called where no repr is under way (no guards): what repr of data wants -/
namespace GL
open PySem PySem.Spec PyProof.Rows L2
/-- a def's promise, called where no guard is up -/
structure FnG (P : Program) (w : World) (K : PySem.W.Frag) (mg : Str → Option Value) (base : Heap) (CX : CXT) (k : Nat) (f : Addr) (fd : FuncData) (ps : List Str) (sp : Sp) : Prop where
  lens : ∀ vs H Q E, sp vs H Q E → vs.length = ps.length
  runs : ∀ (B : Around) (fr : List Env) (s : Shared) (H : Hp) (ar : Args) (us : List Value) (vs : List V) (Q : VK) (E : XK), Room k B → B.guards = some [] → Env0 P w K mg base B fr s H → BindsTo s fd ar (ps.zip us) → Vals vs us → sp vs H Q E →
    codeAny (model P w) B (.call (.ref f) ar) (CR CX fr P w H s Q E) s
section
variable {P : Program} {w : World} {K : PySem.W.Frag} {mg : Str → Option Value} {base : Heap} {CX : CXT} {k : Nat} {f : Addr} {fd : FuncData} {ps N : List Str} {sp : Sp}
theorem FnG.of (F : FnOk P w K mg base CX k f fd ps sp) : FnG P w K mg base CX k f fd ps sp := ⟨F.len, fun B fr s H ar us vs Q E hr _ => F.run B fr s H ar us vs Q E hr⟩
theorem FnG.up {j : Nat} (F : FnG P w K mg base CX j f fd ps sp) (h : j ≤ k) : FnG P w K mg base CX k f fd ps sp := ⟨F.lens, fun B fr s H ar us vs Q E hr => F.runs B fr s H ar us vs Q E (hr.mono h)⟩
/-- the rule for a def by its body, guards known -/
theorem okG {x qual : Str} {params : Arguments} {body : List Stmt} {scope : Scope} {dvs : List V} {kws : List (Str × V)} (F : FunD K x qual params body scope dvs kws f fd) (S : FnScope N ps scope) (len : ∀ vs H Q E, sp vs H Q E → vs.length = ps.length)
    (go : ∀ (cdv : Value) (A : Around) (outer : List Env) (s : Shared) (H : Hp) (vs : List V) (Q : VK) (E : XK), Room k (A.deeper (envOfC qual scope s.heap.objs.size f cdv)) → A.guards = some [] → sp vs H Q E →
      ∃ t, PSs (cxOf CX P w K mg base N qual scope f cdv A outer s H E) body t ∧ t { nx := fun _ H' => Q .non H', rt := Q } (start N vs) H) : FnG P w K mg base CX (k + 1) f fd ps sp := by
  obtain ⟨c0, c1, c2, c3, c4, c5, c6, cdv, c8, c9, rfl, look, code, _, _⟩ := F.ex
  refine ⟨len, fun B fr s H ar us vs Q E room gd env0 bnd rel want => ?_⟩
  have nv := len vs H Q E want
  have kin : K.In s.heap := env0.mod.kin.keeps fun b o e => (env0.bs b o e).1
  have nolim : s.heap.NoLimit := env0.mod.nolimit.keeps fun b o e => (env0.bs b o e).1
  have kinds : ∀ y ∈ ps.zip us, scope.names.lookup y.1 = some .local ∨ (scope.names.lookup y.1 = some .cell ∧ ((cellsFrom (s.heap.objs.size + 1) scope.names []).lookup y.1).isSome = true) := by
    rintro ⟨n, v⟩ mem
    exact (S.par n (List.of_mem_zip mem).1).imp id fun q => ⟨q, PySem.W.cellsFrom_some _ _ _ (.inl q)⟩
  refine codeAny_call_function room.depth (kin _ _ look) rfl S.co S.gen rfl (PySem.W.codeRec_of kin code) (bnd _ _ _ _ (wpAny_newFunctionEnv_cells S.kind kinds fun ev he t1 inC => ?_))
  subst he
  obtain ⟨t, der, now⟩ := go cdv B fr s H vs Q E (room.deeper _) gd want
  have inv := inv_start (CX := CX) (E := E) S room.hd env0 nv rel inC
  refine ⟨nolim.keeps inC.toInCall.keep, codeAny_func (wpAny_mono (der.run [] t1 (start N vs) H _ inv now) (fun fl z hz => ?_) fun _ _ hz => hz)⟩
  have done : ∀ {σ' : L2.St} {H' : Hp} {v : V} {u : Value}, L2.Inv (cxOf CX P w K mg base N qual scope f cdv B fr s H E) [] σ' H' z → RelV v u → Q v H' → CE fr P w H s Q u z := fun {_ H' v _} J rv q => ⟨v, H', J.os, J.bare, J.base, J.hok, rv, q⟩
  match fl, hz with
  | .ret _, ⟨_, _, _, J, rv, q⟩ => exact done J rv q
  | .next, ⟨_, _, J, q⟩ => exact done (v := V.non) (u := Value.none) J rfl q
  | .brk, ⟨_, _, _, q⟩ => exact q.elim
  | .cont, ⟨_, _, _, q⟩ => exact q.elim
/-- a def called by its name -/
structure CalG (P : Program) (w : World) (K : PySem.W.Frag) (mg : Str → Option Value) (base : Heap) (k : Nat) (x : Str) (sp : Sp) (dvs : List V) : Prop where
  exg : ∃ (f : Addr) (fd : FuncData) (ps : List Str) (ds : List Value), FnG P w K mg base C8.CX0 k f fd ps sp ∧ mg x = some (.ref f) ∧ PySem.W.keepIn K (.ref f) = true ∧ Binds K fd ps ds ∧ Vals dvs ds
end
section
variable {X : Cx} {k j : Nat} {f : Addr} {sp : Sp} {dvs : List V} {x : Str} {p pos : Pos} {e : Expr} {es : List Expr} {t : TA}
theorem pe_cG (c : CalG X.prog X.w X.K X.mg X.base k x sp dvs) (hr : Room j X.A) (hk : k ≤ j) (gd : X.A.guards = some []) (hg : Gl X x) (ha : PA X (e :: es) t)
    (hd : (x == ("__debug__" : Str)) = false := by decide) (he : starEach (e :: es) X.env = (false, eval e X.env) :: starEach es X.env := by rfl) (hp : (backTo pos (starEach es X.env)).any (·.1) = false := by rfl) :
    PE X (.Call (.Name x p) (e :: es) [] pos) (tCall sp dvs C8.E0 t) := by
  obtain ⟨f, fd, ps, ds, F, hm, kp, b, dv⟩ := c.exg
  refine ⟨fun pins s σ H Q I h => wpAny_Call_Name_kw (ld_glob I hg hm (PySem.W.callWith_K (h₀ := X.base) I.ok.mod.kin kp (thn (ha.run pos pins s σ H _ I h) fun us s1 ⟨vs, H1, I1, r, q⟩ => ⟨I1.kIn, ?_⟩) he hp) hd)⟩
  have rr : Vals (vs ++ dvs) (us ++ ds) := r.append dv
  refine wpAny_call (codeAny_mono (F.runs X.A X.stack s1 H1 ⟨us, []⟩ (us ++ ds) (vs ++ dvs) Q C8.E0 (hr.mono hk) gd I1.env0 (b s1 us I1.kIn (rr.length.symm.trans (F.lens _ _ _ _ q))) rr q) fun z s' hz => ?_)
  match z, hz with
  | .error e, hz => exact (C8.pass0 (E := C8.E0) pins σ H1 s1 e s' I1 hz)
  | .ok (.ret u), hz => exact I1.after hz
  | .ok .next, hz => exact hz.elim
  | .ok .brk, hz => exact hz.elim
  | .ok .cont, hz => exact hz.elim
theorem pe_c0G (c : CalG X.prog X.w X.K X.mg X.base k x sp dvs) (hr : Room j X.A) (hk : k ≤ j) (gd : X.A.guards = some []) (hg : Gl X x) (hd : (x == ("__debug__" : Str)) = false := by decide) : PE X (.Call (.Name x p) [] [] pos) (tCall sp dvs C8.E0 tNil) := by
  obtain ⟨f, fd, ps, ds, F, hm, kp, b, dv⟩ := c.exg
  refine ⟨fun pins s σ H Q I h => wpAny_Call_Name_kw (ld_glob I hg hm (PySem.W.callWith_K0 I.kIn kp ?_) hd)⟩
  refine wpAny_call (codeAny_mono (F.runs X.A X.stack s H ⟨[], []⟩ ds dvs Q C8.E0 (hr.mono hk) gd I.env0 (b s [] I.kIn (dv.length.symm.trans (F.lens _ _ _ _ h))) dv h) fun z s' hz => ?_)
  match z, hz with
  | .error e, hz => exact (C8.pass0 (E := C8.E0) pins σ H s e s' I hz)
  | .ok (.ret u), hz => exact I.after hz
  | .ok .next, hz => exact hz.elim
  | .ok .brk, hz => exact hz.elim
  | .ok .cont, hz => exact hz.elim
/-- repr of data -/
theorem call_reprD (gd : X.A.guards = some []) (hu : X.A.units + 64 < cLine) : CallR X (.builtin "repr") (fun xs H Q => ∃ a d, xs = [.ref a] ∧ Dp X.K H (.ref a) d ∧ d.showable = true ∧ d.hasDict = false ∧ d.depth ≤ 60 ∧ d.shown.length ≤ sizeLine ∧ Q (.str d.shown) H) := by
  intro pins s σ H xs us Q I r h
  obtain ⟨a, d, rfl, hd, h1, h2, h3, h4, q⟩ := h
  obtain ⟨u, rfl, ru⟩ := vals1 r
  obtain rfl : u = Value.ref a := ru
  obtain ⟨as, rd⟩ := Dp.reads I d _ _ hd rfl
  exact repr_of_reads' rd h1 (fun z => by rw [h2] at z; cases z) gd (by omega) (fun _ _ e => e) (fun h' v tk hk => ⟨.str _, H, I.kept hk, ⟨_, rfl⟩, q⟩) h4
end
/-! ### the end -/
section
variable {P : Program} {w : World} {K : PySem.W.Frag} {mg mb : Str → Option Value} {CX : CXT} {k : Nat} {fa a : Addr} {fd : FuncData} {x : Str} {sp : Sp} {s₁ : Shared} {vs : List Value} {ns : List Int}
theorem law_callG (kin : K.In s₁.heap) (nsm : s₁.heap.Ns mainGlobals mg) (nsb : s₁.heap.Ns builtinsNs mb) (boot : ∀ x : Str, x ≠ "__name__" → mb x = bootBuiltins x) (lim : s₁.heap.NoLimit) (gens : s₁.gens = #[])
    (obj : s₁.heap.get? a = some { cls := .type "list", data := .seq vs.toArray }) (intz : IntsAre vs ns) (few : ns.length ≤ sizeLine) (room : Room k callerA)
    (F : ∀ base : Heap, K.In base → base.Ns mainGlobals mg → FnG P w K mg base CX k fa fd [x] sp) (bind : ∀ (s : Shared) (u : Value), BindsTo s fd ⟨[u], []⟩ [(x, u)])
    (want : ∀ H : Hp, Only H → SqL K H a (ns.map V.int) → sp [.ref a] H (fun v _ => v = .bl true) fun _ _ _ => False) (noX : ∀ H e s', CX [] H s₁ (fun _ _ _ => False) e s' → False) :
    codeAny (model P w) callerA (.call (.ref fa) ⟨[.ref a], []⟩) (fun r s' => r = .ok (.ret (.bool true)) ∧ OldK s₁.heap s'.heap ∧ s'.os = s₁.os ∧ AllBare s'.gens) s₁ := by
  have rel := vals_ints intz
  have nlen := intz.length
  have core : ∀ H : Hp, Only H → SqL K H a (ns.map V.int) → HOk P w H s₁.heap → (∀ b, H b ≠ none → b = a) → (H a ≠ none → K.lookup a = none) →
      codeAny (model P w) callerA (.call (.ref fa) ⟨[.ref a], []⟩) (fun r s' => r = .ok (.ret (.bool true)) ∧ OldK s₁.heap s'.heap ∧ s'.os = s₁.os ∧ AllBare s'.gens) s₁ := by
    intro H only sq hok at_a out
    have fst : ∀ {b : Addr} {o : Obj}, s₁.heap.get? b = some o → H b = none → (hidT s₁.heap H).get? b = some o := fun e n => hidT_get e n
    have dictless : ∀ {b : Addr} {o : Obj} {es : Array DictEntry} {ep : Nat}, s₁.heap.get? b = some o → o.data = .dict es ep → H b = none := by
      intro b o es ep e d
      match q : H b with
      | none => rfl
      | some u =>
        obtain rfl : b = a := at_a b (fun z => by rw [z] at q; cases q)
        have e2 := obj.symm.trans e
        cases e2
        exact nomatch (show Data.seq vs.toArray _ = Data.dict es ep from d)
    have names : ∀ {b : Addr} {m : Str → Option Value}, s₁.heap.Ns b m → (hidT s₁.heap H).Ns b m := by
      rintro b m ⟨o, es, ep, e, d, r⟩
      exact ⟨o, es, ep, fst e (dictless e d), d, r⟩
    have kb : K.In (hidT s₁.heap H) := by
      intro b o e
      refine fst (kin b o e) ?_
      match q : H b with
      | none => rfl
      | some u =>
        obtain rfl : b = a := at_a b (fun z => by rw [z] at q; cases q)
        have z := out (fun z => by rw [z] at q; cases q)
        exact nomatch (z.symm.trans e)
    obtain ⟨mc, l1, l2⟩ := lim
    have md : Mod K mg (hidT s₁.heap H) := ⟨kb, names nsm, ⟨mb, names nsb, boot⟩, mc, names l1, l2⟩
    have nil : ∀ {b : Addr}, b ∈ ([] : List Addr) → False := fun z => by simp at z
    have env0 : Env0 P w K mg (hidT s₁.heap H) callerA [] s₁ H := ⟨rfl, md, fun b o e => of_hidT e, Nat.le_of_eq (hidT_size _ _), trivial, fun b hb => (nil hb).elim, hok, .of_eq gens⟩
    refine codeAny_mono ((F _ kb (names nsm)).runs callerA [] s₁ H ⟨[.ref a], []⟩ [.ref a] [.ref a] _ _ room rfl env0 (bind s₁ (.ref a)) (.cons rfl .nil) (want H only sq)) fun r s' h => ?_
    match r, h with
    | .error e, h => exact (noX H e s' h).elim
    | .ok .next, h => exact h.elim
    | .ok .brk, h => exact h.elim
    | .ok .cont, h => exact h.elim
    | .ok (.ret u), ⟨v, H', os, bare, un, hok', r', q⟩ =>
      obtain rfl : v = .bl true := q
      obtain rfl : u = Value.bool true := r'
      refine ⟨rfl, OldK.of_keep fun b o e => ?_, os, bare⟩
      match q : H b with
      | none => exact un.keep b o e q (fun z => nil z) (by simp)
      | some u =>
        rcases only b with z | ⟨ob, xs, z⟩
        · exact nomatch (q.symm.trans z)
        · obtain ⟨f1, _⟩ := hok b _ z
          obtain ⟨f2, _⟩ := hok' b _ (un.frzs b ob _ z)
          have e2 := f1.symm.trans e
          cases e2
          exact f2
  match lk : K.lookup a with
  | some o =>
    have e2 := obj.symm.trans (kin a o lk)
    cases e2
    exact core (fun _ => none) (fun _ => .inl rfl) (.inr ⟨_, vs.toArray, _, lk, rfl, rfl, rfl, by rw [List.size_toArray, nlen]; exact few, by simpa using rel⟩) (fun _ _ z => nomatch (show (none : Option HO) = some _ from z)) (fun _ z => (z rfl).elim) fun z => (z rfl).elim
  | none =>
    refine core (fun b => if b = a then some (.frz { cls := .type "list", data := .seq vs.toArray } (.lst (ns.map V.int))) else none) (fun b => ?_) (.inl (.inr ⟨_, if_pos rfl⟩)) (fun b u z => ?_) (fun b z => ?_) fun _ => lk
    · by_cases q : b = a
      · exact .inr ⟨_, _, if_pos q⟩
      · exact .inl (if_neg q)
    · by_cases q : b = a
      · have z2 := (if_pos q).symm.trans z
        cases z2
        subst q
        exact ⟨obj, by rw [List.length_map]; exact few, vs, _, rel, obj⟩
      · exact nomatch (if_neg q).symm.trans z
    · exact Classical.byContradiction fun q => z (if_neg q)
end
theorem walk_G {l : PySem.W.OpenLaw} {n k : Nat} {q : Program} {loose : List Str} {XP : (Str → Option Value) → Heap → Prop} {YP : World → Heap → Prop} {d : DefRec} {CX : CXT} {x : Str} (most : l.most = some n) (few : n ≤ sizeLine) (hdf : d.params.defaults = []) (room : Room k callerA)
    (F : ∀ (w : World) (mg : Str → Option Value) (fa : Addr) (h : Heap), YP w h → h.Ns mainGlobals mg → mg d.name = some (.ref fa) → ∃ (K : PySem.W.Frag) (fd : FuncData) (sp : Sp), K.In h ∧ (∀ (s : Shared) (u : Value), BindsTo s fd ⟨[u], []⟩ [(x, u)]) ∧
        (∀ (H : Hp) (a : Addr) (ns : List Int), ns.length ≤ n → Only H → SqL K H a (ns.map V.int) → sp [.ref a] H (fun v _ => v = .bl true) fun _ _ _ => False) ∧ ∀ base : Heap, K.In base → base.Ns mainGlobals mg → FnG l.prog w K mg base CX k fa fd [x] sp)
    (noX : ∀ (H : Hp) (s : Shared) (e : Value) (s' : Shared), CX [] H s (fun _ _ _ => False) e s' → False) : PySem.W.WalkO q loose XP YP l.row.toRowW d [] (fun f vs => PySem.call f vs) := by
  refine Att.attach_call most hdf fun w s₀ s₁ mg mb fa o pm cd doc a vs ns G Y ho fun_ code name obj intz len gens => ?_
  obtain ⟨K, fd, sp, kin, b, want, ok⟩ := F w mg fa _ Y G.T.g name
  exact law_callG kin G.T.g G.T.b G.T.builtins G.T.nolimit gens obj intz (Nat.le_trans len few) room ok b (fun H o sq => want H a ns len o sq) fun H e s' => noX H s₁ e s'
end GL

set_option maxHeartbeats 4000000
/-! order of data that are alike: >, sorted of what is sorted -/
namespace DL
open PySem PySem.Spec PyProof.Rows L2
theorem zipR : ∀ {xs : List V} {us : List Value} {ds : List PyData}, Vals xs us → ds.length = xs.length → PySem.W.EachIs (fun v (b : PyData × V) => RelV b.2 v) us (ds.zip xs)
  | _, _, [], .nil, _ => .nil
  | _, _, _ :: _, .nil, h => by cases h
  | _, _, [], .cons _ _, h => by cases h
  | _, _, d :: ds, .cons r t, h => .cons r (zipR t (by simpa using h))
theorem zipE {X : Cx} {pins : List (Addr × Obj)} {σ : L2.St} {H : Hp} {s : Shared} (I : L2.Inv X pins σ H s) : ∀ {xs : List V} {us : List Value} {ds : List PyData}, Vals xs us → DpAll X.K H xs ds → PySem.W.EachIs (fun v (b : PyData × V) => ∃ as, Reads s.heap v b.1 as) us (ds.zip xs)
  | _, _, _, .nil, .nil => .nil
  | _, _, _, .cons r t, .cons d e => .cons (Dp.reads I _ _ _ d r) (zipE I t e)
theorem dpl {K : PySem.W.Frag} {H : Hp} : ∀ {xs : List V} {ds : List PyData}, DpAll K H xs ds → ds.length = xs.length
  | _, _, .nil => rfl
  | _, _, .cons _ t => congrArg Nat.succ (dpl t)
theorem outR : ∀ {xs : List V} {out : List Value} {ds : List PyData}, ds.length = xs.length → PySem.W.EachIs (fun v (b : PyData × V) => RelV b.2 v) out (ds.zip xs) → Vals xs out
  | [], _, [], _, .nil => .nil
  | _ :: _, _, _ :: _, h, .cons r t => .cons r (outR (by simpa using h) t)
theorem zip1 : ∀ {xs : List V} {ds : List PyData}, ds.length = xs.length → (ds.zip xs).map (·.1) = ds
  | [], [], _ => rfl
  | _ :: _, d :: ds, h => by
    show d :: (ds.zip _).map (·.1) = _
    rw [zip1 (by simpa using h)]
section
variable {X : Cx}
/-- sorted(list), of data that stand in their order -/
theorem call_sortedD (hu : X.A.units + 64 < cLine) : CallR X (.builtin "sorted") (fun vs H Q => ∃ (a : Addr) (xs : List V) (ds : List PyData), vs = [.ref a] ∧ SqL X.K H a xs ∧ DpAll X.K H xs ds ∧ (∀ d ∈ ds, ∀ e ∈ ds, PySem.W.alike d e = true) ∧
    (∀ d ∈ ds, ∃ x r, d = .tuple (x :: r)) ∧ (∀ d ∈ ds, d.depth ≤ 50) ∧ ds.Pairwise (fun d e => PySem.W.dataLt e d = false) ∧ xs.length ≤ sizeLine ∧ ∀ p H2, H p = none → Same H H2 → H2 p = some (.lst xs) → Q (.ref p) H2) := by
  intro pins s σ H vs us Q I r h
  obtain ⟨a, xs, ds, rfl, hs, hd, hal, hso, hdp, hpw, hz, q⟩ := h
  obtain ⟨its, rv, hl, _⟩ := I.list hs
  rw [Vals.ref1 r]
  have ll := dpl hd
  have e1 := zip1 ll
  have sor : (ds.zip xs).mergeSort (PySem.W.dataLe false fun b : PyData × V => b.1) = ds.zip xs := by
    refine List.mergeSort_of_pairwise ?_
    have : ((ds.zip xs).map (·.1)).Pairwise (fun d e => PySem.W.dataLt e d = false) := by rw [e1]; exact hpw
    rw [List.pairwise_map] at this
    refine this.imp fun {x y} h => ?_
    rw [PySem.W.dataLe_eq]
    show (!PySem.W.dataLt y.1 x.1) = true
    rw [h]; rfl
  refine PySem.W.sorted_data (enc := fun b : PyData × V => b.1) (bs := ds.zip xs) hl.isList (zipR rv ll) (zipE I rv hd) ?_ (.inl fun d hd => ?_) (by rw [List.length_zip]; omega) (fun b hb => ?_) fun out _ eo => ?_
  · rw [e1]; exact hal
  · rw [e1] at hd; exact hso d hd
  · have := hdp b.1 (by rw [← e1]; exact List.mem_map_of_mem hb)
    omega
  · rw [sor] at eo
    have vo := outR ll eo
    obtain ⟨ep, he⟩ := PyProof.Rows.sortedAll_at s.heap its out.toArray
    have nf := I.hok.fresh (Nat.le_succ s.heap.objs.size)
    exact ⟨.ref _, upd H (s.heap.objs.size + 1) (.lst xs), I.laid (t' := s.toks) (fun _ _ => PyProof.Rows.sortedAll_old) (Nat.le_succ _) ⟨hz, out, ep, vo, he⟩, rfl, q _ _ nf (fun b u e => by rw [upd_ne (ne_of_none e nf)]; exact e) upd_same⟩
/-- x > y, of data -/
theorem op_gtD (hu : X.A.units + 64 < cLine) : OpR X (compareOp .Gt) (fun x y H Q => ∃ d e, Dp X.K H x d ∧ Dp X.K H y e ∧ PySem.W.alike d e = true ∧ d ≠ .none ∧ d.depth ≤ 50 ∧ Q (.bl (PySem.W.dataLt e d)) H) := by
  intro pins s σ H x y v u Q I rx ry h
  obtain ⟨d, e, hd, he, al, nn, dp, q⟩ := h
  obtain ⟨as, r1⟩ := Dp.reads I d x v hd rx
  obtain ⟨bs, r2⟩ := Dp.reads I e y u he ry
  exact PySem.W.gt_data r1 r2 al nn (by omega) ⟨.bl _, H, I, rfl, q⟩
end
end DL

set_option maxHeartbeats 4000000
namespace WH
open PySem PySem.Spec PyProof.Rows L2
/-! ### the plain law -/
/-- l' stands ahead of l in the order of rows -/
def Ahead (l' l : List Bool) : Prop := l'.length < l.length ∨ (l'.length = l.length ∧ ∃ k, l'.take k = l.take k ∧ l'[k]? = some true ∧ l[k]? = some false)
theorem stA_ok {w : WN} (ok : okW w) {s : Int} (h1 : 0 ≤ s) (h2 : s ≤ w.cap) (n : Nat) : ∀ (l : List Bool), 0 ≤ (stA w (s, n) l).1 ∧ (stA w (s, n) l).1 ≤ w.cap := by
  intro l
  unfold stA
  induction l generalizing s n with
  | nil => exact ⟨h1, h2⟩
  | cons b l ih =>
    have c := ok.c1
    show 0 ≤ (List.foldl (stepA w) (stepA w (s, n) b) l).1 ∧ _
    have hs : 0 ≤ (stepA w (s, n) b).1 ∧ (stepA w (s, n) b).1 ≤ w.cap := by
      cases b with
      | true =>
        have := turn_le ok h1 n
        exact ⟨this.2, by show w.turn s n ≤ w.cap; omega⟩
      | false =>
        show 0 ≤ w.ask s ∧ w.ask s ≤ w.cap
        by_cases z : s = 0
        · unfold WN.ask; rw [if_pos z]; omega
        · have := ask_ok ok (show 1 ≤ s by omega) h2; omega
    exact ih hs.1 hs.2 _
def stOf (w : WN) (s : Int) (l : List Bool) : Stt := l.foldl (fun st b => w.led b st) (some (s, 0))
theorem stOf_snoc (w : WN) (s : Int) (l : List Bool) (b : Bool) : stOf w s (l ++ [b]) = w.led b (stOf w s l) := by
  unfold stOf; rw [List.foldl_append]; rfl
theorem stA_snoc (w : WN) (p : Int × Nat) (l : List Bool) (b : Bool) : stA w p (l ++ [b]) = stepA w (stA w p l) b := by
  unfold stA; rw [List.foldl_append]; rfl
theorem at_phase {w : WN} (ok : okW w) (n : Nat) : w.at (w.phase n) = w.at n := by
  have tp := ok.tpos
  unfold WN.at WN.phase
  by_cases h : n < w.head.length + w.tail.length
  · rw [if_pos h]
  · rw [if_neg h]
    have m := Nat.mod_lt (n - w.head.length) tp
    rw [if_neg (show ¬ w.head.length + (n - w.head.length) % w.tail.length < w.head.length by omega), if_neg (show ¬ n < w.head.length by omega), Nat.add_sub_cancel_left, Nat.mod_mod]
theorem turn_phase {w : WN} (ok : okW w) (s : Int) (n : Nat) : w.turn s (w.phase n) = w.turn s n := by
  unfold WN.turn; rw [at_phase ok]
theorem phase_zero {w : WN} (ok : okW w) : w.phase 0 = 0 := by
  unfold WN.phase
  have := ok.tpos
  rw [if_pos (by omega)]
theorem phase_succ {w : WN} (ok : okW w) (n : Nat) : w.phase (w.phase n + 1) = w.phase (n + 1) := by
  have tp := ok.tpos
  by_cases h : n < w.head.length + w.tail.length
  · rw [show w.phase n = n by unfold WN.phase; rw [if_pos h]]
  · have m := Nat.mod_lt (n - w.head.length) tp
    have e : w.phase n = w.head.length + (n - w.head.length) % w.tail.length := by unfold WN.phase; rw [if_neg h]
    have e2 : w.phase (n + 1) = w.head.length + (n + 1 - w.head.length) % w.tail.length := by unfold WN.phase; rw [if_neg (by omega)]
    have e3 : (n + 1 - w.head.length) % w.tail.length = ((n - w.head.length) % w.tail.length + 1) % w.tail.length := by
      rw [show n + 1 - w.head.length = n - w.head.length + 1 by omega, Nat.mod_add_mod]
    rw [e2, e3, e]
    generalize (n - w.head.length) % w.tail.length = a at m
    unfold WN.phase
    by_cases h2 : a + 1 < w.tail.length
    · rw [if_pos (by omega), Nat.mod_eq_of_lt h2]; omega
    · have : a + 1 = w.tail.length := by omega
      rw [if_neg (by omega), show w.head.length + a + 1 - w.head.length = a + 1 by omega]
theorem turn_zero {w : WN} (ok : okW w) (n : Nat) : w.turn 0 n = 0 := by
  have := turn_le ok (Int.le_refl 0) n; omega
theorem rev_ind {P : List Bool → Prop} (h0 : P []) (hs : ∀ l b, P l → P (l ++ [b])) (l : List Bool) : P l := by
  rw [← List.reverse_reverse l]
  induction l.reverse with
  | nil => exact h0
  | cons b m ih => rw [List.reverse_cons]; exact hs _ _ ih
theorem stOf_eq {w : WN} (ok : okW w) {s : Int} (h1 : 1 ≤ s) (h2 : s ≤ w.cap) (l : List Bool) : stOf w s l = if (stA w (s, 0) l).1 = 0 then none else some ((stA w (s, 0) l).1, w.phase (stA w (s, 0) l).2) := by
  refine rev_ind (P := fun l => stOf w s l = if (stA w (s, 0) l).1 = 0 then none else some ((stA w (s, 0) l).1, w.phase (stA w (s, 0) l).2)) ?_ ?_ l
  · show some (s, 0) = if s = 0 then none else some (s, w.phase 0)
    rw [if_neg (by omega), phase_zero ok]
  · intro l b ih
    have hb := stA_ok ok (show 0 ≤ s by omega) h2 0 l
    rw [stOf_snoc, stA_snoc, ih]
    generalize stA w (s, 0) l = p at hb
    obtain ⟨a, n⟩ := p
    dsimp only at hb ⊢
    by_cases z : a = 0
    · rw [if_pos z]
      have e : (stepA w (a, n) b).1 = 0 := by
        rw [z]
        cases b with
        | true => exact turn_zero ok n
        | false => show w.ask 0 = 0; unfold WN.ask; rw [if_pos rfl]
      rw [if_pos e]; rfl
    · rw [if_neg z]
      cases b with
      | true =>
        show (if w.turn a (w.phase n) = 0 then none else some (w.turn a (w.phase n), w.phase (w.phase n + 1))) = if w.turn a n = 0 then none else some (w.turn a n, w.phase (n + 1))
        rw [turn_phase ok, phase_succ ok]
      | false =>
        have := ask_ok ok (show 1 ≤ a by omega) hb.2
        show some (w.ask a, if w.anew = true then 0 else w.phase n) = if w.ask a = 0 then none else some (w.ask a, w.phase (if w.anew = true then 0 else n))
        rw [if_neg (show ¬ w.ask a = 0 by omega)]
        cases w.anew
        · rfl
        · show some (w.ask a, 0) = some (w.ask a, w.phase 0)
          rw [phase_zero ok]
/-! the order of rows -/
theorem Ahead.nil {y : List Bool} (h : y ≠ []) : Ahead [] y := .inl (List.length_pos_iff.mpr h)
theorem Ahead.irr {x : List Bool} : ¬ Ahead x x := by
  rintro (h | ⟨_, k, _, h1, h2⟩)
  · omega
  · rw [h1] at h2; cases h2
theorem Ahead.trans {x y z : List Bool} (a : Ahead x y) (b : Ahead y z) : Ahead x z := by
  rcases a with a | ⟨a, k, a1, a2, a3⟩
  · rcases b with b | ⟨b, _⟩
    · exact .inl (by omega)
    · exact .inl (by omega)
  · rcases b with b | ⟨b, m, b1, b2, b3⟩
    · exact .inl (by omega)
    · refine .inr ⟨by omega, ?_⟩
      rcases Nat.lt_trichotomy k m with h | h | h
      · refine ⟨k, ?_, a2, ?_⟩
        · rw [a1]
          have := congrArg (List.take k) b1
          rw [List.take_take, List.take_take, Nat.min_eq_left (by omega)] at this
          exact this
        · have := congrArg (fun l => l[k]?) b1
          simp only [List.getElem?_take, if_pos h] at this
          rw [← this]; exact a3
      · subst h; rw [a3] at b2; cases b2
      · refine ⟨m, ?_, ?_, b3⟩
        · have := congrArg (List.take m) a1
          rw [List.take_take, List.take_take, Nat.min_eq_left (by omega)] at this
          rw [this, b1]
        · have := congrArg (fun l => l[m]?) a1
          simp only [List.getElem?_take, if_pos h] at this
          rw [this]; exact b2
theorem Ahead.snoc {x y : List Bool} (a : Ahead x y) (b c : Bool) : Ahead (x ++ [b]) (y ++ [c]) := by
  rcases a with a | ⟨a, k, a1, a2, a3⟩
  · exact .inl (by simp; exact a)
  · have l1 := (List.getElem?_eq_some_iff.mp a2).1
    have l2 := (List.getElem?_eq_some_iff.mp a3).1
    refine .inr ⟨by simp; exact a, k, ?_, ?_, ?_⟩
    · rw [List.take_append_of_le_length (by omega), List.take_append_of_le_length (by omega), a1]
    · rw [List.getElem?_append_left l1, a2]
    · rw [List.getElem?_append_left l2, a3]
theorem Ahead.tf (r : List Bool) : Ahead (r ++ [true]) (r ++ [false]) := .inr ⟨by simp, r.length, by simp, by simp, by simp⟩
theorem Ahead.longer (r : List Bool) (b : Bool) : Ahead r (r ++ [b]) := .inl (by simp)
/-! the search -/
section
variable {w1 w2 : WN} {s f : Int}
theorem addR_pre (rows : List Row) (q : Row) : ∃ m, addR rows q = rows ++ m := by
  unfold addR
  split
  · exact ⟨[], by simp⟩
  · exact ⟨[q], rfl⟩
theorem run_succ (k : Nat) : run w1 w2 s f (k + 1) = match (run w1 w2 s f k)[k]? with
    | some r => addR (addR (run w1 w2 s f k) (stp w1 w2 r true)) (stp w1 w2 r false)
    | none => run w1 w2 s f k := rfl
theorem run_pre (k : Nat) : ∃ m, run w1 w2 s f (k + 1) = run w1 w2 s f k ++ m := by
  rw [run_succ]
  split
  · rename_i r _
    obtain ⟨a, ha⟩ := addR_pre (run w1 w2 s f k) (stp w1 w2 r true)
    obtain ⟨b, hb⟩ := addR_pre (addR (run w1 w2 s f k) (stp w1 w2 r true)) (stp w1 w2 r false)
    exact ⟨a ++ b, by rw [hb, ha, List.append_assoc]⟩
  · exact ⟨[], by simp⟩
theorem run_mono {j k : Nat} (h : j ≤ k) : ∃ m, run w1 w2 s f k = run w1 w2 s f j ++ m := by
  induction k with
  | zero => obtain rfl : j = 0 := by omega
            exact ⟨[], by simp⟩
  | succ k ih =>
    by_cases e : j = k + 1
    · subst e; exact ⟨[], by simp⟩
    · obtain ⟨m, hm⟩ := ih (by omega)
      obtain ⟨n, hn⟩ := run_pre (w1 := w1) (w2 := w2) (s := s) (f := f) k
      exact ⟨m ++ n, by rw [hn, hm, List.append_assoc]⟩
theorem run_get {j k i : Nat} {r : Row} (h : j ≤ k) (e : (run w1 w2 s f j)[i]? = some r) : (run w1 w2 s f k)[i]? = some r := by
  obtain ⟨m, hm⟩ := run_mono (w1 := w1) (w2 := w2) (s := s) (f := f) h
  rw [hm, List.getElem?_append_left (List.getElem?_eq_some_iff.mp e).1, e]
/-- what stands in the rows -/
structure RI (w1 w2 : WN) (s f : Int) (k : Nat) (R : List Row) : Prop where
  val : ∀ r ∈ R, r.2 = (stOf w1 s r.1, stOf w2 f r.1)
  srt : R.Pairwise fun a b => Ahead a.1 b.1
  src : ∀ r ∈ R, r.1 = [] ∨ ∃ j, j < k ∧ ∃ q c, R[j]? = some q ∧ r.1 = q.1 ++ [c]
theorem RI.add {k : Nat} {R : List Row} {r : Row} (h : RI w1 w2 s f (k + 1) R) (hr : R[k]? = some r) (b : Bool) (hb : ∀ q ∈ R, q.1 = [] ∨ Ahead q.1 (r.1 ++ [b])) : RI w1 w2 s f (k + 1) (addR R (stp w1 w2 r b)) := by
  have vr := h.val r (List.mem_of_getElem? hr)
  unfold addR
  split
  · exact h
  · refine ⟨fun q hq => ?_, ?_, fun q hq => ?_⟩
    · rcases List.mem_append.mp hq with hq | hq
      · exact h.val q hq
      · rw [List.mem_singleton.mp hq]
        show (w1.led b r.2.1, w2.led b r.2.2) = (stOf w1 s (r.1 ++ [b]), stOf w2 f (r.1 ++ [b]))
        rw [stOf_snoc, stOf_snoc, vr]
    · rw [List.pairwise_append]
      refine ⟨h.srt, List.pairwise_singleton _ _, fun x hx y hy => ?_⟩
      rw [List.mem_singleton.mp hy]
      rcases hb x hx with e | e
      · rw [e]; exact Ahead.nil (by show r.1 ++ [b] ≠ []; simp)
      · exact e
    · rcases List.mem_append.mp hq with hq | hq
      · rcases h.src q hq with e | ⟨j, hj, p, c, e1, e2⟩
        · exact .inl e
        · exact .inr ⟨j, hj, p, c, by rw [List.getElem?_append_left (List.getElem?_eq_some_iff.mp e1).1, e1], e2⟩
      · rw [List.mem_singleton.mp hq]
        exact .inr ⟨k, by omega, r, b, by rw [List.getElem?_append_left (List.getElem?_eq_some_iff.mp hr).1, hr], rfl⟩
theorem RI.up {k : Nat} {R : List Row} (h : RI w1 w2 s f k R) : RI w1 w2 s f (k + 1) R :=
  ⟨h.val, h.srt, fun r hr => (h.src r hr).imp id fun ⟨j, hj, x⟩ => ⟨j, by omega, x⟩⟩
theorem RI.lt {k i j : Nat} {R : List Row} {p q : Row} (h : RI w1 w2 s f k R) (hi : R[i]? = some p) (hj : R[j]? = some q) (l : i < j) : Ahead p.1 q.1 := by
  obtain ⟨h1, e1⟩ := List.getElem?_eq_some_iff.mp hi
  obtain ⟨h2, e2⟩ := List.getElem?_eq_some_iff.mp hj
  have := List.pairwise_iff_getElem.mp h.srt i j h1 h2 l
  rw [e1, e2] at this; exact this
theorem run_RI : ∀ k, RI w1 w2 s f k (run w1 w2 s f k)
  | 0 => by
    refine ⟨fun r hr => ?_, List.pairwise_singleton _ _, fun r hr => ?_⟩
    · rw [List.mem_singleton.mp hr]; rfl
    · rw [List.mem_singleton.mp hr]; exact .inl rfl
  | k + 1 => by
    have ih := run_RI k
    unfold run
    split
    · rename_i r hr
      have bel : ∀ (q : Row), q ∈ run w1 w2 s f k → q.1 = [] ∨ ∀ b, Ahead q.1 (r.1 ++ [b]) := fun q hq => by
        rcases ih.src q hq with e | ⟨j, hj, p, c, e1, e2⟩
        · exact .inl e
        · refine .inr fun b => ?_
          rw [e2]
          exact (ih.lt e1 hr hj).snoc c b
      have s1 := ih.up.add hr true fun q hq => (bel q hq).imp id fun h => h true
      refine s1.add ?_ false fun q hq => ?_
      · obtain ⟨m, hm⟩ := addR_pre (run w1 w2 s f k) (stp w1 w2 r true)
        rw [hm, List.getElem?_append_left (List.getElem?_eq_some_iff.mp hr).1, hr]
      · rcases mem_addR hq with hq | hq
        · exact (bel q hq).imp id fun h => h false
        · rw [hq]; exact .inr (Ahead.tf r.1)
    · exact ih.up
theorem run_bel {k : Nat} {r : Row} (hr : (run w1 w2 s f k)[k]? = some r) (b : Bool) : ∀ q ∈ run w1 w2 s f k, Ahead q.1 (r.1 ++ [b]) := fun q hq => by
  have h := run_RI (w1 := w1) (w2 := w2) (s := s) (f := f) k
  rcases h.src q hq with e | ⟨j, hj, p, c, e1, e2⟩
  · rw [e]; exact Ahead.nil (by simp)
  · rw [e2]; exact (h.lt e1 hr hj).snoc c b
theorem addR_has (R : List Row) (x : Row) : ∃ q ∈ addR R x, q.2 = x.2 ∧ (q ∈ R ∨ q = x) := by
  unfold addR
  split
  · rename_i h
    obtain ⟨q, hq, e⟩ := List.mem_map.mp h
    exact ⟨q, hq, e, .inl hq⟩
  · exact ⟨x, by simp, rfl, .inr rfl⟩
/-- behind the turn at j the pair of a child stands in the rows, under a row not behind the child's -/
theorem run_child {j k : Nat} {r : Row} (b : Bool) (hr : (run w1 w2 s f j)[j]? = some r) (hk : j < k) : ∃ (i : Nat) (q : Row), (run w1 w2 s f k)[i]? = some q ∧ q.2 = (stp w1 w2 r b).2 ∧ (q.1 = r.1 ++ [b] ∨ Ahead q.1 (r.1 ++ [b])) := by
  have key : ∃ q ∈ run w1 w2 s f (j + 1), q.2 = (stp w1 w2 r b).2 ∧ (q.1 = r.1 ++ [b] ∨ Ahead q.1 (r.1 ++ [b])) := by
    rw [run_succ, hr]
    dsimp only
    cases b with
    | false =>
      obtain ⟨q, hq, e, h⟩ := addR_has (addR (run w1 w2 s f j) (stp w1 w2 r true)) (stp w1 w2 r false)
      refine ⟨q, hq, e, ?_⟩
      rcases h with h | h
      · rcases mem_addR h with h | h
        · exact .inr (run_bel hr false q h)
        · rw [h]; exact .inr (Ahead.tf r.1)
      · rw [h]; exact .inl rfl
    | true =>
      obtain ⟨q, hq, e, h⟩ := addR_has (run w1 w2 s f j) (stp w1 w2 r true)
      obtain ⟨m, hm⟩ := addR_pre (addR (run w1 w2 s f j) (stp w1 w2 r true)) (stp w1 w2 r false)
      refine ⟨q, by rw [hm]; exact List.mem_append_left _ hq, e, ?_⟩
      rcases h with h | h
      · exact .inr (run_bel hr true q h)
      · rw [h]; exact .inl rfl
  obtain ⟨q, hq, e⟩ := key
  obtain ⟨i, hi, ei⟩ := List.mem_iff_getElem.mp hq
  exact ⟨i, q, run_get hk (by rw [List.getElem?_eq_getElem hi, ei]), e⟩
theorem run_back {j k : Nat} {r : Row} (hk : j ≤ k) (hc : Clean w1 w2 s f k) (h : j < k) (e : (run w1 w2 s f k)[j]? = some r) : (run w1 w2 s f j)[j]? = some r ∧ parts r.2 = false := by
  obtain ⟨q, hq, hp⟩ := hc j h
  have := run_get hk hq
  rw [e] at this
  cases this
  exact ⟨hq, hp⟩
/-- an entry for each row ahead -/
theorem run_all {k : Nat} {row : List Bool} {p : Stt × Stt} (hc : Clean w1 w2 s f k) (hk : (run w1 w2 s f k)[k]? = some (row, p)) : ∀ l, Ahead l row → ∃ j q, j < k ∧ (run w1 w2 s f k)[j]? = some q ∧ q.2 = (stOf w1 s l, stOf w2 f l) ∧ (q.1 = l ∨ Ahead q.1 l) := by
  have I := run_RI (w1 := w1) (w2 := w2) (s := s) (f := f) k
  have idx : ∀ {i : Nat} {q : Row}, (run w1 w2 s f k)[i]? = some q → Ahead q.1 row → i < k := fun {i q} hi ha => by
    rcases Nat.lt_trichotomy i k with h | h | h
    · exact h
    · subst h; rw [hk] at hi; cases hi; exact absurd ha Ahead.irr
    · exact absurd ((I.lt hk hi h).trans ha) Ahead.irr
  refine rev_ind ?_ ?_
  · intro ha
    have h0 : (run w1 w2 s f k)[0]? = some ([], (some (s, 0), some (f, 0))) := run_get (Nat.zero_le k) rfl
    exact ⟨0, _, idx h0 ha, h0, rfl, .inl rfl⟩
  · intro l b ih ha
    obtain ⟨j, q, hj, hq, e, hl⟩ := ih ((Ahead.longer l b).trans ha)
    have hb := (run_back (Nat.le_of_lt hj) hc hj hq).1
    obtain ⟨i, q', hi, e', hl'⟩ := run_child b hb hj
    have hle : q.1 ++ [b] = l ++ [b] ∨ Ahead (q.1 ++ [b]) (l ++ [b]) := by
      rcases hl with h | h
      · exact .inl (by rw [h])
      · exact .inr (h.snoc b b)
    have hq' : q'.1 = l ++ [b] ∨ Ahead q'.1 (l ++ [b]) := by
      rcases hl' with h | h <;> rcases hle with g | g
      · exact .inl (h.trans g)
      · rw [h]; exact .inr g
      · rw [← g]; exact .inr h
      · exact .inr (h.trans g)
    have hr : Ahead q'.1 row := by
      rcases hq' with h | h
      · rw [h]; exact ha
      · exact h.trans ha
    refine ⟨i, q', idx hi hr, hi, ?_, hq'⟩
    rw [e', stOf_snoc, stOf_snoc]
    show (w1.led b q.2.1, w2.led b q.2.2) = _
    rw [e]
theorem addR_nd {R : List Row} (h : (R.map (·.2)).Nodup) (q : Row) : ((addR R q).map (·.2)).Nodup := by
  unfold addR
  split
  · exact h
  · rename_i n
    rw [List.map_append, List.nodup_append]
    refine ⟨h, by simp, fun a ha b hb e => ?_⟩
    rw [List.map_singleton, List.mem_singleton] at hb
    exact n (by rw [← hb, ← e]; exact ha)
theorem run_nd : ∀ k, ((run w1 w2 s f k).map (·.2)).Nodup
  | 0 => by simp [run]
  | k + 1 => by
    rw [run_succ]
    split
    · exact addR_nd (addR_nd (run_nd k) _) _
    · exact run_nd k
theorem run_val {k : Nat} {r : Row} (h : r ∈ run w1 w2 s f k) : r.2 = (stOf w1 s r.1, stOf w2 f r.1) := (run_RI k).val r h
/-- a closed list: each further pair stands in it, under a row not behind -/
theorem run_closed {k j : Nat} {r : Row} (hc : Clean w1 w2 s f k) (hk : k = (run w1 w2 s f k).length) (hj : (run w1 w2 s f k)[j]? = some r) (b : Bool) :
    ∃ (i : Nat) (q : Row), (run w1 w2 s f k)[i]? = some q ∧ q.2 = (stp w1 w2 r b).2 ∧ (q.1 = r.1 ++ [b] ∨ Ahead q.1 (r.1 ++ [b])) := by
  have lt : j < k := by rw [hk]; exact (List.getElem?_eq_some_iff.mp hj).1
  exact run_child b (run_back (Nat.le_of_lt lt) hc lt hj).1 lt
end
/-! alike by form -/
theorem stA_same {w1 w2 : WN} (h : ∀ n, w1.at n = w2.at n) (c : w1.cap = w2.cap) (l : w1.lift = w2.lift) (a : w1.anew = w2.anew) (p : Int × Nat) (r : List Bool) : stA w1 p r = stA w2 p r := by
  have e : stepA w1 = stepA w2 := by
    funext p b
    unfold stepA WN.turn WN.ask WN.nxt
    rw [h, c, l, a]
  unfold stA
  rw [e]
theorem form_none {w1 w2 : WN} (o1 : okW w1) (o2 : okW w2) (h : ∀ n, w1.at n = w2.at n) (c : w1.cap = w2.cap) (l : w1.lift = w2.lift) (a : w1.anew = w2.anew) {s : Int} (h1 : 1 ≤ s) (h2 : s ≤ w1.cap) (r : List Bool) : parts (stOf w1 s r, stOf w2 s r) = false := by
  rw [stOf_eq o1 h1 h2, stOf_eq o2 h1 (by rw [← c]; exact h2), stA_same h c l a]
  unfold parts
  by_cases z : (stA w2 (s, 0) r).1 = 0
  · rw [if_pos z, if_pos z]; rfl
  · rw [if_neg z, if_neg z]; rfl
/-- a wane whose steps are all idle -/
def Idle (w : WN) : Prop := ∀ n, w.at n = (1, 0)
theorem idle_some {w : WN} (ok : okW w) (h : Idle w) {s : Int} (h1 : 1 ≤ s) (h2 : s ≤ w.cap) (r : List Bool) : (stOf w s r).isNone = false := by
  have key : ∀ l, 1 ≤ (stA w (s, 0) l).1 ∧ (stA w (s, 0) l).1 ≤ w.cap := by
    refine rev_ind ⟨h1, h2⟩ fun l b ih => ?_
    rw [stA_snoc]
    cases b with
    | true =>
      show 1 ≤ w.turn _ _ ∧ w.turn _ _ ≤ _
      unfold WN.turn
      rw [h, Int.ediv_one, Int.sub_zero, if_pos (by omega)]
      exact ih
    | false => exact ask_ok ok ih.1 ih.2
  rw [stOf_eq ok h1 h2, if_neg (by have := (key r).1; omega)]; rfl
theorem idle_none {w1 w2 : WN} (o1 : okW w1) (o2 : okW w2) (i1 : Idle w1) (i2 : Idle w2) {s f : Int} (h1 : 1 ≤ s) (h2 : s ≤ w1.cap) (h3 : 1 ≤ f) (h4 : f ≤ w2.cap) (r : List Bool) : parts (stOf w1 s r, stOf w2 f r) = false := by
  unfold parts
  rw [idle_some o1 i1 h1 h2, idle_some o2 i2 h3 h4]; rfl
theorem idle_of {w : WN} (tp : 1 ≤ w.tail.length) (h : ∀ x ∈ w.head, x = (1, 0)) (t : ∀ x ∈ w.tail, x = (1, 0)) : Idle w := fun n => by
  unfold WN.at
  split
  · rename_i c
    exact h _ (getD_mem c)
  · exact t _ (getD_mem (Nat.mod_lt _ tp))
theorem rep_get (t : List (Int × Int)) (tp : 1 ≤ t.length) : ∀ (a i : Nat), i < a * t.length → (List.replicate a t).flatten.getD i (1, 0) = t.getD (i % t.length) (1, 0)
  | 0, i, h => by simp at h
  | a + 1, i, h => by
    rw [List.replicate_succ, List.flatten_cons]
    by_cases c : i < t.length
    · rw [Nat.mod_eq_of_lt c, List.getD_eq_getElem?_getD, List.getElem?_append_left c, List.getD_eq_getElem?_getD]
    · rw [List.getD_eq_getElem?_getD, List.getElem?_append_right (by omega), ← List.getD_eq_getElem?_getD, rep_get t tp a (i - t.length) (by rw [Nat.add_one_mul] at h; omega)]
      rw [Nat.mod_eq_sub_mod (show i ≥ t.length by omega)]
theorem rep_len (t : List (Int × Int)) (a : Nat) : (List.replicate a t).flatten.length = a * t.length := by simp
/-- head and tail, the tail put a times behind the head, b times over -/
theorem at_form (h t : List (Int × Int)) (tp : 1 ≤ t.length) (a b : Nat) (hb : 1 ≤ b) (c l c' l' : Int) (an an' : Bool) (n : Nat) :
    WN.at ⟨h ++ (List.replicate a t).flatten, (List.replicate b t).flatten, c, l, an⟩ n = WN.at ⟨h, t, c', l', an'⟩ n := by
  unfold WN.at
  dsimp only
  rw [List.length_append, rep_len, rep_len]
  by_cases c1 : n < h.length
  · rw [if_pos (by omega), if_pos c1, List.getD_eq_getElem?_getD, List.getElem?_append_left c1, List.getD_eq_getElem?_getD]
  · rw [if_neg c1]
    by_cases c2 : n < h.length + a * t.length
    · rw [if_pos c2, List.getD_eq_getElem?_getD, List.getElem?_append_right (by omega), ← List.getD_eq_getElem?_getD, rep_get t tp a _ (by omega)]
    · have bt : 0 < b * t.length := Nat.mul_pos (by omega) (by omega)
      rw [if_neg c2, rep_get t tp b _ (Nat.mod_lt _ bt), Nat.mod_mul_left_mod, show n - (h.length + a * t.length) = n - h.length - a * t.length by omega]
      congr 1
      have : n - h.length = n - h.length - a * t.length + t.length * a := by rw [Nat.mul_comm t.length a]; omega
      rw [this, Nat.add_mul_mod_self_left, ← this]
end WH

set_option maxHeartbeats 2000000
/-! a Hook whose heap begins at the module's names and at the table of statics -/
namespace HS
open PySem PySem.Spec PyProof.Rows L2
def asS (g : Addr → Option Obj) : Nat → List Addr
  | 0 => [mainGlobals, cStatics]
  | n + 1 => He.growD g (asS g n)
abbrev AlS : Type := He.AlD × Bool
def obsS (n : Nat) (fa : List He.Fa) (fn : List He.DefD) (ex : PySem.W.Frag → Bool) (g : Addr → Option Obj) : AlS := (He.obsD fa fn (He.frG g (asS g n)), ex (He.frG g (asS g n)))
def SaysS (fa : List He.Fa) (fn : List He.DefD) (ex : PySem.W.Frag → Bool) (K : PySem.W.Frag) : Prop := He.SaysD fa fn K ∧ ex K = true
def hookS (n : Nat) (fa : List He.Fa) (fn : List He.DefD) (ex : PySem.W.Frag → Bool) : PySem.W.Hook where
  α := AlS
  obs := fun s => obsS n fa fn ex s.heap.get?
  val := fun _ => (He.valD fn, true)
  says := fun _ h => ∃ K : PySem.W.Frag, K.In h ∧ SaysS fa fn ex K
  of := fun _ _ e => ⟨_, He.frG_in, congrArg (fun z : AlS => z.1) e, congrArg (fun z : AlS => z.2) e⟩
  keeps := fun _ _ _ ⟨K, hK, c⟩ k => ⟨K, PySem.W.Frag.In.keeps hK k, c⟩
theorem obsS_eq {n : Nat} {fa : List He.Fa} {fn : List He.DefD} {ex : PySem.W.Frag → Bool} {g : Addr → Option Obj} {s : Shared} (h : ∀ a, g a = s.heap.get? a) : obsS n fa fn ex g = (hookS n fa fn ex).obs s := by
  have e : g = s.heap.get? := funext h
  rw [e] <;> rfl
end HS

set_option maxHeartbeats 4000000
namespace WH
open PySem PySem.Spec PyProof.Rows L2
section
variable {P : Program} {w : World} {K : PySem.W.Frag} {mg : Str → Option Value} {base : Heap}
theorem cm_bool {i : Int} (k : Bool) : CMul i (if k = true then 1 else 0) := by
  cases k
  · exact .inr ⟨by decide, by decide⟩
  · exact .inr ⟨by decide, by decide⟩
theorem sgn_of {l : List Bool} {i c : Nat} (hc : (rowS l).cps[i]? = some c) : ∃ b, l[i]? = some b ∧ V.str ⟨#[c]⟩ = V.str (sgn b) := by
  have : (l.map code)[i]? = some c := by simpa [rowS, SX.S] using hc
  rw [List.getElem?_map] at this
  obtain ⟨b, h, rfl⟩ := Option.map_eq_some_iff.mp this
  exact ⟨b, h, by cases b <;> decide +kernel⟩
theorem rowS_size (l : List Bool) : (rowS l).cps.size = l.length := by simp [rowS, SX.S]
theorem nxt_eq {w : WN} {n : Nat} : (n : Int) * (if (!w.anew) = true then 1 else 0) = (w.nxt false n : Nat) := by
  unfold WN.nxt
  cases w.anew <;> simp
theorem stOf_ok {w : WN} (ok : okW w) {s : Int} (h1 : 1 ≤ s) (h2 : s ≤ w.cap) : ∀ l, okSt w (stOf w s l) :=
  rev_ind ⟨h1, h2, by have := ok.tpos; omega⟩ fun l b ih => by rw [stOf_snoc]; exact led_ok ok b ih
/-- a pair of states -/
def PrV (H : Hp) (v : V) (q : Stt × Stt) : Prop := ∃ p v1 v2, v = .ref p ∧ H p = some (.tup [v1, v2]) ∧ SttV H v1 q.1 ∧ SttV H v2 q.2
theorem PrV.mono {H H' : Hp} (s : Same H H') {v : V} {q : Stt × Stt} (h : PrV H v q) : PrV H' v q := by
  obtain ⟨p, v1, v2, rfl, h, h1, h2⟩ := h
  exact ⟨p, v1, v2, rfl, s _ _ h, h1.mono s, h2.mono s⟩
def spLedL : Sp := fun vs H Q _ => ∃ v w x st b, vs = [v, x, .str (sgn b)] ∧ PlanV H v w ∧ okW w ∧ SttV H x st ∧ okSt w st ∧ ∀ v' H', Same H H' → SttV H' v' (w.led b st) → Q v' H'
theorem cal__law_led (T : Txt K mg) : C8.Cal P w K mg base 3 "_law_led" spLedL [] := by
  refine calD T.f__law_led T.g__law_led sc__law_led (fun fd F => F.bindsN fun _ _ _ _ _ _ us hl => match us, hl with | [_, _, _], _ => rfl) (fun vs H Q E h => by obtain ⟨_, _, _, _, _, rfl, _⟩ := h; rfl) fun cdv A outer s H vs Q E hr h => ?_
  refine ⟨_, (pss_cons (ps_if (pt_cmpR op_isN (pv 1) pe_non (nomark _)) (pss_one (ps_ret pe_non)) pss_nil) (pss_cons (ps_if (pt_cmpR op_eq (pv 2) pe_str (nomark _)) (pss_one (ps_ret (NW.pe_tupN (pa_cons (pe_callB (call_min2 rfl) (by rfl) T.b_min (by decide +kernel) (pa_cons (pe_ix ix_tup (pv 0) pe_int (fun _ _ => rfl)) (pa_cons (pe_op op_add (pe_ix ix_tup (pv 1) pe_int (fun _ _ => rfl)) (pe_ix ix_tup (pv 0) pe_int (fun _ _ => rfl))) pa_nil))) (pa_cons (pe_op op_mul (pe_ix ix_tup (pv 1) pe_int (fun _ _ => rfl)) (pe_callTy call_int1 (by rfl) T.b_int (by decide +kernel) (pa_cons (pe_not (pe_ix ix_tup (pv 0) pe_int (fun _ _ => rfl))) pa_nil))) pa_nil))))) pss_nil) (pss_cons (ps_set (i := 3) sc__law_led.nd rfl (by first | exact Or.inl rfl | exact Or.inr rfl) (C8.pe_c (cal__law_waned T) hr (by decide) rfl (pa_cons (pv 0) (pa_cons (pe_ix ix_tup (pv 1) pe_int (fun _ _ => rfl)) (pa_cons (pe_ix ix_tup (pv 1) pe_int (fun _ _ => rfl)) pa_nil))))) (pss_cons (ps_if (pt_cmpR op_eq (pv 3) pe_int (nomark _)) (pss_one (ps_ret pe_non)) pss_nil) (pss_one (ps_ret (NW.pe_tupN (pa_cons (pv 3) (pa_cons (C8.pe_c (cal__law_phase T) hr (by decide) rfl (pa_cons (pv 0) (pa_cons (pe_op op_add (pe_ix ix_tup (pv 1) pe_int (fun _ _ => rfl)) pe_int) pa_nil))) pa_nil))))))))), ?_⟩
  obtain ⟨v, w, x, st, b, rfl, hv, ok, hx, hs, q⟩ := h
  obtain ⟨p, ah, at_, rfl, hp, sh, sT⟩ := id hv
  cases st with
  | none =>
    obtain rfl : x = .non := hx
    exact ⟨_, rfl, rfl, _, rfl, iteT (q _ _ (Same.refl _) rfl)⟩
  | some u =>
    obtain ⟨s0, n⟩ := u
    obtain ⟨c, rfl, hc⟩ := hx
    obtain ⟨s1, s2, n1⟩ := hs
    refine ⟨_, rfl, rfl, _, rfl, iteF ⟨_, rfl, rfl, _, rfl, ?_⟩⟩
    rw [sgn_a]
    cases b with
    | true =>
      refine iteF ⟨_, rfl, _, rfl, c, _, _, _, rfl, rfl, SqT.of hc, rfl, _, rfl, c, _, _, _, rfl, rfl, SqT.of hc, rfl, .ref p, w, s0, n, rfl, hv, ok, fun H1 S1 => ?_⟩
      refine ⟨_, rfl, rfl, _, rfl, ite2 (fun z => ?_) fun z => ?_⟩
      · have z : w.turn s0 n = 0 := by simpa using z
        refine q _ _ S1 ?_
        show SttV _ V.non (if w.turn s0 n = 0 then none else some (w.turn s0 n, w.phase (n + 1)))
        rw [if_pos z]; rfl
      · have z : ¬ w.turn s0 n = 0 := by simpa using z
        refine ⟨_, rfl, _, rfl, _, rfl, c, _, _, _, rfl, rfl, SqT.of (S1 _ _ hc), rfl, _, _, rfl, rfl, .ref p, w, n + 1, rfl, hv.mono S1, ok.tpos, by show 2 ≤ sizeLine; decide, fun t H2 nt S2 ht => q _ _ (S1.trans S2) ?_⟩
        show SttV _ _ (if w.turn s0 n = 0 then none else some (w.turn s0 n, w.phase (n + 1)))
        rw [if_neg z]
        exact ⟨t, rfl, ht⟩
    | false =>
      refine iteT ⟨_, rfl, p, _, _, _, rfl, rfl, SqT.of hp, rfl, _, rfl, c, _, _, _, rfl, rfl, SqT.of hc, rfl, _, rfl, p, _, _, _, rfl, rfl, SqT.of hp, rfl, _, _, rfl, rfl, _, _, rfl, ?_⟩
      refine ⟨_, rfl, c, _, _, _, rfl, rfl, SqT.of hc, rfl, _, rfl, p, _, _, _, rfl, rfl, SqT.of hp, rfl, _, rfl, .inr ⟨_, rfl, _, _, rfl, rfl, cm_bool _, by show 2 ≤ sizeLine; decide, fun t H2 nt S2 ht => q _ _ S2 ⟨t, rfl, ?_⟩⟩⟩
      rw [ht]
      show some (HO.tup [V.int (if s0 + w.lift < w.cap then s0 + w.lift else w.cap), V.int ((n : Int) * (if (!w.anew) = true then 1 else 0))]) = some (HO.tup [V.int (w.ask s0), V.int (w.nxt false n : Nat)])
      rw [nxt_eq]
      unfold WN.ask
      rw [if_neg (show ¬ s0 = 0 by omega)]
end
end WH

set_option maxHeartbeats 4000000
namespace WH
open PySem PySem.Spec PyProof.Rows L2
/-! ### data of states, of orders -/
def stD : Stt → PyData
  | none => .none
  | some p => .tuple [.int p.1, .int (p.2 : Nat)]
def prD (q : Stt × Stt) : PyData := .tuple [stD q.1, stD q.2]
def ordD (l : List Bool) : PyData := .tuple [.int l.length, .list (l.map fun b => .int (if b then 0 else 1))]
theorem stD_dp {K : PySem.W.Frag} {H : Hp} {v : V} : ∀ {st : Stt}, SttV H v st → Dp K H v (stD st)
  | none, h => by obtain rfl : v = .non := h; exact .non
  | some p, ⟨b, e, h⟩ => by subst e; exact .tup (SqT.of h) (.cons (.int _) (.cons (.int _) .nil))
theorem prD_dp {K : PySem.W.Frag} {H : Hp} {p : Addr} {v1 v2 : V} {q : Stt × Stt} (h : H p = some (.tup [v1, v2])) (h1 : SttV H v1 q.1) (h2 : SttV H v2 q.2) : Dp K H (.ref p) (prD q) := .tup (SqT.of h) (.cons (stD_dp h1) (.cons (stD_dp h2) .nil))
def small (i : Int) : Prop := 0 ≤ i ∧ i < 1000000000000
theorem small_log {i : Int} (h : small i) : decide (i.natAbs.log2 < 1920) = true := by
  rw [decide_eq_true_eq]
  by_cases z : i.natAbs = 0
  · rw [z]; decide
  · rw [Nat.log2_lt z]
    have h1 := h.1
    have h2 := h.2
    exact Nat.lt_of_lt_of_le (show i.natAbs < 2 ^ 40 by omega) (Nat.pow_le_pow_right (by decide) (by decide))
theorem small_short {i : Int} (h : small i) : decide ((PyData.shown (.int i)).length ≤ 13) = true := by
  rw [decide_eq_true_eq]
  have h1 := h.1
  have h2 := h.2
  exact PyData.shown_int_le (by omega)
theorem small_weight {i : Int} (h : small i) : (if i == 0 then 0 else i.natAbs.log2 + 1) ≤ 64 := by
  have h1 := h.1
  have h2 := h.2
  split
  · omega
  · rename_i z
    have z : i.natAbs ≠ 0 := fun e => z (by simp; omega)
    have := (Nat.log2_lt z (k := 40)).mpr (by omega)
    omega
structure Shows (d : PyData) : Prop where
  a : d.showable = true
  b : d.hasDict = false
  c : d.depth ≤ 60
  d : d.shown.length ≤ sizeLine
def okU (st : Stt) : Prop := match st with
  | none => True
  | some (s, n) => small s ∧ n < 100
theorem okSt.u {w : WN} (ok : okW w) : ∀ {st : Stt}, okSt w st → okU st
  | none, _ => trivial
  | some (s, n), ⟨h1, h2, h3⟩ => by
    have := ok.c2
    have := ok.hl
    have := (tails_le ok.tl).2
    exact ⟨⟨by omega, by omega⟩, by omega⟩
theorem prD_shows {q : Stt × Stt} (h1 : okU q.1) (h2 : okU q.2) : Shows (prD q) := by
  obtain ⟨a, b⟩ := q
  have key : ∀ st : Stt, okU st → (stD st).showable = true ∧ (stD st).hasDict = false ∧ (stD st).depth ≤ 4 ∧ (stD st).leavesShort 13 = true ∧ (stD st).weight ≤ 1000 := by
    intro st h
    match st, h with
    | none, _ => exact ⟨rfl, rfl, by simp [stD, PyData.depth], rfl, by simp [stD, PyData.weight]⟩
    | some (s, n), ⟨hs, hn⟩ =>
      have hn2 : small ((n : Nat) : Int) := ⟨by omega, by omega⟩
      refine ⟨?_, rfl, ?_, ?_, ?_⟩
      · show (decide (s.natAbs.log2 < 1920) && (decide (((n : Nat) : Int).natAbs.log2 < 1920) && true)) = true
        rw [small_log hs, small_log hn2]; rfl
      · simp [stD, PyData.depth, PyData.depthAll]
      · show (decide ((PyData.shown (.int s)).length ≤ 13) && (decide ((PyData.shown (.int (n : Nat))).length ≤ 13) && true)) = true
        rw [small_short hs, small_short hn2]; rfl
      · show (if s == 0 then 0 else s.natAbs.log2 + 1) + 1 + ((if ((n : Nat) : Int) == 0 then 0 else ((n : Nat) : Int).natAbs.log2 + 1) + 1 + 0) ≤ 1000
        have := small_weight hs
        have := small_weight hn2
        omega
  obtain ⟨a1, a2, a3, a4, a5⟩ := key a h1
  obtain ⟨b1, b2, b3, b4, b5⟩ := key b h2
  refine ⟨?_, ?_, ?_, PyData.shown_fits (B := 13) (by decide) (by decide) ?_ ?_⟩
  · show ((stD a).showable && ((stD b).showable && true)) = true
    rw [a1, b1]; rfl
  · show ((stD a).hasDict || ((stD b).hasDict || false)) = false
    rw [a2, b2]; rfl
  · show PyData.depth (.tuple [stD a, stD b]) ≤ 60
    simp only [PyData.depth, PyData.depthAll]; omega
  · show ((stD a).leavesShort 13 && ((stD b).leavesShort 13 && true)) = true
    rw [a4, b4]; rfl
  · show (stD a).weight + 1 + ((stD b).weight + 1 + 0) ≤ 2 ^ 20
    omega
def ints01 (l : List Bool) : List PyData := l.map fun b => .int (if b then 0 else 1)
theorem alike01 : ∀ a b : List Bool, PySem.W.alikeAll (ints01 a) (ints01 b) = true
  | [], _ => by simp [ints01, PySem.W.alikeAll]
  | _ :: _, [] => by simp [ints01, PySem.W.alikeAll]
  | x :: a, y :: b => by
    show PySem.W.alikeAll (.int _ :: ints01 a) (.int _ :: ints01 b) = true
    rw [PySem.W.alikeAll, alike01 a b]
    simp [PySem.W.alike]
theorem ordD_alike (a b : List Bool) : PySem.W.alike (ordD a) (ordD b) = true := by
  have := alike01 a b
  unfold ints01 at this
  simp [ordD, PySem.W.alike, PySem.W.alikeAll, this]
theorem depth01 : ∀ a : List Bool, PyData.depthAll (ints01 a) = 0
  | [] => by simp [ints01, PyData.depthAll]
  | x :: a => by
    show PyData.depthAll (.int _ :: ints01 a) = 0
    rw [PyData.depthAll, depth01 a]
    simp [PyData.depth]
theorem ordD_depth (a : List Bool) : (ordD a).depth ≤ 4 := by
  have := depth01 a
  unfold ints01 at this
  simp [ordD, PyData.depth, PyData.depthAll, this]
theorem lt01 : ∀ a b : List Bool, a.length = b.length → (a = b ∨ ∃ k, a.take k = b.take k ∧ a[k]? = some true ∧ b[k]? = some false) → PyProof.Rows.lexLt PyProof.Rows.itemOrd (PySem.W.keyToksAll (ints01 b)) (PySem.W.keyToksAll (ints01 a)) = false
  | [], [], _, _ => PyProof.Rows.lex_irrefl _
  | x :: a, y :: b, hl, h => by
    have al : PySem.W.alike (.int (if y then 0 else 1)) (.int (if x then 0 else 1)) = true := by simp [PySem.W.alike]
    show PyProof.Rows.lexLt PyProof.Rows.itemOrd (PySem.W.keyToksAll (.int (if y then 0 else 1) :: ints01 b)) (PySem.W.keyToksAll (.int (if x then 0 else 1) :: ints01 a)) = false
    rw [PySem.W.dataLt_cons al]
    by_cases e : x = y
    · subst e
      have ev : PyData.eqv (.int (if x then 0 else 1)) (.int (if x then 0 else 1)) = true := by simp [PyData.eqv]
      rw [if_pos ev]
      refine lt01 a b (by simpa using hl) ?_
      rcases h with h | ⟨k, h1, h2, h3⟩
      · exact .inl (by simpa using h)
      · match k, h1, h2, h3 with
        | 0, _, h2, h3 => simp at h2 h3; rw [h2] at h3; cases h3
        | k + 1, h1, h2, h3 => exact .inr ⟨k, by simpa using h1, by simpa using h2, by simpa using h3⟩
    · have xy : x = true ∧ y = false := by
        rcases h with h | ⟨k, h1, h2, h3⟩
        · cases h; exact absurd rfl e
        · match k, h1, h2, h3 with
          | 0, _, h2, h3 => simp at h2 h3; exact ⟨h2, h3⟩
          | k + 1, h1, _, _ => simp at h1; exact absurd h1.1 e
      obtain ⟨rfl, rfl⟩ := xy
      rw [if_neg (by simp [PyData.eqv]), PySem.W.dataLt_int]
      decide
theorem ordD_le {a b : List Bool} (h : a = b ∨ Ahead a b) : PySem.W.dataLt (ordD b) (ordD a) = false := by
  have al : PySem.W.alike (.int b.length) (.int a.length) = true := by simp [PySem.W.alike]
  have al2 : PySem.W.alike (.list (ints01 b)) (.list (ints01 a)) = true := by rw [PySem.W.alike]; exact alike01 b a
  show PySem.W.dataLt (.tuple [.int b.length, .list (ints01 b)]) (.tuple [.int a.length, .list (ints01 a)]) = false
  rw [PySem.W.dataLt_pair al al2]
  by_cases e : a.length = b.length
  · rw [if_pos (by simp [PyData.eqv, e])]
    split
    · rfl
    · rw [PySem.W.dataLt_list]
      refine lt01 a b e ?_
      rcases h with h | h | ⟨_, h⟩
      · exact .inl h
      · omega
      · exact .inr h
  · rw [if_neg (by simp [PyData.eqv]; omega), PySem.W.dataLt_int]
    refine decide_eq_false ?_
    rcases h with h | h | ⟨h, _⟩
    · exact absurd (congrArg List.length h) e
    · omega
    · omega
end WH

set_option maxHeartbeats 4000000
namespace WH
open PySem PySem.Spec PyProof.Rows L2
/-! ### what is due by so many pairs -/
inductive Due where
  | parted (row : List Bool)
  | alike (rows : List Row)
  | refused (m : Nat)
section
variable {w1 w2 : WN} {s f : Int}
/-- the search stands at k: all ahead of it clean, it is the last, or its pair parts -/
structure Ends_ (w1 w2 : WN) (s f : Int) (k : Nat) : Prop where
  cl : Clean w1 w2 s f k
  le : k ≤ (run w1 w2 s f k).length
  en : k = (run w1 w2 s f k).length ∨ ∃ r, (run w1 w2 s f k)[k]? = some r ∧ parts r.2 = true
inductive IsDue (w1 w2 : WN) (s f : Int) (m : Nat) : Due → Prop
  | parted {k : Nat} {row : List Bool} {p : Stt × Stt} : Clean w1 w2 s f k → (run w1 w2 s f k)[k]? = some (row, p) → parts p = true → k < m → IsDue w1 w2 s f m (.parted row)
  | alike {k : Nat} : Clean w1 w2 s f k → k = (run w1 w2 s f k).length → k ≤ m → IsDue w1 w2 s f m (.alike (run w1 w2 s f k))
  | refused : Clean w1 w2 s f m → m < (run w1 w2 s f m).length → IsDue w1 w2 s f m (.refused m)
theorem run_fix {k : Nat} (hk : (run w1 w2 s f k).length ≤ k) : ∀ d, run w1 w2 s f (k + d) = run w1 w2 s f k
  | 0 => rfl
  | d + 1 => by
    have ih := run_fix hk d
    show run w1 w2 s f (k + d + 1) = _
    rw [run_succ, ih, List.getElem?_eq_none (by omega)]
theorem run_fix_le {k j : Nat} (hk : (run w1 w2 s f k).length ≤ k) (h : k ≤ j) : run w1 w2 s f j = run w1 w2 s f k := by
  obtain ⟨d, rfl⟩ := Nat.exists_eq_add_of_le h
  exact run_fix hk d
theorem clean_part {k j : Nat} {r : Row} (c : Clean w1 w2 s f k) (hr : (run w1 w2 s f j)[j]? = some r) (hp : parts r.2 = true) : k ≤ j := by
  rcases Nat.lt_or_ge j k with h | h
  · obtain ⟨q, hq, hp'⟩ := c j h
    rw [hr] at hq
    cases hq
    rw [hp] at hp'; cases hp'
  · exact h
/-- two ends of the search are one -/
theorem ends_one {j k : Nat} (a : Ends_ w1 w2 s f j) (b : Ends_ w1 w2 s f k) : j = k := by
  have key : ∀ {j k : Nat}, Ends_ w1 w2 s f j → Ends_ w1 w2 s f k → k ≤ j := by
    intro j k a b
    rcases a.en with e | ⟨r, hr, hp⟩
    · rcases Nat.lt_or_ge j k with h | h
      · obtain ⟨q, hq, _⟩ := b.cl j h
        have := (List.getElem?_eq_some_iff.mp hq).1
        omega
      · exact h
    · exact clean_part b.cl hr hp
  exact Nat.le_antisymm (key b a) (key a b)
/-- what is due, by where the search ends -/
def due (w1 w2 : WN) (s f : Int) (k m : Nat) : Due :=
  match (run w1 w2 s f k)[k]? with
  | some r => if k < m then .parted r.1 else .refused m
  | none => if k ≤ m then .alike (run w1 w2 s f k) else .refused m
theorem Clean.le {j k : Nat} (c : Clean w1 w2 s f k) (h : j ≤ k) : Clean w1 w2 s f j := fun i hi => c i (by omega)
theorem due_of {k m : Nat} {o : Due} (e : Ends_ w1 w2 s f k) (d : IsDue w1 w2 s f m o) : o = due w1 w2 s f k m := by
  cases d with
  | @parted j row p c hr hp hm =>
    have := (List.getElem?_eq_some_iff.mp hr).1
    obtain rfl := ends_one ⟨c, by omega, .inr ⟨_, hr, hp⟩⟩ e
    unfold due
    rw [hr]
    show _ = if j < m then Due.parted row else _
    rw [if_pos hm]
  | @alike j c hk hm =>
    obtain rfl := ends_one ⟨c, by omega, .inl hk⟩ e
    unfold due
    rw [List.getElem?_eq_none (by omega)]
    show _ = if j ≤ m then _ else _
    rw [if_pos hm]
  | refused c hm =>
    have mk : m ≤ k := by
      rcases e.en with h | ⟨r, hr, hp⟩
      · rcases Nat.lt_or_ge k m with g | g
        · have := run_fix_le (w1 := w1) (w2 := w2) (s := s) (f := f) (show (run w1 w2 s f k).length ≤ k by omega) (show k ≤ m by omega)
          rw [this] at hm; omega
        · exact g
      · exact clean_part c hr hp
    unfold due
    rcases e.en with h | ⟨r, hr, hp⟩
    · rw [List.getElem?_eq_none (by omega)]
      show _ = if k ≤ m then _ else _
      rw [if_neg (fun g => by
        have : k = m := by omega
        subst this; omega)]
    · rw [hr]
      show _ = if k < m then _ else _
      rw [if_neg (by omega)]
end
end WH

set_option maxHeartbeats 4000000
namespace WH
open PySem PySem.Spec PyProof.Rows L2
section
variable {P : Program} {w : World} {K : PySem.W.Frag} {mg : Str → Option Value} {base : Heap}
theorem two_retN {H0 H : Hp} {b c : Addr} {v1 v2 : V} {w1 w2 : WN} {s f : Int} {Q : VK} (q : ∀ v w1 s w2 f H', But b H0 H' → Bag H' b c → TwoV H' v w1 s w2 f → okTwo w1 s w2 f → Q v H') (S : But b H0 H) (g : Bag H b c) (h1 : PlanV H v1 w1) (h2 : PlanV H v2 w2) (ok : okTwo w1 s w2 f) :
    4 ≤ sizeLine ∧ ∀ r H2, H r = none → Same H H2 → H2 r = some (.tup [v1, .int s, v2, .int f]) → Q (.ref r) H2 :=
  ⟨by decide, fun r H2 nr S2 e => q _ w1 s w2 f _ (S.same S2) (g.same S2) ⟨r, v1, v2, rfl, e, h1.mono S2, h2.mono S2⟩ ok⟩
def sizes : List Int := [1, 2, 3, 4, 6]
theorem cm_b {i : Int} (k : Bool) : CMul i (if k = true then 1 else 0) := by
  cases k
  · exact .inr ⟨by decide, by decide⟩
  · exact .inr ⟨by decide, by decide⟩
theorem pickSize {n : Nat} (h1 : 1 ≤ n) (h7 : n ≤ 7) {v : Int} (v0 : 0 ≤ v) (v1 : v < 2) :
    ∃ sz : Nat, atI ((sizes.filter fun k => decide (k ≤ ((n : Nat) : Int))).map V.int) (-1 - v * (if decide ((1 : Int) < (n : Nat)) = true then 1 else 0)) = some (.int (sz : Nat)) ∧ (sz = 1 ∨ sz = 2 ∨ sz = 3 ∨ sz = 4 ∨ sz = 6) ∧ sz ≤ n := by
  obtain rfl | rfl : v = 0 ∨ v = 1 := by omega
  all_goals
    obtain rfl | rfl | rfl | rfl | rfl | rfl | rfl : n = 1 ∨ n = 2 ∨ n = 3 ∨ n = 4 ∨ n = 5 ∨ n = 6 ∨ n = 7 := by omega
  · exact ⟨1, by decide +kernel, by decide, by decide⟩
  · exact ⟨2, by decide +kernel, by decide, by decide⟩
  · exact ⟨3, by decide +kernel, by decide, by decide⟩
  · exact ⟨4, by decide +kernel, by decide, by decide⟩
  · exact ⟨4, by decide +kernel, by decide, by decide⟩
  · exact ⟨6, by decide +kernel, by decide, by decide⟩
  · exact ⟨6, by decide +kernel, by decide, by decide⟩
  · exact ⟨1, by decide +kernel, by decide, by decide⟩
  · exact ⟨1, by decide +kernel, by decide, by decide⟩
  · exact ⟨2, by decide +kernel, by decide, by decide⟩
  · exact ⟨3, by decide +kernel, by decide, by decide⟩
  · exact ⟨3, by decide +kernel, by decide, by decide⟩
  · exact ⟨4, by decide +kernel, by decide, by decide⟩
  · exact ⟨4, by decide +kernel, by decide, by decide⟩
def spNumber : Sp := fun vs H Q _ => ∃ b c n, vs = [.ref b, .int n] ∧ 1 ≤ n ∧ n ≤ 1000000000 ∧ Bag H b c ∧ ∀ v H', But b H H' → Bag H' b c → 1 ≤ v → v ≤ n → Q (.int v) H'
theorem cal__law_number (T : Txt K mg) : C8.Cal P w K mg base 2 "_law_number" spNumber [] := by
  refine calD T.f__law_number T.g__law_number sc__law_number (fun fd F => F.bindsN fun _ _ _ _ _ _ us hl => match us, hl with | [_, _], _ => rfl) (fun vs H Q E h => by obtain ⟨_, _, _, rfl, _⟩ := h; rfl) fun cdv A outer s H vs Q E hr h => ?_
  refine ⟨_, (pss_one (ps_ret (pe_ix ix_list (NW.pe_lstN (pa_cons pe_int (pa_cons (pv 1) (pa_cons (pe_op op_add pe_int (C8.pe_c (cal__law_take T) hr (by decide) rfl (pa_cons (pv 0) (pa_cons (pe_callB (call_min2 rfl) (by rfl) T.b_min (by decide +kernel) (pa_cons (pv 1) (pa_cons pe_int pa_nil))) pa_nil)))) (pa_cons (pe_op op_add pe_int (C8.pe_c (cal__law_take T) hr (by decide) rfl (pa_cons (pv 0) (pa_cons (pv 1) pa_nil)))) pa_nil))))) (C8.pe_c (cal__law_take T) hr (by decide) rfl (pa_cons (pv 0) (pa_cons pe_int pa_nil))) (fun _ _ => rfl)))), ?_⟩
  obtain ⟨b, c, n, rfl, n1, n2, g, q⟩ := h
  refine ⟨_, rfl, _, rfl, _, rfl, _, _, rfl, b, c, _, rfl, g, by split <;> omega, by split <;> omega, fun v1 H1 a1 a2 s1 g1 => ⟨_, _, rfl, rfl, ?_⟩⟩
  refine ⟨_, rfl, _, rfl, b, c, n, rfl, g1, by omega, by omega, fun v2 H2 b1 b2 s2 g2 => ⟨_, _, rfl, rfl, by show 4 ≤ sizeLine; decide, fun l H3 nl S3 e3 => ?_⟩⟩
  refine ⟨_, rfl, b, c, 4, rfl, g2.same S3, by decide, by decide, fun v3 H4 c1 c2 s4 g4 => ?_⟩
  obtain ⟨y, hy, ey⟩ := pick4 (a := 1) (b := n) (c := 1 + v1) (d := 1 + v2) c1 c2
  have a3 : v1 < n := by split at a2 <;> omega
  refine ⟨l, _, _, _, rfl, rfl, SqL.of (s4 _ _ (g2.nb nl) e3), ey, q y H4 (((s1.trans s2).same S3).trans s4) g4 (by omega) (by omega)⟩
def spFarPlan : Sp := fun vs H Q _ => ∃ b c, vs = [.ref b] ∧ Bag H b c ∧ ∀ v w H', But b H H' → Bag H' b c → PlanV H' v w → okW w → Q v H'
theorem cal__law_far_plan (T : Txt K mg) : C8.Cal P w K mg base 3 "_law_far_plan" spFarPlan [] := by
  refine calD T.f__law_far_plan T.g__law_far_plan sc__law_far_plan (fun fd F => F.bindsN fun _ _ _ _ _ _ us hl => match us, hl with | [_], _ => rfl) (fun vs H Q E h => by obtain ⟨_, _, rfl, _⟩ := h; rfl) fun cdv A outer s H vs Q E hr h => ?_
  refine ⟨_, (C8.pss_cut (ps_set (i := 1) sc__law_far_plan.nd rfl (by first | exact Or.inl rfl | exact Or.inr rfl) (pe_ix ix_list (NW.pe_lstN (pa_cons pe_int (pa_cons (pe_op op_pow pe_int pe_int) (pa_cons (pe_op op_pow pe_int pe_int) pa_nil)))) (C8.pe_c (cal__law_take T) hr (by decide) rfl (pa_cons (pv 0) (pa_cons pe_int pa_nil))) (fun _ _ => rfl))) (pss_cons (ps_set (i := 2) sc__law_far_plan.nd rfl (by first | exact Or.inl rfl | exact Or.inr rfl) (NW.pe_lstN pa_nil)) (C8.pss_cut (ps_for PassesOwn.never rfl (pi_range1 (by rfl) T.b_range (pa_cons (pe_op op_add pe_int (C8.pe_c (cal__law_take T) hr (by decide) rfl (pa_cons (pv 0) (pa_cons pe_int pa_nil)))) pa_nil)) (pg_name (i := 3) sc__law_far_plan.nd rfl (by first | exact Or.inl rfl | exact Or.inr rfl)) (pss_cons (ps_set (i := 4) sc__law_far_plan.nd rfl (by first | exact Or.inl rfl | exact Or.inr rfl) (pe_ix ix_list (NW.pe_lstN (pa_cons pe_int (pa_cons pe_int (pa_cons pe_int (pa_cons (pe_op op_add pe_int (C8.pe_c (cal__law_take T) hr (by decide) rfl (pa_cons (pv 0) (pa_cons pe_int pa_nil)))) pa_nil))))) (C8.pe_c (cal__law_take T) hr (by decide) rfl (pa_cons (pv 0) (pa_cons pe_int pa_nil))) (fun _ _ => rfl))) (pss_one (ps_expr (pe_bm PySem.F.plainAttrs_list PySem.F.slot_list_append PySem.F.type_list_append mt_append (pv 2) (pa_cons (NW.pe_tupN (pa_cons (pv 4) (pa_cons (pe_ix ix_list (NW.pe_lstN (pa_cons pe_int (pa_cons (C8.pe_c (cal__law_take T) hr (by decide) rfl (pa_cons (pv 0) (pa_cons pe_int pa_nil))) (pa_cons (C8.pe_c (cal__law_take T) hr (by decide) rfl (pa_cons (pv 0) (pa_cons (pe_op op_add (pv 1) pe_int) pa_nil))) pa_nil)))) (C8.pe_c (cal__law_take T) hr (by decide) rfl (pa_cons (pv 0) (pa_cons pe_int pa_nil))) (fun _ _ => rfl)) pa_nil))) pa_nil)))))) (C8.pss_cut (ps_set (i := 5) sc__law_far_plan.nd rfl (by first | exact Or.inl rfl | exact Or.inr rfl) (pe_ix ix_list (pe_lc (own := [("_law_one", 6)]) (by rfl) sc__law_far_plan.nd (pi_tup (NW.pe_tupN (pa_cons pe_int (pa_cons pe_int (pa_cons pe_int (pa_cons pe_int (pa_cons pe_int pa_nil))))))) (blkOk_by (own := [("_law_one", 6)]) (N := n__law_far_plan) (sc := defScope s__law_far_plan) (by decide +kernel)) (fun _ _ _ _ _ => (pg_name (i := 6) sc__law_far_plan.nd rfl (by first | exact Or.inl rfl | exact Or.inr rfl))) (fun _ _ _ _ _ => (pts_one (pt_cmpR op_le (pv 6) (pe_callB (KX.call_len (K := K) rfl) (by rfl) T.b_len (by decide +kernel) (pa_cons (pv 2) pa_nil)) (nomark _)))) (fun _ _ _ _ _ => (pv 6))) (pe_op op_sub (pe_un un_neg pe_int) (pe_op op_mul (C8.pe_c (cal__law_take T) hr (by decide) rfl (pa_cons (pv 0) (pa_cons pe_int pa_nil))) (pe_callTy call_int1 (by rfl) T.b_int (by decide +kernel) (pa_cons (pe_cmpR op_gt (pe_callB call_len (by rfl) T.b_len (by decide +kernel) (pa_cons (pv 2) pa_nil)) pe_int (nomark _)) pa_nil)))) (fun _ _ => rfl))) (pss_cons (ps_set (i := 7) sc__law_far_plan.nd rfl (by first | exact Or.inl rfl | exact Or.inr rfl) (pe_ix ix_list (NW.pe_lstN (pa_cons pe_int (pa_cons (C8.pe_c (cal__law_take T) hr (by decide) rfl (pa_cons (pv 0) (pa_cons pe_int pa_nil))) (pa_cons (C8.pe_c (cal__law_take T) hr (by decide) rfl (pa_cons (pv 0) (pa_cons (pe_op op_add (pv 1) pe_int) pa_nil))) pa_nil)))) (C8.pe_c (cal__law_take T) hr (by decide) rfl (pa_cons (pv 0) (pa_cons pe_int pa_nil))) (fun _ _ => rfl))) (pss_one (ps_ret (NW.pe_tupN (pa_cons (pe_slice NW.sl_listN (pv 2) (po_some (pv 5)) po_none) (pa_cons (pe_slice NW.sl_listN (pv 2) po_none (po_some (pv 5))) (pa_cons (C8.pe_c (cal__law_number T) hr (by decide) rfl (pa_cons (pv 0) (pa_cons (pv 1) pa_nil))) (pa_cons (pv 7) (pa_cons (pe_cmpR op_eq (C8.pe_c (cal__law_take T) hr (by decide) rfl (pa_cons (pv 0) (pa_cons pe_int pa_nil))) pe_int (nomark _)) pa_nil))))))))))))), ?_⟩
  obtain ⟨b, c, rfl, g, q⟩ := h
  refine ⟨fun σ H' => ∃ bd : Int, 1 ≤ bd ∧ bd ≤ 1000000000 ∧ But b H H' ∧ Bag H' b c ∧ σ = [some (.ref b), some (.int bd), none, none, none, none, none, none], ?_, ?_⟩
  · refine ⟨_, _, rfl, rfl, ⟨by decide, by decide, by decide⟩, _, _, rfl, rfl, ⟨by decide, by decide, by decide⟩, by show 3 ≤ sizeLine; decide, fun l H1 nl S1 e1 => ?_⟩
    refine ⟨_, rfl, b, c, 3, rfl, g.same S1, by decide, by decide, fun v1 H2 a1 a2 s2 g2 => ?_⟩
    obtain ⟨y, hy, ey⟩ := pick3 (a := 30) (b := (10 : Int) ^ (4 : Int).toNat) (c := (10 : Int) ^ (9 : Int).toNat) a1 a2
    have h4 : (10 : Int) ^ (4 : Int).toNat = 10000 := by decide
    have h9 : (10 : Int) ^ (9 : Int).toNat = 1000000000 := by decide
    exact ⟨l, _, _, _, rfl, rfl, SqL.of (s2 _ _ (g.nb nl) e1), ey, y, by omega, by omega, (But.of S1).trans s2, g2, rfl⟩
  rintro σ H1 ⟨bd, d1, d2, B1, g1, rfl⟩
  refine ⟨by show 0 ≤ sizeLine; decide, fun D H2 nD1 S2 eD => ?_⟩
  have Db : D ≠ b := g1.nb nD1
  have Dc : D ≠ c := fun z => by obtain ⟨_, _, _, _, g⟩ := g1; rw [z, g.c] at nD1; cases nD1
  refine ⟨fun σ H' => ∃ vs xs o3 o4, But b H1 H' ∧ Bag H' b c ∧ H' D = some (.lst vs) ∧ Paired (StepV H') vs xs ∧ (∀ x ∈ xs, okS x) ∧ 1 ≤ xs.length ∧ xs.length ≤ 7 ∧ σ = [some (.ref b), some (.int bd), some (.ref D), o3, o4, none, none, none], ?_, ?_⟩
  · refine ⟨_, rfl, b, c, 7, rfl, g1.same S2, by decide, by decide, fun v1 H3 a1 a2 s3 g3 => ⟨_, _, rfl, rfl, _, rfl, by omega, by omega, ?_⟩⟩
    refine for_it walk_range (fun i σ H' => ∃ vs xs o3 o4, But b H1 H' ∧ Bag H' b c ∧ H' D = some (.lst vs) ∧ Paired (StepV H') vs xs ∧ (∀ x ∈ xs, okS x) ∧ xs.length = i ∧ σ = [some (.ref b), some (.int bd), some (.ref D), o3, o4, none, none, none]) ⟨[], [], _, _, (But.of S2).trans s3, g3, s3 _ _ Db eD, .nil, (fun _ h => by simp at h), rfl, rfl⟩ (fun _ _ _ _ _ => trivial) ?_ ?_
    · rintro i x σ H9 H4 hi ⟨vs, xs, o3, o4, B4, g4, hv, hp, ok, hl, rfl⟩ ⟨rfl, rfl⟩
      have hvl := paired_len hp
      have hi7 : i < 7 := by omega
      refine ⟨_, rfl, b, c, 9, rfl, g4, by decide, by decide, fun v2 A1 b1 b2 s5 g5 => ⟨_, _, rfl, rfl, by show 4 ≤ sizeLine; decide, fun l A2 nl S6 e6 => ?_⟩⟩
      refine ⟨_, rfl, b, c, 4, rfl, g5.same S6, by decide, by decide, fun v3 A3 c1 c2 s7 g7 => ?_⟩
      obtain ⟨y, hy, ey⟩ := pick4 (a := 1) (b := 1) (c := 1) (d := 1 + v2) c1 c2
      refine ⟨l, _, _, _, rfl, rfl, SqL.of (s7 _ _ (g5.nb nl) e6), ey, ?_⟩
      have B7 : But b H4 A3 := (s5.same S6).trans s7
      have hv7 := B7 _ _ Db hv
      refine ⟨_, rfl, .inl ⟨rfl, _, SqL.of hv7⟩, _, rfl, _, rfl, b, c, 4, rfl, g7, by decide, by decide, fun v4 A4 i1 i2 s8 g8 => ?_⟩
      refine ⟨_, rfl, _, rfl, _, _, rfl, rfl, b, c, _, rfl, g8, by omega, by omega, fun v5 A5 j1 j2 s9 g9 => ⟨by show 3 ≤ sizeLine; decide, fun l2 A6 nl2 S10 e10 => ?_⟩⟩
      refine ⟨_, rfl, b, c, 3, rfl, g9.same S10, by decide, by decide, fun v6 A7 k1 k2 s11 g11 => ?_⟩
      obtain ⟨z, hz, ez⟩ := pick3 (a := 0) (b := v4) (c := v5) k1 k2
      refine ⟨l2, _, _, _, rfl, rfl, SqL.of (s11 _ _ (g9.nb nl2) e10), ez, by show 2 ≤ sizeLine; decide, fun t A8 nt S12 et => ?_⟩
      have B12 : But b H4 A8 := (((B7.trans s8).trans s9).same S10).trans (s11.same S12)
      have g12 := g11.same S12
      have hv12 := B12 _ _ Db hv
      have tD : t ≠ D := fun e => by rw [e] at et; rw [hv12] at et; cases et
      have nD0 : H1 D = none := nD1
      refine ⟨D, vs, _, rfl, rfl, hv12, small1000 (by omega), vs ++ [.ref t], xs ++ [(y, z)], _, _, (B4.trans B12).mut nD0, g12.put Db Dc, upd_same, paired_snoc (Paired.mapP hp fun v x h => (h.but g4 B12).updL hv12) ⟨t, rfl, by rw [upd_ne tD]; exact et⟩, fun x hx => ?_, by simp [hl], rfl⟩
      rcases List.mem_append.mp hx with hx | hx
      · exact ok x hx
      · rw [List.mem_singleton.mp hx]
        exact ⟨by show 1 ≤ y; omega, by show y ≤ 9; omega, by show 0 ≤ z; omega, by show z ≤ 1000000000; omega⟩
    · rintro σ H4 ⟨vs, xs, o3, o4, B4, g4, hv, hp, ok, hl, rfl⟩
      exact ⟨vs, xs, o3, o4, B4, g4, hv, hp, ok, by omega, by omega, rfl⟩
  rintro σ H3 ⟨vs, xs, o3, o4, B3, g3, hv, hp, ok, x1, x7, rfl⟩
  have hvl := paired_len hp
  refine ⟨fun σ H' => ∃ sz : Nat, (sz = 1 ∨ sz = 2 ∨ sz = 3 ∨ sz = 4 ∨ sz = 6) ∧ sz ≤ xs.length ∧ But b H3 H' ∧ Bag H' b c ∧ σ = [some (.ref b), some (.int bd), some (.ref D), o3, o4, some (.int (sz : Nat)), none, none], ?_, ?_⟩
  · refine ⟨by show 5 ≤ sizeLine; decide, fun tp H5 n5 S5 e5 => ⟨tp, rfl, ⟨_, SqT.of e5⟩, fun E nE => ?_⟩⟩
    have hv5 := S5 _ _ hv
    refine lc_it (walk_tup (xs := sizes.map V.int)) (fun i H' => Same H5 H' ∧ H' E = some (.lst (((sizes.take i).filter fun k => decide (k ≤ ((xs.length : Nat) : Int))).map V.int))) ⟨same_new nE, upd_same⟩ (fun i H' _ h => SqT.of (h.1 _ _ e5)) ?_ ?_
    · rintro i x H6 H7 hi ⟨S6, hE⟩ ⟨rfl, hy⟩
      obtain ⟨y, hy2, ey⟩ : ∃ y, sizes[i]? = some y ∧ x = V.int y := by
        rw [List.getElem?_map] at hy
        obtain ⟨y, h, e⟩ := Option.map_eq_some_iff.mp hy
        exact ⟨y, h, e.symm⟩
      subst ey
      have tk : (sizes.take (i + 1)).filter (fun k => decide (k ≤ ((xs.length : Nat) : Int))) = (sizes.take i).filter (fun k => decide (k ≤ ((xs.length : Nat) : Int))) ++ (if decide (y ≤ ((xs.length : Nat) : Int)) = true then [y] else []) := by
        rw [take_snoc hy2, List.filter_append]
        congr 1
        by_cases h : y ≤ ((xs.length : Nat) : Int) <;> simp [h]
      refine ⟨rfl, _, rfl, _, rfl, _, _, rfl, .inl ⟨_, SqL.of (S6 _ _ hv5), rfl⟩, _, _, rfl, rfl, _, rfl, ?_⟩
      rw [hvl, tk]
      cases h : decide (y ≤ ((xs.length : Nat) : Int)) with
      | true =>
        refine iteT ⟨_, rfl, _, hE, ?_, Same.mut S6 nE, ?_⟩
        · rw [List.length_map]
          have := List.length_filter_le (fun k => decide (k ≤ ((xs.length : Nat) : Int))) (sizes.take i)
          rw [List.length_take] at this
          exact small1000 (by have : sizes.length = 5 := rfl; omega)
        · rw [upd_same, List.map_append]; rfl
      | false => exact iteF ⟨S6, by rw [hE]; simp⟩
    · rintro H6 ⟨S6, hE⟩
      have S56 := S5.trans S6
      have hE : H6 E = some (.lst ((sizes.filter fun k => decide (k ≤ ((xs.length : Nat) : Int))).map V.int)) := hE
      refine ⟨_, rfl, _, rfl, b, c, 2, rfl, g3.same S56, by decide, by decide, fun v1 H7 a1 a2 s7 g7 => ?_⟩
      have hv7 := s7 _ _ Db (S56 _ _ hv)
      obtain ⟨sz, ez, hz, lz⟩ := pickSize x1 x7 a1 a2
      refine ⟨_, rfl, _, _, rfl, .inl ⟨_, SqL.of hv7, rfl⟩, _, _, rfl, rfl, .inr ⟨_, rfl, _, _, rfl, rfl, cm_b _, _, _, rfl, rfl, E, _, _, _, rfl, rfl, SqL.of (s7 _ _ (((g3.same S5)).nb nE) hE), ?_, sz, hz, lz, (But.of S56).trans s7, g7, rfl⟩⟩
      rw [hvl]
      exact ez
  rintro σ H4 ⟨sz, hsz, szl, B4, g4, rfl⟩
  have hv4 := B4 _ _ Db hv
  have hp4 := Paired.mapP hp fun _ _ => StepV.but g3 B4
  have B04 := (B1.trans B3).trans B4
  refine ⟨_, rfl, b, c, 9, rfl, g4, by decide, by decide, fun v1 A1 a1 a2 s5 g5 => ?_⟩
  refine ⟨_, rfl, _, rfl, _, _, rfl, rfl, b, c, _, rfl, g5, by omega, by omega, fun v2 A2 b1 b2 s6 g6 => ⟨by show 3 ≤ sizeLine; decide, fun l A3 nl S7 e7 => ?_⟩⟩
  refine ⟨_, rfl, b, c, 3, rfl, g6.same S7, by decide, by decide, fun v3 A4 c1 c2 s8 g8 => ?_⟩
  obtain ⟨up, hup, eup⟩ := pick3 (a := 0) (b := v1) (c := v2) c1 c2
  refine ⟨l, _, _, _, rfl, rfl, SqL.of (s8 _ _ (g6.nb nl) e7), eup, ?_⟩
  have B8 : But b H4 A4 := ((s5.trans s6).same S7).trans s8
  have hv8 := B8 _ _ Db hv4
  have hp8 := Paired.mapP hp4 fun _ _ => StepV.but g4 B8
  refine ⟨_, rfl, _, rfl, _, rfl, D, vs, rfl, SqL.of hv8, fun lh A5 nh S9 eh => ?_⟩
  refine ⟨_, rfl, _, rfl, _, rfl, D, vs, rfl, SqL.of (S9 _ _ hv8), fun lt A6 nt S10 et => ?_⟩
  rw [cut_drop (by omega)] at eh
  rw [cut_take (by omega)] at et
  have S910 := S9.trans S10
  have sh : Steps A6 lh (xs.drop sz) := ⟨_, S10 _ _ eh, Paired.mapP (paired_drop sz hp8) fun _ _ => StepV.mono S910⟩
  have sT : Steps A6 lt (xs.take sz) := ⟨_, et, Paired.mapP (paired_take sz hp8) fun _ _ => StepV.mono S910⟩
  have g10 := g8.same S910
  refine ⟨_, rfl, _, rfl, b, c, bd, rfl, d1, d2, g10, fun cap A7 s11 g11 p1 p2 => ?_⟩
  refine ⟨_, rfl, _, rfl, b, c, 2, rfl, g11, by decide, by decide, fun v5 A8 i1 i2 s12 g12 => ⟨rfl, by show 5 ≤ sizeLine; decide, fun r A9 nr S13 er => ?_⟩⟩
  have sh := (sh.but g10 s11).but g11 s12
  have sT := (sT.but g10 s11).but g11 s12
  refine q _ ⟨xs.drop sz, xs.take sz, cap, up, decide (V.int v5 = V.int 0)⟩ A9 ((((B04.trans B8).same S910).trans s11).trans (s12.same S13)) (g12.same S13) ⟨r, lh, lt, rfl, er, sh.mono S13, sT.mono S13⟩ ⟨fun x hx => ok x (List.mem_of_mem_drop hx), ?_, fun x hx => ok x (List.mem_of_mem_take hx), tl_of ?_, p1, by show cap ≤ 1000000000; omega, by show 0 ≤ up; omega, by show up ≤ 1000000000; omega⟩
  · show (xs.drop sz).length ≤ 24
    rw [List.length_drop]; omega
  · show (xs.take sz).length = 1 ∨ _
    rw [List.length_take]; omega
def spFarTwo : Sp := fun vs H Q _ => ∃ b c, vs = [.ref b] ∧ Bag H b c ∧ ∀ v w1 s w2 f H', But b H H' → Bag H' b c → TwoV H' v w1 s w2 f → okTwo w1 s w2 f → Q v H'
theorem cal__law_far_two (T : Txt K mg) : C8.Cal P w K mg base 4 "_law_far_two" spFarTwo [] := by
  refine calD T.f__law_far_two T.g__law_far_two sc__law_far_two (fun fd F => F.bindsN fun _ _ _ _ _ _ us hl => match us, hl with | [_], _ => rfl) (fun vs H Q E h => by obtain ⟨_, _, rfl, _⟩ := h; rfl) fun cdv A outer s H vs Q E hr h => ?_
  refine ⟨_, (pss_cons (ps_par (i := 1) (j := 2) (by rfl) sc__law_far_two.nd rfl rfl (by decide) rfl rfl (pa_cons (C8.pe_c (cal__law_far_plan T) hr (by decide) rfl (pa_cons (pv 0) pa_nil)) (pa_cons (C8.pe_c (cal__law_far_plan T) hr (by decide) rfl (pa_cons (pv 0) pa_nil)) pa_nil)) (by rfl)) (pss_cons (ps_if (pt_cmpR op_eq (C8.pe_c (cal__law_take T) hr (by decide) rfl (pa_cons (pv 0) (pa_cons pe_int pa_nil))) pe_int (nomark _)) (pss_one (ps_set (i := 2) sc__law_far_two.nd rfl (by first | exact Or.inl rfl | exact Or.inr rfl) (pv 1))) pss_nil) (pss_one (ps_ret (NW.pe_tupN (pa_cons (pv 1) (pa_cons (C8.pe_c (cal__law_number T) hr (by decide) rfl (pa_cons (pv 0) (pa_cons (pe_ix ix_tup (pv 1) pe_int (fun _ _ => rfl)) pa_nil))) (pa_cons (pv 2) (pa_cons (C8.pe_c (cal__law_number T) hr (by decide) rfl (pa_cons (pv 0) (pa_cons (pe_ix ix_tup (pv 2) pe_int (fun _ _ => rfl)) pa_nil))) pa_nil))))))))), ?_⟩
  obtain ⟨b, c, rfl, g, q⟩ := h
  refine ⟨_, rfl, b, c, rfl, g, fun v1 w1 H1 s1 g1 p1 k1 => ?_⟩
  refine ⟨_, rfl, b, c, rfl, g1, fun v2 w2 H2 s2 g2 p2 k2 => ⟨_, _, rfl, ?_⟩⟩
  have p1 := p1.but g1 s2
  refine ⟨_, rfl, b, c, 2, rfl, g2, by decide, by decide, fun v3 H3 c1 c2 s3 g3 => ⟨rfl, _, rfl, ?_⟩⟩
  have p1 := p1.but g2 s3
  have p2 := p2.but g2 s3
  have S := (s1.trans s2).trans s3
  have fin : ∀ (v w2 w1) (v1 : V), PlanV H3 v1 w1 → PlanV H3 v w2 → okW w1 → okW w2 → tRet (NW.tTupN (tCons (tVar 1) (tCons (tCall spNumber [] C8.E0 (tCons (tVar 0) (tCons (tOp (rIxT K) (tVar 1) (tC (V.int 2))) tNil))) (tCons (tVar 2) (tCons (tCall spNumber [] C8.E0 (tCons (tVar 0) (tCons (tOp (rIxT K) (tVar 2) (tC (V.int 2))) tNil))) tNil))))) { nx := fun x H' => Q V.non H', rt := Q } [some (.ref b), some v1, some v] H3 := by
    intro v w2 w1 v1 p1 p2 k1 k2
    obtain ⟨q1, i1, j1, rfl, f1, _⟩ := id p1
    have c1 := k1.c1
    have c2 := k1.c2
    have e1 := k2.c1
    have e2 := k2.c2
    refine ⟨_, rfl, _, rfl, _, rfl, q1, _, _, _, rfl, rfl, SqT.of f1, rfl, b, c, _, rfl, c1, c2, g3, fun n1 H4 s4 g4 x1 x2 => ?_⟩
    have p2 := p2.but g3 s4
    have p1 := p1.but g3 s4
    obtain ⟨q2, i2, j2, rfl, f2, _⟩ := id p2
    refine ⟨_, rfl, _, rfl, _, rfl, q2, _, _, _, rfl, rfl, SqT.of f2, rfl, b, c, _, rfl, e1, e2, g4, fun n2 H5 s5 g5 y1 y2 => ?_⟩
    exact two_retN q ((S.trans s4).trans s5) g5 (p1.but g4 s5) (p2.but g4 s5) ⟨k1, k2, x1, x2, y1, y2⟩
  exact ite2 (fun _ => ⟨_, rfl, fin _ _ _ _ p1 p1 k1 k1⟩) fun _ => fin _ _ _ _ p1 p2 k1 k2
def spMany : Sp := fun vs H Q _ => ∃ b c, vs = [.ref b] ∧ Bag H b c ∧ ∀ v w1 s w2 f H', But b H H' → Bag H' b c → TwoV H' v w1 s w2 f → okTwo w1 s w2 f → Q v H'
theorem cal__law_many_pairs (T : Txt K mg) : C8.Cal P w K mg base 2 "_law_many_pairs" spMany [] := by
  refine calD T.f__law_many_pairs T.g__law_many_pairs sc__law_many_pairs (fun fd F => F.bindsN fun _ _ _ _ _ _ us hl => match us, hl with | [_], _ => rfl) (fun vs H Q E h => by obtain ⟨_, _, rfl, _⟩ := h; rfl) fun cdv A outer s H vs Q E hr h => ?_
  refine ⟨_, (C8.pss_cut (ps_set (i := 1) sc__law_many_pairs.nd rfl (by first | exact Or.inl rfl | exact Or.inr rfl) (pe_ix ix_list (NW.pe_lstN (pa_cons pe_int (pa_cons pe_int (pa_cons (pe_op op_add pe_int (C8.pe_c (cal__law_take T) hr (by decide) rfl (pa_cons (pv 0) (pa_cons pe_int pa_nil)))) (pa_cons (pe_op op_add pe_int (C8.pe_c (cal__law_take T) hr (by decide) rfl (pa_cons (pv 0) (pa_cons pe_int pa_nil)))) pa_nil))))) (C8.pe_c (cal__law_take T) hr (by decide) rfl (pa_cons (pv 0) (pa_cons pe_int pa_nil))) (fun _ _ => rfl))) (C8.pss_cut (ps_set (i := 2) sc__law_many_pairs.nd rfl (by first | exact Or.inl rfl | exact Or.inr rfl) (NW.pe_tupN (pa_cons (NW.pe_lstN pa_nil) (pa_cons (NW.pe_lstN (pa_cons (NW.pe_tupN (pa_cons pe_int (pa_cons pe_int pa_nil))) pa_nil)) (pa_cons (pv 1) (pa_cons pe_int (pa_cons pe_bl pa_nil))))))) (C8.pss_cut (ps_set (i := 3) sc__law_many_pairs.nd rfl (by first | exact Or.inl rfl | exact Or.inr rfl) (NW.pe_tupN (pa_cons (NW.pe_lstN pa_nil) (pa_cons (NW.pe_lstN (pa_cons (NW.pe_tupN (pa_cons pe_int (pa_cons pe_int pa_nil))) pa_nil)) (pa_cons (pe_op op_add pe_int (C8.pe_c (cal__law_take T) hr (by decide) rfl (pa_cons (pv 0) (pa_cons (pv 1) pa_nil)))) (pa_cons (pe_op op_add pe_int (C8.pe_c (cal__law_take T) hr (by decide) rfl (pa_cons (pv 0) (pa_cons pe_int pa_nil)))) (pa_cons (pe_cmpR op_eq (C8.pe_c (cal__law_take T) hr (by decide) rfl (pa_cons (pv 0) (pa_cons pe_int pa_nil))) pe_int (nomark _)) pa_nil))))))) (C8.pss_cut (ps_if (pt_cmpR op_eq (C8.pe_c (cal__law_take T) hr (by decide) rfl (pa_cons (pv 0) (pa_cons pe_int pa_nil))) pe_int (nomark _)) (C8.pss_cut (ps_set (i := 2) sc__law_many_pairs.nd rfl (by first | exact Or.inl rfl | exact Or.inr rfl) (NW.pe_tupN (pa_cons (NW.pe_lstN pa_nil) (pa_cons (pe_op NW.op_repN (NW.pe_lstN (pa_cons (NW.pe_tupN (pa_cons pe_int (pa_cons pe_int pa_nil))) pa_nil)) pe_int) (pa_cons (pe_op op_add pe_int (C8.pe_c (cal__law_take T) hr (by decide) rfl (pa_cons (pv 0) (pa_cons pe_int pa_nil)))) (pa_cons pe_int (pa_cons pe_bl pa_nil))))))) (pss_one (ps_set (i := 3) sc__law_many_pairs.nd rfl (by first | exact Or.inl rfl | exact Or.inr rfl) (NW.pe_tupN (pa_cons (NW.pe_lstN pa_nil) (pa_cons (pe_op NW.op_repN (NW.pe_lstN (pa_cons (NW.pe_tupN (pa_cons pe_int (pa_cons pe_int pa_nil))) pa_nil)) pe_int) (pa_cons (pe_op op_add pe_int (C8.pe_c (cal__law_take T) hr (by decide) rfl (pa_cons (pv 0) (pa_cons pe_int pa_nil)))) (pa_cons pe_int (pa_cons pe_bl pa_nil))))))))) pss_nil) (pss_one (ps_ret (NW.pe_tupN (pa_cons (pv 2) (pa_cons pe_int (pa_cons (pe_ix ix_list (NW.pe_lstN (pa_cons (pv 2) (pa_cons (pv 3) pa_nil))) (pe_callTy call_int1 (by rfl) T.b_int (by decide +kernel) (pa_cons (pe_cmpR op_gt (C8.pe_c (cal__law_take T) hr (by decide) rfl (pa_cons (pv 0) (pa_cons pe_int pa_nil))) pe_int (nomark _)) pa_nil)) (fun _ _ => rfl)) (pa_cons pe_int pa_nil))))))))))), ?_⟩
  obtain ⟨b, c, rfl, g, q⟩ := h
  have one : okS (1, 0) := ⟨by decide, by decide, by decide, by decide⟩
  have mk : ∀ {H' : Hp} {r lh lt t : Addr} {k : Nat} {cap lift : Int} {an : Bool}, (k = 1 ∨ k = 8 ∨ k = 12) → 1 ≤ cap → cap ≤ 1000 → 0 ≤ lift → lift ≤ 1000 → H' r = some (.tup [.ref lh, .ref lt, .int cap, .int lift, .bl an]) → H' lh = some (.lst []) → H' t = some (.tup [.int 1, .int 0]) → H' lt = some (.lst (List.replicate k [V.ref t]).flatten) →
      PlanV H' (.ref r) ⟨[], (List.replicate k [((1 : Int), (0 : Int))]).flatten, cap, lift, an⟩ ∧ okW ⟨[], (List.replicate k [((1 : Int), (0 : Int))]).flatten, cap, lift, an⟩ := by
    intro H' r lh lt t k cap lift an hk c1 c2 l1 l2 hr h1 ht h2
    refine ⟨⟨r, lh, lt, rfl, hr, ⟨_, h1, .nil⟩, ⟨_, h2, paired_rep (.cons ⟨_, rfl, ht⟩ .nil) k⟩⟩, ⟨(fun _ h => by simp at h), by show 0 ≤ 24; decide, fun x hx => ?_, tl_of ?_, c1, by show cap ≤ 1000000000; omega, l1, by show lift ≤ 1000000000; omega⟩⟩
    · simp at hx
      rw [hx.2]; exact one
    · show (List.replicate k [((1 : Int), (0 : Int))]).flatten.length = 1 ∨ _
      simp; omega
  refine ⟨fun σ H' => ∃ top : Int, 1 ≤ top ∧ top ≤ 1000 ∧ But b H H' ∧ Bag H' b c ∧ σ = [some (.ref b), some (.int top), none, none], ?_, ?_⟩
  · refine ⟨_, rfl, b, c, 12, rfl, g, by decide, by decide, fun v1 H1 a1 a2 s1 g1 => ⟨_, _, rfl, rfl, ?_⟩⟩
    refine ⟨_, rfl, b, c, 20, rfl, g1, by decide, by decide, fun v2 H2 b1 b2 s2 g2 => ⟨_, _, rfl, rfl, by show 4 ≤ sizeLine; decide, fun l H3 nl S3 e3 => ?_⟩⟩
    refine ⟨_, rfl, b, c, 4, rfl, g2.same S3, by decide, by decide, fun v3 H4 c1 c2 s4 g4 => ?_⟩
    obtain ⟨y, hy, ey⟩ := pick4 (a := 200) (b := 201) (c := 195 + v1) (d := 390 + v2) c1 c2
    exact ⟨l, _, _, _, rfl, rfl, SqL.of (s4 _ _ (g2.nb nl) e3), ey, y, by omega, by omega, ((s1.trans s2).same S3).trans s4, g4, rfl⟩
  rintro σ H1 ⟨top, t1, t2, B1, g1, rfl⟩
  refine ⟨fun σ H' => ∃ v1 w1, PlanV H' v1 w1 ∧ okW w1 ∧ 1 ≤ w1.cap ∧ But b H H' ∧ Bag H' b c ∧ σ = [some (.ref b), some (.int top), some v1, none], ?_, ?_⟩
  · refine ⟨by show 0 ≤ sizeLine; decide, fun lh A1 n1 T1 e1 => ⟨by show 2 ≤ sizeLine; decide, fun t A2 n2 T2 e2 => ⟨by show 1 ≤ sizeLine; decide, fun lt A3 n3 T3 e3 => ⟨_, rfl, by show 5 ≤ sizeLine; decide, fun r A4 n4 T4 e4 => ?_⟩⟩⟩⟩
    obtain ⟨p1, k1⟩ := mk (k := 1) (by decide) t1 t2 (by decide) (by decide) e4 (T4 _ _ (T3 _ _ (T2 _ _ e1))) (T4 _ _ (T3 _ _ e2)) (T4 _ _ e3)
    have S := ((T1.trans T2).trans T3).trans T4
    exact ⟨_, _, p1, k1, t1, B1.same S, g1.same S, rfl⟩
  rintro σ H2 ⟨v1, w1, p1, k1, kc, B2, g2, rfl⟩
  refine ⟨fun σ H' => ∃ v1 w1 v2 w2, PlanV H' v1 w1 ∧ okW w1 ∧ PlanV H' v2 w2 ∧ okW w2 ∧ But b H H' ∧ Bag H' b c ∧ σ = [some (.ref b), some (.int top), some v1, some v2], ?_, ?_⟩
  · refine ⟨by show 0 ≤ sizeLine; decide, fun lh A1 n1 T1 e1 => ⟨by show 2 ≤ sizeLine; decide, fun t A2 n2 T2 e2 => ⟨by show 1 ≤ sizeLine; decide, fun lt A3 n3 T3 e3 => ?_⟩⟩⟩
    have S3 := (T1.trans T2).trans T3
    have g3 := g2.same S3
    refine ⟨_, rfl, _, rfl, b, c, top, rfl, g3, by omega, by omega, fun x1 C1 a1 a2 s4 g4 => ⟨_, _, rfl, rfl, ?_⟩⟩
    refine ⟨_, rfl, b, c, 3, rfl, g4, by decide, by decide, fun x2 C2 b1 b2 s5 g5 => ⟨_, _, rfl, rfl, ?_⟩⟩
    refine ⟨_, rfl, b, c, 2, rfl, g5, by decide, by decide, fun x3 C3 c1 c2 s6 g6 => ⟨rfl, by show 5 ≤ sizeLine; decide, fun r A4 n4 T4 e4 => ?_⟩⟩
    have B6 : But b A3 C3 := (s4.trans s5).trans s6
    have lhb : lh ≠ b := g2.nb n1
    have ltb : lt ≠ b := ((g2.same T1).same T2).nb n3
    obtain ⟨p2, k2⟩ := mk (k := 1) (by decide) (show 1 ≤ 1 + x1 by omega) (by omega) (show 0 ≤ 1 + x2 by omega) (by omega) e4 (T4 _ _ (B6 _ _ lhb (T3 _ _ (T2 _ _ e1)))) (T4 _ _ (tupB g3 B6 (T3 _ _ e2))) (T4 _ _ (B6 _ _ ltb e3))
    exact ⟨v1, w1, _, _, ((p1.mono S3).but g3 B6).mono T4, k1, p2, k2, (B2.same S3).trans (B6.same T4), g6.same T4, rfl⟩
  clear p1 k1 kc v1 w1 B2 g2
  rintro σ H3 ⟨v1, w1, v2, w2, p1, k1, p2, k2, B3, g3, rfl⟩
  refine ⟨fun σ H' => ∃ v1 w1 v2 w2, PlanV H' v1 w1 ∧ okW w1 ∧ PlanV H' v2 w2 ∧ okW w2 ∧ But b H H' ∧ Bag H' b c ∧ σ = [some (.ref b), some (.int top), some v1, some v2], ?_, ?_⟩
  · refine ⟨_, rfl, b, c, 3, rfl, g3, by decide, by decide, fun x0 H4 i1 i2 s4 g4 => ⟨rfl, _, rfl, ite2 (fun _ => ?_) fun _ => ?_⟩⟩
    · refine ⟨fun σ H' => ∃ v1 w1 v2, PlanV H' v1 w1 ∧ okW w1 ∧ But b H H' ∧ Bag H' b c ∧ σ = [some (.ref b), some (.int top), some v1, some v2], ?_, ?_⟩
      · refine ⟨by show 0 ≤ sizeLine; decide, fun lh A1 n1 T1 e1 => ⟨by show 2 ≤ sizeLine; decide, fun t A2 n2 T2 e2 => ⟨by show 1 ≤ sizeLine; decide, fun l0 A3 n3 T3 e3 => ?_⟩⟩⟩
        refine ⟨l0, 12, _, rfl, rfl, e3, by decide, by decide, by show 12 ≤ sizeLine; decide, fun lt A4 n4 T4 e4 => ?_⟩
        have S4 := ((T1.trans T2).trans T3).trans T4
        have g5 := g4.same S4
        refine ⟨_, rfl, b, c, 8, rfl, g5, by decide, by decide, fun x1 C1 a1 a2 s5 g6 => ⟨_, _, rfl, rfl, by show 5 ≤ sizeLine; decide, fun r A5 n5 T5 e5 => ?_⟩⟩
        have lhb : lh ≠ b := g4.nb n1
        have ltb : lt ≠ b := (((g4.same T1).same T2).same T3).nb n4
        obtain ⟨q1, j1⟩ := mk (k := 12) (by decide) (show 1 ≤ 4 + x1 by omega) (by omega) (by decide) (by decide) e5 (T5 _ _ (s5 _ _ lhb (T4 _ _ (T3 _ _ (T2 _ _ e1))))) (T5 _ _ (tupB g5 s5 (T4 _ _ (T3 _ _ e2)))) (T5 _ _ (s5 _ _ ltb e4))
        have B5 : But b H4 A5 := (But.of S4).trans (s5.same T5)
        exact ⟨_, _, _, q1, j1, (B3.trans s4).trans B5, g6.same T5, rfl⟩
      rintro σ A5 ⟨y1, z1, y2, q1, j1, B5, g7, rfl⟩
      refine ⟨by show 0 ≤ sizeLine; decide, fun mh D1 m1 U1 f1 => ⟨by show 2 ≤ sizeLine; decide, fun u D2 m2 U2 f2 => ⟨by show 1 ≤ sizeLine; decide, fun m0 D3 m3 U3 f3 => ?_⟩⟩⟩
      refine ⟨m0, 8, _, rfl, rfl, f3, by decide, by decide, by show 8 ≤ sizeLine; decide, fun mt D4 m4 U4 f4 => ?_⟩
      have R4 := ((U1.trans U2).trans U3).trans U4
      have g8 := g7.same R4
      refine ⟨_, rfl, b, c, 8, rfl, g8, by decide, by decide, fun x2 C2 b1 b2 s6 g9 => ⟨_, _, rfl, rfl, by show 5 ≤ sizeLine; decide, fun r2 D5 m5 U5 f5 => ?_⟩⟩
      have mhb : mh ≠ b := g7.nb m1
      have mtb : mt ≠ b := (((g7.same U1).same U2).same U3).nb m4
      obtain ⟨q2, j2⟩ := mk (k := 8) (by decide) (show 1 ≤ 4 + x2 by omega) (by omega) (by decide) (by decide) f5 (U5 _ _ (s6 _ _ mhb (U4 _ _ (U3 _ _ (U2 _ _ f1))))) (U5 _ _ (tupB g8 s6 (U4 _ _ (U3 _ _ f2)))) (U5 _ _ (s6 _ _ mtb f4))
      have B6 : But b A5 D5 := (But.of R4).trans (s6.same U5)
      exact ⟨_, _, _, _, q1.but g7 B6, j1, q2, j2, B5.trans B6, g9.same U5, rfl⟩
    · exact ⟨v1, w1, v2, w2, p1.but g3 s4, k1, p2.but g3 s4, k2, B3.trans s4, g4, rfl⟩
  clear p1 k1 p2 k2 v1 w1 v2 w2 B3 g3
  rintro σ H4 ⟨v1, w1, v2, w2, p1, k1, p2, k2, B4, g4, rfl⟩
  have c1 := k1.c1
  have c2 := k2.c1
  refine ⟨_, rfl, _, rfl, _, rfl, by show 2 ≤ sizeLine; decide, fun l H5 nl S5 e5 => ?_⟩
  refine ⟨_, rfl, b, c, 4, rfl, g4.same S5, by decide, by decide, fun x H6 a1 a2 s6 g6 => ⟨_, _, rfl, rfl, .inr ⟨_, rfl, ?_⟩⟩⟩
  have p1 := (p1.mono S5).but (g4.same S5) s6
  have p2 := (p2.mono S5).but (g4.same S5) s6
  have hl := s6 _ _ (g4.nb nl) e5
  have S := (B4.same S5).trans s6
  cases decide (0 < x) with
  | false => exact ⟨l, _, _, v1, rfl, rfl, SqL.of hl, rfl, two_retN q S g6 p1 p1 ⟨k1, k1, by decide, c1, by decide, c1⟩⟩
  | true => exact ⟨l, _, _, v2, rfl, rfl, SqL.of hl, rfl, two_retN q S g6 p1 p2 ⟨k1, k2, by decide, c1, by decide, c2⟩⟩
end
end WH

set_option maxHeartbeats 4000000
namespace WH
open PySem PySem.Spec PyProof.Rows L2
theorem small5 {n : Nat} (h : n ≤ 100000) : n < sizeLine := Nat.lt_of_le_of_lt h (by decide)
/-- the new row stands; the heaps by what stands there -/
theorem AI.addN {P : Program} {w : World} {H0 H H1 H2 H3 : Hp} {lr dk p t2 : Addr} {R : List Row} {q : Row} {v1 v2 : V} {vs : List V} {xs : List ND.Ent} (a : AI P w H0 H lr dk R)
    (hv : H lr = some (.lst vs)) (hx : H dk = some (ND.ndO P w dk xs)) (hk : ND.Keys H xs) (ek : xs.map (·.1) = R.map fun r => pairK r.2)
    (hp : H p = some (.tup [v1, v2])) (s1 : SttV H v1 q.2.1) (s2 : SttV H v2 q.2.2) (hn : q.2 ∉ R.map (·.2))
    (e1 : H1 = upd H dk (ND.ndO P w dk (xs ++ [(pairK q.2, p, .bl true)]))) (S2 : Same H1 H2) (S3 : Same H2 H3) (n2 : H2 t2 = none) (h3 : H3 t2 = some (.tup [.str (rowS q.1), v1, v2])) :
    H3 lr = some (.lst vs) ∧ AI P w H0 (upd H3 lr (.lst (vs ++ [.ref t2]))) lr dk (addR R q) ∧ Tup H (upd H3 lr (.lst (vs ++ [.ref t2]))) := by
  obtain ⟨h1, k1, k2, k4, ⟨vs', h5, h6⟩, _⟩ := a
  rw [hv] at h5; cases h5
  have T1 : Tup H H1 := by rw [e1]; exact Tup.upd fun vs e => by rw [hx] at e; cases e
  have l1 : H1 lr = some (.lst vs) := by rw [e1, upd_ne k4]; exact hv
  have l2 := S2 _ _ l1
  have l3 := S3 _ _ l2
  have T4 : Tup H3 (upd H3 lr (.lst (vs ++ [.ref t2]))) := Tup.upd fun vs e => by rw [l3] at e; cases e
  have TT : Tup H (upd H3 lr (.lst (vs ++ [.ref t2]))) := ((T1.trans (Tup.of S2)).trans (Tup.of S3)).trans T4
  have d1 : H1 dk = some (ND.ndO P w dk (xs ++ [(pairK q.2, p, .bl true)])) := by rw [e1, upd_same]
  have sm : Same H0 H1 := by rw [e1]; exact Same.mut h1 k2
  refine ⟨l3, ⟨Same.mut ((sm.trans S2).trans S3) k1, k1, k2, k4, ⟨_, upd_same, ?_⟩, ⟨_, by rw [upd_ne (Ne.symm k4)]; exact S3 _ _ (S2 _ _ d1), ?_, ?_⟩⟩, TT⟩
  · unfold addR
    rw [if_neg hn]
    have tl : t2 ≠ lr := fun z => by rw [z, l2] at n2; cases n2
    exact paired_snoc (Paired.mapP h6 fun _ _ => RowV.tup TT) ⟨t2, v1, v2, rfl, by rw [upd_ne tl, h3], s1.tup TT, s2.tup TT⟩
  · intro x hx'
    rcases List.mem_append.mp hx' with hx' | hx'
    · exact hk.mono TT x hx'
    · rw [List.mem_singleton.mp hx']
      exact ⟨pairK_nk (TT _ _ hp) (s1.tup TT) (s2.tup TT), pairK_depth _⟩
  · unfold addR
    rw [if_neg hn, List.map_append, List.map_append, ek]; rfl
section
variable {P : Program} {w : World} {K : PySem.W.Frag} {mg : Str → Option Value} {base : Heap}
def spAll : Sp := fun vs H Q _ => ∃ v w1 s w2 f lim, vs = [v, .int (lim : Nat)] ∧ TwoV H v w1 s w2 f ∧ okTwo w1 s w2 f ∧ 1 ≤ lim ∧ lim ≤ 20000 ∧ (∀ H', Same H H' → Q .non H') ∧
  (∀ k t l us H', Ends_ w1 w2 s f k → (run w1 w2 s f k).length ≤ lim → Same H H' → H' t = some (.tup [.ref l, .int (k : Nat)]) → H' l = some (.lst us) → Paired (RowV H') us (run w1 w2 s f k) → Q (.ref t) H')
theorem cal__law_all (T : Txt K mg) : C8.Cal P w K mg base 4 "_law_all" spAll [] := by
  refine calD T.f__law_all T.g__law_all sc__law_all (fun fd F => F.bindsN fun _ _ _ _ _ _ us hl => match us, hl with | [_, _], _ => rfl) (fun vs H Q E h => by obtain ⟨_, _, _, _, _, _, rfl, _⟩ := h; rfl) fun cdv A outer s H vs Q E hr h => ?_
  refine ⟨_, (pss_cons (ps_asg (pv 0) (pg_tup rfl (pgs_cons (pg_name (i := 2) sc__law_all.nd rfl (by first | exact Or.inl rfl | exact Or.inr rfl)) (pgs_cons (pg_name (i := 3) sc__law_all.nd rfl (by first | exact Or.inl rfl | exact Or.inr rfl)) (pgs_cons (pg_name (i := 4) sc__law_all.nd rfl (by first | exact Or.inl rfl | exact Or.inr rfl)) (pgs_cons (pg_name (i := 5) sc__law_all.nd rfl (by first | exact Or.inl rfl | exact Or.inr rfl)) pgs_nil)))))) (pss_cons (ps_set (i := 6) sc__law_all.nd rfl (by first | exact Or.inl rfl | exact Or.inr rfl) (NW.pe_lstN (pa_cons (NW.pe_tupN (pa_cons pe_str (pa_cons (NW.pe_tupN (pa_cons (pv 3) (pa_cons pe_int pa_nil))) (pa_cons (NW.pe_tupN (pa_cons (pv 5) (pa_cons pe_int pa_nil))) pa_nil)))) pa_nil))) (C8.pss_cut (ps_set (i := 7) sc__law_all.nd rfl (by first | exact Or.inl rfl | exact Or.inr rfl) (ND.pe_none hr (pe_slice NW.sl_tupN (pe_ix ix_list (pv 6) pe_int (fun _ _ => rfl)) (po_some pe_int) po_none) pe_bl)) (pss_cons (ps_set (i := 8) sc__law_all.nd rfl (by first | exact Or.inl rfl | exact Or.inr rfl) pe_int) (C8.pss_cut (ps_while PassesOwn.never (PW.pt (pw_and (pt_cmpR op_lt (pv 8) (pe_callB call_len (by rfl) T.b_len (by decide +kernel) (pa_cons (pv 6) pa_nil)) (nomark _)) (pw_and1 (pt_cmpR op_eq (pe_cmpR op_isN (pe_ix ix_tup (pe_ix ix_list (pv 6) (pv 8) (fun _ _ => rfl)) pe_int (fun _ _ => rfl)) pe_non (nomark _)) (pe_cmpR op_isN (pe_ix ix_tup (pe_ix ix_list (pv 6) (pv 8) (fun _ _ => rfl)) pe_int (fun _ _ => rfl)) pe_non (nomark _)) (nomark _))))) (pss_cons (ps_asg (pe_ix ix_list (pv 6) (pv 8) (fun _ _ => rfl)) (pg_tup rfl (pgs_cons (pg_name (i := 9) sc__law_all.nd rfl (by first | exact Or.inl rfl | exact Or.inr rfl)) (pgs_cons (pg_name (i := 10) sc__law_all.nd rfl (by first | exact Or.inl rfl | exact Or.inr rfl)) (pgs_cons (pg_name (i := 11) sc__law_all.nd rfl (by first | exact Or.inl rfl | exact Or.inr rfl)) pgs_nil))))) (pss_cons (ps_for PassesOwn.never rfl (pi_str pe_str) (pg_name (i := 12) sc__law_all.nd rfl (by first | exact Or.inl rfl | exact Or.inr rfl)) (pss_cons (ps_set (i := 13) sc__law_all.nd rfl (by first | exact Or.inl rfl | exact Or.inr rfl) (NW.pe_tupN (pa_cons (C8.pe_c (cal__law_led T) hr (by decide) rfl (pa_cons (pv 2) (pa_cons (pv 10) (pa_cons (pv 12) pa_nil)))) (pa_cons (C8.pe_c (cal__law_led T) hr (by decide) rfl (pa_cons (pv 4) (pa_cons (pv 11) (pa_cons (pv 12) pa_nil)))) pa_nil)))) (pss_one (ps_if (pt_cmp (ND.pc_nnotin hr (pv 13) (pv 7)) (by rfl)) (pss_cons (ND.ps_nput hr (pv 7) (pv 13) pe_bl) (pss_one (ps_expr (pe_bm PySem.F.plainAttrs_list PySem.F.slot_list_append PySem.F.type_list_append mt_append (pv 6) (pa_cons (pe_op NW.op_catTN (NW.pe_tupN (pa_cons (pe_op op_add_str (pv 9) (pv 12)) pa_nil)) (pv 13)) pa_nil))))) pss_nil)))) (pss_cons (ps_set (i := 8) sc__law_all.nd rfl (by first | exact Or.inl rfl | exact Or.inr rfl) (pe_op op_add (pv 8) pe_int)) (pss_one (ps_if (pt_cmpR op_gt (pe_callB call_len (by rfl) T.b_len (by decide +kernel) (pa_cons (pv 6) pa_nil)) (pv 1) (nomark _)) (pss_one (ps_ret pe_non)) pss_nil)))))) (pss_one (ps_ret (NW.pe_tupN (pa_cons (pv 6) (pa_cons (pv 8) pa_nil)))))))))), ?_⟩
  obtain ⟨v, w1, s, w2, f, lim, rfl, hv, ok, l1, l2, qN, qT⟩ := h
  obtain ⟨p, v1, v2, rfl, hp, p1, p2⟩ := id hv
  refine ⟨_, rfl, p, _, rfl, SqT.of hp, rfl, _, _, rfl, _, _, rfl, _, _, rfl, _, _, rfl, rfl, ?_⟩
  refine ⟨_, rfl, by show 2 ≤ sizeLine; decide, fun t1 A1 n1 T1 e1 => ?_⟩
  refine ⟨_, rfl, by show 2 ≤ sizeLine; decide, fun t2 A2 n2 T2 e2 => ?_⟩
  refine ⟨by show 3 ≤ sizeLine; decide, fun t3 A3 n3 T3 e3 => ⟨by show 1 ≤ sizeLine; decide, fun lr G n4 T4 g4 => ?_⟩⟩
  have E1 : Same H A3 := (T1.trans T2).trans T3
  have S2 : Same H G := E1.trans T4
  have l0 : H lr = none := E1.free n4
  have g1 := (T2.trans T3).trans T4 _ _ e1
  have g2 := (T3.trans T4) _ _ e2
  have g3 := T4 _ _ e3
  refine ⟨fun σ H' => ∃ dk, AI P w H H' lr dk (run w1 w2 s f 0) ∧ σ = [some (.ref p), some (.int (lim : Nat)), some v1, some (.int s), some v2, some (.int f), some (.ref lr), some (.ref dk), none, none, none, none, none, none], ?_, ?_⟩
  · intro dk n5
    have S3 : Same G (upd G dk (ND.ndO P w dk [])) := same_new n5
    have hd : (upd G dk (ND.ndO P w dk [])) dk = some (ND.ndO P w dk []) := upd_same
    have d0 : H dk = none := S2.free n5
    have hl := S3 _ _ g4
    have ld : lr ≠ dk := fun z => by rw [z] at g4; rw [g4] at n5; cases n5
    refine ⟨_, rfl, lr, _, 0, _, rfl, rfl, SqL.of hl, rfl, ?_⟩
    refine ⟨_, rfl, t3, _, rfl, SqT.of (S3 _ _ g3), (show ¬ (HT.sIx 3 0 (some 1) = 0 ∧ HT.sIx 3 3 none = 3) by decide), fun q0 G1 nq S5 hq => ?_⟩
    have S35 := S3.trans S5
    have nk := pairK_nk (q := (some (s, 0), some (f, 0))) hq ⟨t1, rfl, S35 _ _ g1⟩ ⟨t2, rfl, S35 _ _ g2⟩
    refine ⟨S5 _ _ hd, q0, pairK (some (s, 0), some (f, 0)), rfl, nk, pairK_depth _, dk, ?_, rfl⟩
    have hd5 := S5 _ _ hd
    have TT : Tup G1 (upd G1 dk (ND.ndO P w dk [(pairK (some (s, 0), some (f, 0)), q0, .bl true)])) := Tup.upd fun vs e => by rw [hd5] at e; cases e
    have S6 : Same H G1 := by
      have : Same H (upd G dk (ND.ndO P w dk [])) := S2.trans S3
      exact this.trans S5
    refine ⟨Same.mut S6 d0, l0, d0, ld, ⟨_, by rw [upd_ne ld]; exact S5 _ _ hl, .cons ⟨t3, _, _, rfl, TT _ _ (S35 _ _ g3), ⟨t1, rfl, TT _ _ (S35 _ _ g1)⟩, ⟨t2, rfl, TT _ _ (S35 _ _ g2)⟩⟩ .nil⟩, ⟨_, upd_same, fun x hx => ?_, rfl⟩⟩
    rw [List.mem_singleton.mp hx]
    exact ⟨ND.NK.mono TT _ _ nk, pairK_depth _⟩
  rintro σ G2 ⟨dk, A0, rfl⟩
  have o1 := ok.a
  have o2 := ok.b
  have ok0 : ∀ k, ∀ r ∈ run w1 w2 s f k, okRow w1 w2 k r := run_ok o1 o2 ⟨ok.s1, ok.s2, by have := o1.tpos; omega⟩ ⟨ok.f1, ok.f2, by have := o2.tpos; omega⟩
  refine ⟨fun σ H' => ∃ k o9 o10 o11 o12 o13, Ends_ w1 w2 s f k ∧ (run w1 w2 s f k).length ≤ lim ∧ AI P w H H' lr dk (run w1 w2 s f k) ∧
    σ = [some (.ref p), some (.int (lim : Nat)), some v1, some (.int s), some v2, some (.int f), some (.ref lr), some (.ref dk), some (.int (k : Nat)), o9, o10, o11, o12, o13], ?_, ?_⟩
  · refine ⟨fun n σ H' => ∃ k o9 o10 o11 o12 o13, n = lim + 1 - k ∧ k ≤ (run w1 w2 s f k).length ∧ (run w1 w2 s f k).length ≤ lim ∧ Clean w1 w2 s f k ∧ AI P w H H' lr dk (run w1 w2 s f k) ∧
      σ = [some (.ref p), some (.int (lim : Nat)), some v1, some (.int s), some v2, some (.int f), some (.ref lr), some (.ref dk), some (.int (k : Nat)), o9, o10, o11, o12, o13],
      ⟨lim + 1, 0, _, _, _, _, _, rfl, Nat.zero_le _, l1, fun j hj => absurd hj (Nat.not_lt_zero _), A0, rfl⟩, ?_⟩
    rintro n σ H' ⟨k, o9, o10, o11, o12, o13, rfl, kl, ll, cl, A1, rfl⟩
    obtain ⟨vs, hv', hr'⟩ := A1.rows
    have hlen := paired_len hr'
    refine ⟨_, rfl, _, rfl, _, _, rfl, .inl ⟨_, SqL.of hv', rfl⟩, _, _, rfl, rfl, _, rfl, ite2 (fun c => ?_) (fun c => ?_)⟩
    · have c := of_decide_eq_true c
      have kl' : k < (run w1 w2 s f k).length := by omega
      have hk : (run w1 w2 s f k)[k]? = some (run w1 w2 s f k)[k] := List.getElem?_eq_getElem kl'
      generalize (run w1 w2 s f k)[k] = r at hk
      obtain ⟨x, hx, t, u1, u2, rfl, ht, sv1, sv2⟩ := paired_at hr' hk
      have okr := ok0 k r (List.mem_of_getElem? hk)
      refine ⟨_, rfl, _, rfl, lr, vs, _, _, rfl, rfl, SqL.of hv', atI_nat hx, t, _, _, _, rfl, rfl, SqT.of ht, rfl, rfl, ?_⟩
      refine ⟨_, rfl, _, rfl, lr, vs, _, _, rfl, rfl, SqL.of hv', atI_nat hx, t, _, _, _, rfl, rfl, SqT.of ht, rfl, rfl, rfl, _, rfl, ?_⟩
      have ep : decide (V.bl (decide (u1 = .non)) = V.bl (decide (u2 = .non))) = !parts r.2 := by
        have := parts_eq sv1 sv2
        rw [← this]; simp
      rw [ep]
      cases hpq : parts r.2 with
      | true =>
        refine iteF ⟨k, _, _, _, _, _, ⟨cl, kl, .inr ⟨r, hk, hpq⟩⟩, ll, A1, rfl⟩
      | false =>
        refine iteT ?_
        have cl' : Clean w1 w2 s f (k + 1) := fun j hj => by
          by_cases e : j = k
          · rw [e]; exact ⟨r, hk, hpq⟩
          · exact cl j (by omega)
        have er : run w1 w2 s f (k + 1) = Ri (run w1 w2 s f k) w1 w2 r 2 := by
          rw [run_succ, hk]; rfl
        refine ⟨fun σ H' => ∃ k' o9 o10 o11 o12 o13, k' = k + 1 ∧ k' ≤ (run w1 w2 s f k').length ∧ (run w1 w2 s f k').length ≤ lim ∧ Clean w1 w2 s f k' ∧ AI P w H H' lr dk (run w1 w2 s f k') ∧
          σ = [some (.ref p), some (.int (lim : Nat)), some v1, some (.int s), some v2, some (.int f), some (.ref lr), some (.ref dk), some (.int (k' : Nat)), o9, o10, o11, o12, o13],
          fun σ' H'' ⟨k', o9, o10, o11, o12, o13, ek, h1, h2, h3, h4, h5⟩ => ⟨lim + 1 - k', by omega, k', o9, o10, o11, o12, o13, rfl, h1, h2, h3, h4, h5⟩, ?_⟩
        refine ⟨_, rfl, _, rfl, lr, vs, _, _, rfl, rfl, SqL.of hv', atI_nat hx, t, _, rfl, SqT.of ht, rfl, _, _, rfl, _, _, rfl, _, _, rfl, rfl, ?_⟩
        refine ⟨_, rfl, for_it walk_str (fun i σ H'' => ∃ o12 o13, AI P w H H'' lr dk (Ri (run w1 w2 s f k) w1 w2 r i) ∧ SttV H'' u1 r.2.1 ∧ SttV H'' u2 r.2.2 ∧
          σ = [some (.ref p), some (.int (lim : Nat)), some v1, some (.int s), some v2, some (.int f), some (.ref lr), some (.ref dk), some (.int (k : Nat)), some (.str (rowS r.1)), some u1, some u2, o12, o13])
          ⟨_, _, A1, sv1, sv2, rfl⟩ (fun _ _ _ _ _ => trivial) ?_ ?_⟩
        · rintro i x σ Ha Hb hi ⟨o12, o13, A2, q1, q2, rfl⟩ ⟨rfl, c', hc', rfl⟩
          have hi2 : i < 2 := hi
          obtain ⟨b, es, eR⟩ : ∃ b, V.str ⟨#[c']⟩ = V.str (sgn b) ∧ Ri (run w1 w2 s f k) w1 w2 r (i + 1) = addR (Ri (run w1 w2 s f k) w1 w2 r i) (stp w1 w2 r b) := by
            match i, hi2, hc' with
            | 0, _, hc' => exact ⟨true, by have : c' = 46 := (Option.some.inj hc').symm; rw [this]; decide +kernel, rfl⟩
            | 1, _, hc' => exact ⟨false, by have : c' = 97 := (Option.some.inj hc').symm; rw [this]; decide +kernel, rfl⟩
            | n + 2, h, _ => exact absurd h (by omega)
          have hRl : (Ri (run w1 w2 s f k) w1 w2 r i).length ≤ lim + 2 := by
            have a := addR_len (run w1 w2 s f k) (stp w1 w2 r true)
            match i, hi2 with
            | 0, _ => show (run w1 w2 s f k).length ≤ _; omega
            | 1, _ => show (addR (run w1 w2 s f k) (stp w1 w2 r true)).length ≤ _; omega
            | n + 2, h => exact absurd h (by omega)
          rw [eR]
          generalize Ri (run w1 w2 s f k) w1 w2 r i = R at A2 hRl ⊢
          show tSeq _ _ _ (List.set _ 12 _) _
          rw [es]
          refine ⟨_, rfl, _, rfl, _, rfl, v1, w1, u1, _, b, rfl, p1.mono A2.same, o1, q1, okr.a, fun x1 Hc S7 y1 => ?_⟩
          refine ⟨_, rfl, _, rfl, _, rfl, v2, w2, u2, _, b, rfl, p2.mono (A2.same.trans S7), o2, q2.mono S7, okr.b, fun x2 Hd S8 y2 => ?_⟩
          refine ⟨by show 2 ≤ sizeLine; decide, fun pp He np S9 hp => ?_⟩
          have y1 := (y1.mono S8).mono S9
          have y2 := y2.mono S9
          have A3 := A2.tup ((S7.trans S8).trans S9)
          have q1 := q1.mono ((S7.trans S8).trans S9)
          have q2 := q2.mono ((S7.trans S8).trans S9)
          obtain ⟨us, hu, hrr⟩ := A3.rows
          obtain ⟨xs, hxs, hks, ek⟩ := A3.keys
          have hl1 := paired_len hrr
          have hl2 : xs.length = R.length := by have := congrArg List.length ek; simpa using this
          have nk := pairK_nk (q := (stp w1 w2 r b).2) hp y1 y2
          refine ⟨_, rfl, _, rfl, dk, pp, _, xs, rfl, rfl, hxs, hks, nk, pairK_depth _, _, rfl, ?_⟩
          show if (!(ND.getN xs (pairK (stp w1 w2 r b).2)).isSome) = true then _ else _
          rw [getN_mem ek]
          by_cases hin : (stp w1 w2 r b).2 ∈ R.map (·.2)
          · rw [decide_eq_true hin]
            refine iteF ⟨_, _, ?_, q1, q2, rfl⟩
            unfold addR
            rw [if_pos hin]; exact A3
          · rw [decide_eq_false hin]
            have gn : ND.getN xs (pairK (stp w1 w2 r b).2) = none := by
              have := getN_mem ek (stp w1 w2 r b).2
              rw [decide_eq_false hin] at this
              cases h : ND.getN xs (pairK (stp w1 w2 r b).2) with
              | none => rfl
              | some _ => rw [h] at this; cases this
            refine iteT ⟨_, rfl, _, rfl, dk, pp, _, xs, rfl, rfl, hxs, hks, nk, pairK_depth _, small5 (by omega), gn, ?_⟩
            have hlv : upd He dk (ND.ndO P w dk (xs ++ [(pairK (stp w1 w2 r b).2, pp, .bl true)])) lr = some (.lst us) := by rw [upd_ne A3.ne]; exact hu
            have hpp : upd He dk (ND.ndO P w dk (xs ++ [(pairK (stp w1 w2 r b).2, pp, .bl true)])) pp = some (.tup [x1, x2]) := by
              rw [upd_ne (fun z => by rw [z, hxs] at hp; cases hp)]; exact hp
            have hrow : (rowS r.1).length ≤ 20000 := by rw [rowS_len]; have := okr.l; omega
            have esg : (sgn b).length = 1 := by rw [sgn_row, rowS_len]; rfl
            refine ⟨_, rfl, .inl ⟨rfl, _, SqL.of hlv⟩, _, rfl, _, rfl, _, _, rfl, rfl, by rw [esg]; exact Nat.le_of_lt (small5 (by omega)), by show 1 ≤ sizeLine; decide, fun t1 G1 m1 S11 d1 => ?_⟩
            have er1 : rowS r.1 ++ sgn b = rowS (stp w1 w2 r b).1 := by rw [sgn_row, rowS_app]; rfl
            refine ⟨_, rfl, t1, pp, _, _, rfl, rfl, SqT.of d1, SqT.of (S11 _ _ hpp), by simp, by show 3 ≤ sizeLine; decide, (fun z => nomatch z), fun _ t2 G2 m2 S12 d2 => ?_⟩
            obtain ⟨m2', m3', m4'⟩ := A3.addN hu hxs hks ek hp y1 y2 hin rfl S11 S12 m2 (by rw [← er1]; exact d2)
            exact ⟨lr, us, _, rfl, rfl, m2', by rw [hl1]; exact small5 (by omega), _, _, m3', q1.tup m4', q2.tup m4', rfl⟩
        · rintro σ Ha ⟨o12, o13, A2, q1, q2, rfl⟩
          have A2 : AI P w H Ha lr dk (run w1 w2 s f (k + 1)) := by rw [er]; exact A2
          have kl2 : k + 1 ≤ (run w1 w2 s f (k + 1)).length := by
            rw [er]
            have a := addR_len (run w1 w2 s f k) (stp w1 w2 r true)
            have b := addR_len (addR (run w1 w2 s f k) (stp w1 w2 r true)) (stp w1 w2 r false)
            show k + 1 ≤ (addR (addR (run w1 w2 s f k) (stp w1 w2 r true)) (stp w1 w2 r false)).length
            omega
          obtain ⟨us, hu, hus⟩ := A2.rows
          have lu := paired_len hus
          refine ⟨_, rfl, _, _, rfl, rfl, _, rfl, _, _, rfl, .inl ⟨_, SqL.of hu, rfl⟩, _, rfl, _, _, rfl, rfl, _, rfl, ite2 (fun _ => ?_) fun z => ?_⟩
          · exact qN _ A2.same
          · have z : ¬ ((lim : Int) < (us.length : Nat)) := fun g => z (decide_eq_true g)
            exact ⟨k + 1, _, _, _, _, _, rfl, kl2, by omega, cl', A2, rfl⟩
    · have c : ¬ ((k : Int) < (vs.length : Nat)) := fun z => c (decide_eq_true z)
      exact iteF ⟨k, _, _, _, _, _, ⟨cl, kl, .inl (by omega)⟩, ll, A1, rfl⟩
  · rintro σ H' ⟨k, o9, o10, o11, o12, o13, en, lk, A1, rfl⟩
    obtain ⟨us, hu, hus⟩ := A1.rows
    refine ⟨_, rfl, _, rfl, by show 2 ≤ sizeLine; decide, fun t H2 nt S2 ht => ?_⟩
    exact qT k t lr us H2 en lk (A1.same.trans S2) ht (S2 _ _ hu) (Paired.mapP hus fun _ _ => RowV.tup (Tup.of S2))
end
end WH

set_option maxHeartbeats 4000000
namespace WH
open PySem PySem.Spec PyProof.Rows L2
section
variable {X : Cx} {CX : CXT} {k j n : Nat} {f : Addr} {ps ks : List Str} {sp : Sp} {E : L2.St → XK} {x : Str} {p pos : Pos} {e : Expr} {es : List Expr} {kws : List Keyword} {t tk : TA} {gV : List V → List V → List V}
theorem pass0At {X : Cx} (σ : L2.St) : PassesAt (L2.CX X.prog X.w) X σ C8.E0 := fun a b c d e f g => by
  obtain ⟨_, _, _, _, _, _, _, _, _, _, _, _, z⟩ := g
  exact z.elim
theorem pe_cNS (c : ∃ fd g, FnOk X.prog X.w X.K X.mg X.base CX k f fd ps sp ∧ KBn X.K fd ps n ks g gV ∧ PySem.W.keepIn X.K (.ref f) = true) (hr : Room j X.A) (hk : k ≤ j) (hg : Gl X x) (hm : X.mg x = some (.ref f)) (hx : ∀ σ, PassesAt CX X σ (E σ))
    (ha : PA X (e :: es) t) (hkw : PK X kws tk) (hall : (backToKw pos (keywordEach kws X.env)).all (·.1.isSome) = true := by rfl) (hks : (backToKw pos (keywordEach kws X.env)).filterMap (·.1) = ks := by rfl)
    (hdb : (x == ("__debug__" : Str)) = false := by decide) (he : starEach (e :: es) X.env = (false, eval e X.env) :: starEach es X.env := by rfl)
    (hpl : ((backTo pos (starEach (e :: es) X.env)).any (·.1) || (backToKw pos (keywordEach kws X.env)).any (·.1.isNone)) = false := by rfl) :
    PE X (.Call (.Name x p) (e :: es) kws pos) (EX.tCallNS n ks.length sp gV E t tk) := by
  obtain ⟨fd, g, F, b, kp⟩ := c
  exact EX.pe_callNS F (hr.mono hk) hg hm kp b hx ha hkw hall hks hdb he hpl
end
section
variable {P : Program} {w : World} {K : PySem.W.Frag} {mg : Str → Option Value} {base : Heap}
theorem call_alike (T : Txt K mg) : ∃ fd g, FnOk P w K mg base (L2.CX P w) 6 (He.fAd K d_alike.at_) fd ["one", "strength", "other", "far", "most"] (spAlike K) ∧ KBn K fd ["one", "strength", "other", "far", "most"] 4 ["most"] g (fun vs zs => vs ++ zs) ∧ PySem.W.keepIn K (.ref (He.fAd K d_alike.at_)) = true := by
  obtain ⟨fd, F⟩ := T.f_alike
  obtain ⟨mv, b⟩ := F.kbinds0 (ps := ["one", "strength", "other", "far", "most"]) 4 ["most"] [] (fun us _ ws => us ++ ws) (by simp [He.DefD.kws, d_alike]) (by simp) (fun r1 r2 r3 => ND.paired_app r1 r3) (fun D doc pm an cdv ct us mv ws l1 l2 l3 => by
    match us, ws, l1, l3 with
    | [_, _, _, _], [_], _, _ => rfl)
  exact ⟨fd, _, fn_alike T F, b, F.kp⟩
theorem call_alike0 (T : Txt K mg) : ∃ fd g, FnOk P w K mg base (L2.CX P w) 6 (He.fAd K d_alike.at_) fd ["one", "strength", "other", "far", "most"] (spAlike K) ∧ KBn K fd ["one", "strength", "other", "far", "most"] 4 [] g (fun vs _ => vs ++ [.int 200]) ∧ PySem.W.keepIn K (.ref (He.fAd K d_alike.at_)) = true := by
  obtain ⟨fd, F⟩ := T.f_alike
  obtain ⟨mv, b⟩ := F.kbinds0 (ps := ["one", "strength", "other", "far", "most"]) 4 [] [("most", .int 200)] (fun us mv _ => us ++ mv) (by simp [He.DefD.kws, d_alike]) (by simp [He.DefD.kws, d_alike, He.Dv.v]) (fun r1 r2 r3 => ND.paired_app r1 r2) (fun D doc pm an cdv ct us mv ws l1 l2 l3 => by
    match us, mv, ws, l1, l2, l3 with
    | [_, _, _, _], [_], [], _, _, _ => exact ⟨_, _, _, _, _, _, rfl, rfl, rfl⟩)
  exact ⟨fd, _, fn_alike T F, b, F.kp⟩

/-! ### what is told -/
def DueV (H : Hp) (v : V) : Due → Prop
  | .parted row => ∃ t, v = .ref t ∧ H t = some (.tup [.str "parted", .str (rowS row)])
  | .alike R => ∃ t l us, v = .ref t ∧ H t = some (.tup [.str "alike", .ref l]) ∧ H l = some (.lst us) ∧ Paired (RowV H) us R
  | .refused m => ∃ t, v = .ref t ∧ H t = some (.tup [.str "refused", .int (m : Nat)])
theorem DueV.mono {H H' : Hp} (s : Same H H') {v : V} : ∀ {o : Due}, DueV H v o → DueV H' v o
  | .parted _, ⟨t, e, h⟩ => ⟨t, e, s _ _ h⟩
  | .alike _, ⟨t, l, us, e, h, h2, h3⟩ => ⟨t, l, us, e, s _ _ h, s _ _ h2, Paired.mapP h3 fun _ _ => RowV.tup (Tup.of s)⟩
  | .refused _, ⟨t, e, h⟩ => ⟨t, e, s _ _ h⟩
theorem iteT_of {c : Bool} {A B : Prop} (h : c = true) (a : A) : if c = true then A else B := by rw [h]; exact a
theorem iteF_of {c : Bool} {A B : Prop} (h : c = false) (b : B) : if c = true then A else B := by rw [h]; exact b
def stepsD (xs : List (Int × Int)) : List PyData := xs.map fun x => .tuple [.int x.1, .int x.2]
def planD (w : WN) : PyData := .tuple [.list (stepsD w.head), .list (stepsD w.tail), .int w.cap, .int w.lift, .bool w.anew]
theorem stepsD_dp {K : PySem.W.Frag} {H : Hp} {vs : List V} {xs : List (Int × Int)} (p : Paired (StepV H) vs xs) : DpAll K H vs (stepsD xs) := by
  induction p with
  | nil => exact .nil
  | cons r _ ih =>
    obtain ⟨b, rfl, h⟩ := r
    exact .cons (.tup (SqT.of h) (.cons (.int _) (.cons (.int _) .nil))) ih
theorem planD_dp {K : PySem.W.Frag} {H : Hp} {v : V} {w : WN} (h : PlanV H v w) : Dp K H v (planD w) := by
  obtain ⟨p, ah, at_, rfl, hp, ⟨vh, hh, ph⟩, ⟨vt, ht, pt⟩⟩ := h
  exact .tup (SqT.of hp) (.cons (.lst (SqL.of hh) (stepsD_dp ph)) (.cons (.lst (SqL.of ht) (stepsD_dp pt)) (.cons (.int _) (.cons (.int _) (.cons (.bl _) .nil)))))
theorem stepsD_lay (xs : List (Int × Int)) : PyData.canLayAll0 (stepsD xs) = true ∧ PyData.depthAll (stepsD xs) ≤ 2 := by
  induction xs with
  | nil => exact ⟨rfl, by simp [stepsD, PyData.depthAll]⟩
  | cons x xs ih =>
    unfold stepsD at ih ⊢
    refine ⟨by simp [PyData.canLayAll0, PyData.canLay0, ih.1], ?_⟩
    have := ih.2
    simp only [List.map_cons, PyData.depthAll, PyData.depth]; omega
theorem planD_shaped (w : WN) : SeqAt.shaped (planD w) = true := by
  obtain ⟨a1, a2⟩ := stepsD_lay w.head
  obtain ⟨b1, b2⟩ := stepsD_lay w.tail
  unfold SeqAt.shaped planD
  rw [show PyData.canLay0 (.tuple [.list (stepsD w.head), .list (stepsD w.tail), .int w.cap, .int w.lift, .bool w.anew]) = true by simp [PyData.canLay0, PyData.canLayAll0, a1, b1], decide_eq_true (by simp only [PyData.depth, PyData.depthAll]; omega)]; rfl
theorem stepsD_eqv : ∀ {xs ys : List (Int × Int)}, PyData.eqvAll (stepsD xs) (stepsD ys) = true → xs = ys
  | [], [], _ => rfl
  | [], _ :: _, h => by simp [stepsD, PyData.eqvAll] at h
  | _ :: _, [], h => by simp [stepsD, PyData.eqvAll] at h
  | x :: xs, y :: ys, h => by
    have h2 : (PyData.eqv (.tuple [.int x.1, .int x.2]) (.tuple [.int y.1, .int y.2]) && PyData.eqvAll (stepsD xs) (stepsD ys)) = true := by
      have : PyData.eqvAll (stepsD (x :: xs)) (stepsD (y :: ys)) = (PyData.eqv (.tuple [.int x.1, .int x.2]) (.tuple [.int y.1, .int y.2]) && PyData.eqvAll (stepsD xs) (stepsD ys)) := by
        show PyData.eqvAll (.tuple [.int x.1, .int x.2] :: stepsD xs) (.tuple [.int y.1, .int y.2] :: stepsD ys) = _
        rw [PyData.eqvAll]
      rw [← this]; exact h
    obtain ⟨h3, h4⟩ := Bool.and_eq_true_iff.mp h2
    simp [PyData.eqv, PyData.eqvAll] at h3
    rw [stepsD_eqv h4, Prod.ext h3.1 h3.2]
theorem planD_eqv {a b : WN} (h : PyData.eqv (planD a) (planD b) = true) : a = b := by
  unfold planD at h
  simp [PyData.eqv, PyData.eqvAll] at h
  obtain ⟨h1, h2, h3, h4, h5⟩ := h
  obtain ⟨ah, at_, ac, al, an⟩ := a
  obtain ⟨bh, bt, bc, bl, bn⟩ := b
  dsimp only at h1 h2 h3 h4 h5
  rw [stepsD_eqv h1, stepsD_eqv h2, h3, h4, h5]
def spDue : Sp := fun vs H Q _ => ∃ w1 w2 s f l us k m, vs = [.ref l, .int (k : Nat), .int (m : Nat)] ∧ H l = some (.lst us) ∧ Paired (RowV H) us (run w1 w2 s f k) ∧ Ends_ w1 w2 s f k ∧ ∀ v H', Same H H' → DueV H' v (due w1 w2 s f k m) → Q v H'
theorem cal__law_due (T : Txt K mg) : C8.Cal P w K mg base 1 "_law_due" spDue [] := by
  refine calD T.f__law_due T.g__law_due sc__law_due (fun fd F => F.bindsN fun _ _ _ _ _ _ us hl => match us, hl with | [_, _, _], _ => rfl) (fun vs H Q E h => by obtain ⟨_, _, _, _, _, _, _, _, rfl, _⟩ := h; rfl) fun cdv A outer s H vs Q E hr h => ?_
  refine ⟨_, (pss_cons (ps_if (PW.pt (pw_and (pt_cmpR op_lt (pv 1) (pe_callB call_len (by rfl) T.b_len (by decide +kernel) (pa_cons (pv 0) pa_nil)) (nomark _)) (pw_and1 (pt_cmpR op_lt (pv 1) (pv 2) (nomark _))))) (pss_one (ps_ret (NW.pe_tupN (pa_cons pe_str (pa_cons (pe_ix ix_tup (pe_ix ix_list (pv 0) (pv 1) (fun _ _ => rfl)) pe_int (fun _ _ => rfl)) pa_nil))))) pss_nil) (pss_cons (ps_if (PW.pt (pw_or (pt_cmpR op_lt (pv 1) (pe_callB call_len (by rfl) T.b_len (by decide +kernel) (pa_cons (pv 0) pa_nil)) (nomark _)) (pw_or1 (pt_cmpR op_gt (pe_callB call_len (by rfl) T.b_len (by decide +kernel) (pa_cons (pv 0) pa_nil)) (pv 2) (nomark _))))) (pss_one (ps_ret (NW.pe_tupN (pa_cons pe_str (pa_cons (pv 2) pa_nil))))) pss_nil) (pss_one (ps_ret (NW.pe_tupN (pa_cons pe_str (pa_cons (pv 0) pa_nil))))))), ?_⟩
  obtain ⟨w1, w2, s, f, l, us, k, m, rfl, hl, hus, en, q⟩ := h
  have lu := paired_len hus
  refine ⟨_, rfl, _, rfl, _, _, rfl, .inl ⟨_, SqL.of hl, rfl⟩, _, _, rfl, rfl, _, rfl, ite2 (fun c => ?_) fun c => ?_⟩
  · have c2 := of_decide_eq_true c
    have kl : k < (run w1 w2 s f k).length := by omega
    have hk : (run w1 w2 s f k)[k]? = some (run w1 w2 s f k)[k] := List.getElem?_eq_getElem kl
    generalize (run w1 w2 s f k)[k] = r at hk
    obtain ⟨x, hx, t, u1, u2, rfl, ht, sv1, sv2⟩ := paired_at hus hk
    have du : due w1 w2 s f k m = if k < m then .parted r.1 else .refused m := by unfold due; rw [hk]
    refine ⟨_, rfl, _, rfl, _, _, rfl, rfl, _, rfl, ite2 (fun d => ?_) fun d => ?_⟩
    · have d := of_decide_eq_true d
      refine ⟨_, rfl, _, rfl, l, us, _, _, rfl, rfl, SqL.of hl, atI_nat hx, t, _, _, _, rfl, rfl, SqT.of ht, rfl, by show 2 ≤ sizeLine; decide, fun t2 H2 n2 S2 h2 => q _ _ S2 ?_⟩
      rw [du, if_pos (by omega)]
      exact ⟨t2, rfl, h2⟩
    · have d : ¬ ((k : Int) < (m : Nat)) := fun g => d (decide_eq_true g)
      refine ⟨_, rfl, _, rfl, _, _, rfl, .inl ⟨_, SqL.of hl, rfl⟩, _, _, rfl, rfl, _, rfl, iteT_of c (iteT ⟨_, rfl, by show 2 ≤ sizeLine; decide, fun t2 H2 n2 S2 h2 => q _ _ S2 ?_⟩)⟩
      rw [du, if_neg (by omega)]
      exact ⟨t2, rfl, h2⟩
  · have c2 : ¬ ((k : Int) < (us.length : Nat)) := fun g => c (decide_eq_true g)
    have ke : k = (run w1 w2 s f k).length := by have := en.le; omega
    have du : due w1 w2 s f k m = if k ≤ m then .alike (run w1 w2 s f k) else .refused m := by unfold due; rw [List.getElem?_eq_none (by omega)]
    refine iteF ⟨_, rfl, _, rfl, _, _, rfl, .inl ⟨_, SqL.of hl, rfl⟩, _, _, rfl, rfl, _, rfl, iteF_of (decide_eq_false c2) ?_⟩
    refine ⟨_, rfl, _, _, rfl, .inl ⟨_, SqL.of hl, rfl⟩, _, rfl, _, _, rfl, rfl, _, rfl, ite2 (fun d => ?_) fun d => ?_⟩
    · have d := of_decide_eq_true d
      refine ⟨_, rfl, by show 2 ≤ sizeLine; decide, fun t2 H2 n2 S2 h2 => q _ _ S2 ?_⟩
      rw [du, if_neg (by omega)]
      exact ⟨t2, rfl, h2⟩
    · have d : ¬ ((m : Int) < (us.length : Nat)) := fun g => d (decide_eq_true g)
      refine ⟨_, rfl, by show 2 ≤ sizeLine; decide, fun t2 H2 n2 S2 h2 => q _ _ S2 ?_⟩
      rw [du, if_pos (by omega)]
      exact ⟨t2, l, us, rfl, h2, S2 _ _ hl, Paired.mapP hus fun _ _ => RowV.tup (Tup.of S2)⟩
/-- .. the told list new since H0 -/
def DueN (H0 H : Hp) (v : V) : Due → Prop
  | .alike R => ∃ t l us, v = .ref t ∧ H0 l = none ∧ H t = some (.tup [.str "alike", .ref l]) ∧ H l = some (.lst us) ∧ Paired (RowV H) us R
  | o => DueV H v o
theorem DueN.v {H0 H : Hp} {v : V} : ∀ {o : Due}, DueN H0 H v o → DueV H v o
  | .parted _, h => h
  | .alike _, ⟨t, l, us, e, _, h, h2, h3⟩ => ⟨t, l, us, e, h, h2, h3⟩
  | .refused _, h => h
theorem DueN.up {H0 H1 H : Hp} (s : Same H0 H1) {v : V} : ∀ {o : Due}, DueN H1 H v o → DueN H0 H v o
  | .parted _, h => h
  | .alike _, ⟨t, l, us, e, n, h, h2, h3⟩ => ⟨t, l, us, e, s.free n, h, h2, h3⟩
  | .refused _, h => h
def spTold : Sp := fun vs H Q _ => ∃ v w1 s w2 f m, vs = [v, .int (m : Nat)] ∧ TwoV H v w1 s w2 f ∧ okTwo w1 s w2 f ∧ 1 ≤ m ∧ m ≤ 400 ∧ ∀ o v' H', Same H H' → IsDue w1 w2 s f m o → DueN H H' v' o → Q v' H'
theorem cal__law_told (T : Txt K mg) : C8.Cal P w K mg base 9 "_law_told" spTold [] := by
  refine calD T.f__law_told T.g__law_told sc__law_told (fun fd F => F.bindsN fun _ _ _ _ _ _ us hl => match us, hl with | [_, _], _ => rfl) (fun vs H Q E h => by obtain ⟨_, _, _, _, _, _, rfl, _⟩ := h; rfl) fun cdv A outer s H vs Q E hr h => ?_
  refine ⟨_, (pss_cons (ps_asg (pv 0) (pg_tup rfl (pgs_cons (pg_name (i := 2) sc__law_told.nd rfl (by first | exact Or.inl rfl | exact Or.inr rfl)) (pgs_cons (pg_name (i := 3) sc__law_told.nd rfl (by first | exact Or.inl rfl | exact Or.inr rfl)) (pgs_cons (pg_name (i := 4) sc__law_told.nd rfl (by first | exact Or.inl rfl | exact Or.inr rfl)) (pgs_cons (pg_name (i := 5) sc__law_told.nd rfl (by first | exact Or.inl rfl | exact Or.inr rfl)) pgs_nil)))))) (pss_cons (ps_par (i := 6) (j := 7) (by rfl) sc__law_told.nd rfl rfl (by decide) rfl rfl (pa_cons (C8.pe_c (cal__law_made T) hr (by decide) rfl (pa_cons (pv 2) pa_nil)) (pa_cons (C8.pe_c (cal__law_made T) hr (by decide) rfl (pa_cons (pv 4) pa_nil)) pa_nil)) (by rfl)) (C8.pss_cut (ps_if (PW.pt (pw_and (pt_cmpR (op_eqD hr.units) (pv 2) (pv 4) (nomark _)) (pw_and1 (pt_cmpR op_eq (pe_op op_mod (pe_op op_add (pv 3) (pv 1)) pe_int) pe_int (nomark _))))) (pss_one (ps_set (i := 7) sc__law_told.nd rfl (by first | exact Or.inl rfl | exact Or.inr rfl) (pv 6))) pss_nil) (pss_one (ps_try_as (i := 8) (Wout := fun _ _ _ _ => False) rfl rfl sc__law_told.nd rfl rfl ⟨rfl, by decide, Or.inl T.g_TooMany⟩ takes0 (fun W pn xe tk _ => (pss_cons (ps_if (pt_cmpR op_eq (pv 1) pe_int (nomark _)) (pss_one (ps_ret (pe_cNS (call_alike0 T) hr (by decide) rfl T.g_alike (fun σ => passAt tk σ) (pa_cons (pv 6) (pa_cons (pv 3) (pa_cons (pv 7) (pa_cons (pv 5) pa_nil)))) pk_nil))) pss_nil) (pss_one (ps_ret (pe_cNS (call_alike T) hr (by decide) rfl T.g_alike (fun σ => passAt tk σ) (pa_cons (pv 6) (pa_cons (pv 3) (pa_cons (pv 7) (pa_cons (pv 5) pa_nil)))) (pk_cons (pv 1) pk_nil)))))) (fun a oe cls d pn hz hf => (pss_one (ps_ret (NW.pe_tupN (pa_cons pe_str (pa_cons (pe_xf T.xf_TooMany T.xn_TooMany hz hf (pv 8)) pa_nil))))))))))), ?_⟩
  obtain ⟨v, w1, s, w2, f, m, rfl, hv, ok, m1, m2, q⟩ := h
  obtain ⟨p, v1, v2, rfl, hp, p1, p2⟩ := id hv
  refine ⟨_, rfl, p, _, rfl, SqT.of hp, rfl, _, _, rfl, _, _, rfl, _, _, rfl, _, _, rfl, rfl, ?_⟩
  refine ⟨_, rfl, v1, w1, rfl, p1, ok.a, fun a1 H5 S5 h1 _ => ⟨_, rfl, v2, w2, rfl, p2.mono S5, ok.b, fun a2 H6 S6 h2 _ => ⟨_, _, rfl, ?_⟩⟩⟩
  have S := S5.trans S6
  refine ⟨fun σ H' => ∃ a3, σ = [some (.ref p), some (.int (m : Nat)), some v1, some (.int s), some v2, some (.int f), some (.ref a1), some (.ref a3), none] ∧ Same H6 H' ∧ WaneAt K H' a3 w2, ?_, ?_⟩
  · refine ⟨_, rfl, _, rfl, _, _, planD_dp (p1.mono S), planD_dp (p2.mono S), planD_shaped _, planD_shaped _, _, rfl, ?_⟩
    cases e : PyData.eqv (planD w1) (planD w2) with
    | false => exact iteF (iteF ⟨a2, rfl, Same.refl _, h2⟩)
    | true =>
      obtain rfl := planD_eqv e
      refine iteT ⟨_, rfl, _, rfl, _, _, rfl, rfl, _, _, rfl, rfl, by show (0 : Int) < 2; decide, rfl, _, rfl, ite2 (fun _ => ?_) fun _ => ?_⟩
      · exact ⟨_, rfl, a1, rfl, Same.refl _, h1.mono S6⟩
      · exact ⟨a2, rfl, Same.refl _, h2⟩
  rintro σ H7 ⟨a3, rfl, S7, h3⟩
  have S06 := S.trans S7
  have h1 := (h1.mono S6).mono S7
  have big : ∀ (Q : VK) (E : XK), (∀ o v' H', Same H7 H' → IsDue w1 w2 s f m o → (∀ k, o ≠ .refused k) → DueN H7 H' v' o → Q v' H') → (∀ d H', IsDue w1 w2 s f m (.refused m) → Same H7 H' → H' d = some (.xd [("most", .int (m : Nat))]) → E (.ref (cTM K)) (some d) H') →
      spAlike K [.ref a1, .int s, .ref a3, .int f, .int (m : Nat)] H7 Q E := by
    intro Q E q1 q2
    refine ⟨a1, w1, s, a3, w2, f, m, rfl, h1, h3, ok.s1, ok.s2, ok.f1, ok.f2, m1, m2, ?_, ?_, ?_⟩
    · intro k row pp H8 t hk hc hrow hpp S8 ht
      exact q1 (.parted row) _ _ S8 (.parted hc hrow hpp hk) (fun _ z => nomatch z) ⟨t, rfl, ht⟩
    · intro k H8 t l us hc hk hkm S8 nl ht hl hus
      exact q1 (.alike (run w1 w2 s f k)) _ _ S8 (.alike hc hk hkm) (fun _ z => nomatch z) ⟨t, l, us, rfl, nl, ht, hl, hus⟩
    · intro d H8 hc hm S8 hd
      exact q2 d H8 (.refused hc hm) S8 hd
  refine ⟨_, rfl, rfl, _, rfl, ite2 (fun z => ?_) fun _ => ?_⟩
  · have z : (m : Int) = 200 := by simpa using z
    refine ⟨_, rfl, _, rfl, _, rfl, _, rfl, rfl, rfl, ?_⟩
    have e : ([V.ref a1, .int s, .ref a3, .int f] ++ [V.int 200] : List V) = [.ref a1, .int s, .ref a3, .int f, .int (m : Nat)] := by rw [z]; rfl
    show spAlike K ([V.ref a1, .int s, .ref a3, .int f] ++ [V.int 200]) _ _ _
    rw [e]
    refine big _ _ (fun o v' H' S8 io _ ho => q o v' H' (S06.trans S8) io (ho.up S06)) fun d H' io S8 hd => ⟨true, T.xi_TooMany.2.2, fun _ x nx => ?_, fun z => (by cases z)⟩
    refine ⟨_, rfl, rfl, rfl, d, _, _, rfl, hd, rfl, by show 2 ≤ sizeLine; decide, fun t H9 nt S9 ht => q (.refused m) _ _ ((S06.trans S8).trans S9) io ⟨t, rfl, ht⟩⟩
  · refine ⟨_, rfl, _, rfl, _, rfl, _, rfl, _, rfl, rfl, rfl, ?_⟩
    refine big _ _ (fun o v' H' S8 io _ ho => q o v' H' (S06.trans S8) io (ho.up S06)) fun d H' io S8 hd => ⟨true, T.xi_TooMany.2.2, fun _ x nx => ?_, fun z => (by cases z)⟩
    refine ⟨_, rfl, rfl, rfl, d, _, _, rfl, hd, rfl, by show 2 ≤ sizeLine; decide, fun t H9 nt S9 ht => q (.refused m) _ _ ((S06.trans S8).trans S9) io ⟨t, rfl, ht⟩⟩
end
end WH

set_option maxHeartbeats 4000000
namespace WH
open PySem PySem.Spec PyProof.Rows L2
/-! ### what is told, as data -/
def rowD (r : Row) : PyData := .tuple [.str (rowS r.1), stD r.2.1, stD r.2.2]
def dueD : Due → PyData
  | .parted row => .tuple [.str "parted", .str (rowS row)]
  | .alike R => .tuple [.str "alike", .list (R.map rowD)]
  | .refused m => .tuple [.str "refused", .int (m : Nat)]
theorem rowD_dp {K : PySem.W.Frag} {H : Hp} {vs : List V} {R : List Row} (p : Paired (RowV H) vs R) : DpAll K H vs (R.map rowD) := by
  induction p with
  | nil => exact .nil
  | cons r _ ih =>
    obtain ⟨a, v1, v2, rfl, h, h1, h2⟩ := r
    exact .cons (.tup (SqT.of h) (.cons (.str _) (.cons (stD_dp h1) (.cons (stD_dp h2) .nil)))) ih
theorem dueD_dp {K : PySem.W.Frag} {H : Hp} {v : V} : ∀ {o : Due}, DueV H v o → Dp K H v (dueD o)
  | .parted _, ⟨t, e, h⟩ => by subst e; exact .tup (SqT.of h) (.cons (.str _) (.cons (.str _) .nil))
  | .alike _, ⟨t, l, us, e, h, h2, h3⟩ => by subst e; exact .tup (SqT.of h) (.cons (.str _) (.cons (.lst (SqL.of h2) (rowD_dp h3)) .nil))
  | .refused _, ⟨t, e, h⟩ => by subst e; exact .tup (SqT.of h) (.cons (.str _) (.cons (.int _) .nil))
/-- small enough to be shown -/
structure Few (d : PyData) (k : Nat) : Prop where
  a : d.showable = true
  b : d.hasDict = false
  c : d.depth ≤ 20
  e : d.leavesShort 13 = true
  w : d.weight ≤ k
theorem rowS_leaf (l : List Bool) : (PyData.str (rowS l)).leavesShort 13 = true := by
  show (rowS l).cps.toList.all (fun c => decide (c < 16 ^ 8)) = true
  rw [List.all_eq_true]
  intro c hc
  have : c ∈ l.map code := by simpa [rowS, SX.S] using hc
  obtain ⟨b, _, rfl⟩ := List.mem_map.mp this
  cases b <;> decide
theorem stD_few {st : Stt} (h : okU st) : Few (stD st) 140 := by
  match st, h with
  | none, _ => exact ⟨rfl, rfl, by simp [stD, PyData.depth], rfl, by simp [stD, PyData.weight]⟩
  | some (s, n), ⟨hs, hn⟩ =>
    have hn2 : small ((n : Nat) : Int) := ⟨by omega, by omega⟩
    refine ⟨?_, rfl, ?_, ?_, ?_⟩
    · show (decide (s.natAbs.log2 < 1920) && (decide (((n : Nat) : Int).natAbs.log2 < 1920) && true)) = true
      rw [small_log hs, small_log hn2]; rfl
    · simp [stD, PyData.depth, PyData.depthAll]
    · show (decide ((PyData.shown (.int s)).length ≤ 13) && (decide ((PyData.shown (.int (n : Nat))).length ≤ 13) && true)) = true
      rw [small_short hs, small_short hn2]; rfl
    · show (if s == 0 then 0 else s.natAbs.log2 + 1) + 1 + ((if ((n : Nat) : Int) == 0 then 0 else ((n : Nat) : Int).natAbs.log2 + 1) + 1 + 0) ≤ 140
      have := small_weight hs
      have := small_weight hn2
      omega
def fewRow (r : Row) : Prop := okU r.2.1 ∧ okU r.2.2 ∧ r.1.length ≤ 400
theorem rowD_few {r : Row} (h : fewRow r) : Few (rowD r) 700 := by
  obtain ⟨h1, h2, h3⟩ := h
  have a := stD_few h1
  have b := stD_few h2
  refine ⟨?_, ?_, ?_, ?_, ?_⟩
  · show (true && ((stD r.2.1).showable && ((stD r.2.2).showable && true))) = true
    rw [a.a, b.a]; rfl
  · show (false || ((stD r.2.1).hasDict || ((stD r.2.2).hasDict || false))) = false
    rw [a.b, b.b]; rfl
  · have := a.c
    have := b.c
    show PyData.depth (.tuple [.str _, stD r.2.1, stD r.2.2]) ≤ 20
    have a4 : (stD r.2.1).depth ≤ 1 := by cases r.2.1 <;> simp [stD, PyData.depth, PyData.depthAll]
    have b4 : (stD r.2.2).depth ≤ 1 := by cases r.2.2 <;> simp [stD, PyData.depth, PyData.depthAll]
    simp only [PyData.depth, PyData.depthAll]; omega
  · show ((PyData.str (rowS r.1)).leavesShort 13 && ((stD r.2.1).leavesShort 13 && ((stD r.2.2).leavesShort 13 && true))) = true
    rw [rowS_leaf, a.e, b.e]; rfl
  · show (rowS r.1).cps.size + 1 + ((stD r.2.1).weight + 1 + ((stD r.2.2).weight + 1 + 0)) ≤ 700
    have := a.w
    have := b.w
    have : (rowS r.1).cps.size = r.1.length := rowS_size _
    omega
theorem rowD_depth (r : Row) : (rowD r).depth ≤ 4 := by
  have a4 : (stD r.2.1).depth ≤ 1 := by cases r.2.1 <;> simp [stD, PyData.depth, PyData.depthAll]
  have b4 : (stD r.2.2).depth ≤ 1 := by cases r.2.2 <;> simp [stD, PyData.depth, PyData.depthAll]
  simp only [rowD, PyData.depth, PyData.depthAll]; omega
theorem rowsD_few : ∀ {R : List Row}, (∀ r ∈ R, fewRow r) → PyData.showableAll (R.map rowD) = true ∧ PyData.hasDictAll (R.map rowD) = false ∧ PyData.depthAll (R.map rowD) ≤ 4 ∧ PyData.leavesShortAll 13 (R.map rowD) = true ∧ PyData.weightAll (R.map rowD) ≤ 701 * R.length
  | [], _ => ⟨rfl, rfl, by simp [PyData.depthAll], rfl, by simp [PyData.weightAll]⟩
  | r :: R, h => by
    obtain ⟨a1, a2, a3, a4, a5⟩ := rowsD_few fun q hq => h q (List.mem_cons_of_mem _ hq)
    have b := rowD_few (h r (List.mem_cons_self ..))
    have d := rowD_depth r
    refine ⟨?_, ?_, ?_, ?_, ?_⟩
    · show ((rowD r).showable && PyData.showableAll (R.map rowD)) = true
      rw [b.a, a1]; rfl
    · show ((rowD r).hasDict || PyData.hasDictAll (R.map rowD)) = false
      rw [b.b, a2]; rfl
    · simp only [List.map_cons, PyData.depthAll]; omega
    · show ((rowD r).leavesShort 13 && PyData.leavesShortAll 13 (R.map rowD)) = true
      rw [b.e, a4]; rfl
    · show (rowD r).weight + 1 + PyData.weightAll (R.map rowD) ≤ 701 * (R.length + 1)
      have := b.w
      omega
def fewDue : Due → Prop
  | .parted row => row.length ≤ 400
  | .alike R => R.length ≤ 400 ∧ ∀ r ∈ R, fewRow r
  | .refused m => m ≤ 400
theorem dueD_few : ∀ {o : Due}, fewDue o → Few (dueD o) 300000
  | .parted row, h => by
    refine ⟨rfl, rfl, by simp [dueD, PyData.depth, PyData.depthAll], ?_, ?_⟩
    · show ((PyData.str "parted").leavesShort 13 && ((PyData.str (rowS row)).leavesShort 13 && true)) = true
      rw [rowS_leaf]; decide +kernel
    · show ("parted" : Str).cps.size + 1 + ((rowS row).cps.size + 1 + 0) ≤ 300000
      have : (rowS row).cps.size = row.length := rowS_size _
      have : ("parted" : Str).cps.size = 6 := by decide +kernel
      have h : row.length ≤ 400 := h
      omega
  | .alike R, ⟨h1, h2⟩ => by
    obtain ⟨a1, a2, a3, a4, a5⟩ := rowsD_few h2
    refine ⟨?_, ?_, ?_, ?_, ?_⟩
    · show (true && (PyData.showableAll (R.map rowD) && true)) = true
      rw [a1]; rfl
    · show (false || (PyData.hasDictAll (R.map rowD) || false)) = false
      rw [a2]; rfl
    · show PyData.depth (.tuple [.str _, .list (R.map rowD)]) ≤ 20
      simp only [PyData.depth, PyData.depthAll]; omega
    · show ((PyData.str "alike").leavesShort 13 && (PyData.leavesShortAll 13 (R.map rowD) && true)) = true
      rw [a4]; decide +kernel
    · show ("alike" : Str).cps.size + 1 + (PyData.weightAll (R.map rowD) + 1 + 0) ≤ 300000
      have : ("alike" : Str).cps.size = 5 := by decide +kernel
      omega
  | .refused m, h => by
    have h : m ≤ 400 := h
    have hm : small ((m : Nat) : Int) := ⟨by omega, by omega⟩
    refine ⟨?_, rfl, by simp [dueD, PyData.depth, PyData.depthAll], ?_, ?_⟩
    · show (true && (decide (((m : Nat) : Int).natAbs.log2 < 1920) && true)) = true
      rw [small_log hm]; rfl
    · show ((PyData.str "refused").leavesShort 13 && (decide ((PyData.shown (.int (m : Nat))).length ≤ 13) && true)) = true
      rw [small_short hm]; decide +kernel
    · show ("refused" : Str).cps.size + 1 + ((if ((m : Nat) : Int) == 0 then 0 else ((m : Nat) : Int).natAbs.log2 + 1) + 1 + 0) ≤ 300000
      have : ("refused" : Str).cps.size = 7 := by decide +kernel
      have := small_weight hm
      omega
theorem isDue_few {w1 w2 : WN} {s f : Int} {m : Nat} {o : Due} (ok : okTwo w1 s w2 f) (hm : m ≤ 400) (d : IsDue w1 w2 s f m o) : fewDue o := by
  have t1 := ok.a.tpos
  have t2 := ok.b.tpos
  have okr := fun k => run_ok (s := s) (f := f) ok.a ok.b ⟨ok.s1, ok.s2, by omega⟩ ⟨ok.f1, ok.f2, by omega⟩ k
  cases d with
  | @parted k row p c hr hp hk =>
    have := (okr k _ (List.mem_of_getElem? hr)).l
    show row.length ≤ 400
    have : row.length ≤ k := this
    omega
  | @alike k c hk hkm =>
    refine ⟨by omega, fun r hr => ?_⟩
    have := okr k r hr
    exact ⟨this.a.u ok.a, this.b.u ok.b, by have := this.l; omega⟩
  | refused c hm2 => exact hm
theorem Few.shows {d : PyData} {k : Nat} (h : Few d k) (hk : k ≤ 1000000) : Shows d := ⟨h.a, h.b, by have := h.c; omega, PyData.shown_fits (B := 13) (by decide) (by decide) h.e (by have := h.w; omega)⟩
theorem ten4 : (10 : Int) ^ (4 : Int).toNat = ((10000 : Nat) : Int) := by decide
theorem dueRef {H : Hp} {v : V} : ∀ {o : Due}, DueV H v o → ∃ t, v = .ref t
  | .parted _, ⟨t, e, _⟩ => ⟨t, e⟩
  | .alike _, ⟨t, _, _, e, _⟩ => ⟨t, e⟩
  | .refused _, ⟨t, e, _⟩ => ⟨t, e⟩
section
variable {P : Program} {w : World} {K : PySem.W.Frag} {mg : Str → Option Value} {base : Heap}
def spManyR : Sp := fun vs H Q _ => ∃ b c, vs = [.ref b] ∧ Bag H b c ∧ ∀ H', But b H H' → Bag H' b c → Q (.bl true) H'
theorem calG__law_many_right (T : Txt K mg) : GL.CalG P w K mg base 10 "_law_many_right" spManyR [] := by
  obtain ⟨fd, F⟩ := T.f__law_many_right
  refine ⟨_, fd, _, [], GL.okG F sc__law_many_right (fun vs H Q E h => by obtain ⟨_, _, rfl, _⟩ := h; rfl) ?_, T.g__law_many_right, F.kp, (F.bindsN fun _ _ _ _ _ _ us hl => match us, hl with | [_], _ => rfl), .nil⟩
  intro cdv A outer s H vs Q E hr gd h
  refine ⟨_, PSs.nox (pss_cons (ps_set (i := 1) sc__law_many_right.nd rfl (by first | exact Or.inl rfl | exact Or.inr rfl) (C8.pe_c (cal__law_many_pairs T) hr (by decide) rfl (pa_cons (pv 0) pa_nil))) (pss_cons (ps_set (i := 2) sc__law_many_right.nd rfl (by first | exact Or.inl rfl | exact Or.inr rfl) (C8.pe_c (cal__law_all T) hr (by decide) rfl (pa_cons (pv 1) (pa_cons (pe_op op_pow pe_int pe_int) pa_nil)))) (pss_cons (ps_if (pt_cmpR op_isN (pv 2) pe_non (nomark _)) (pss_one (ps_ret pe_bl)) pss_nil) (pss_cons (ps_asg (pv 2) (pg_tup rfl (pgs_cons (pg_name (i := 3) sc__law_many_right.nd rfl (by first | exact Or.inl rfl | exact Or.inr rfl)) (pgs_cons (pg_name (i := 4) sc__law_many_right.nd rfl (by first | exact Or.inl rfl | exact Or.inr rfl)) pgs_nil)))) (pss_cons (ps_for PassesOwn.never rfl (pi_list (NW.pe_lstN (pa_cons pe_int (pa_cons pe_int pa_nil)))) (pg_name (i := 5) sc__law_many_right.nd rfl (by first | exact Or.inl rfl | exact Or.inr rfl)) (pss_one (ps_if (pt_cmpR op_ne (pe_callB (GL.call_reprD gd hr.units) (by rfl) T.b_repr (by decide +kernel) (pa_cons (C8.pe_c (cal__law_told T) hr (by decide) rfl (pa_cons (pv 1) (pa_cons (pv 5) pa_nil))) pa_nil)) (pe_callB (GL.call_reprD gd hr.units) (by rfl) T.b_repr (by decide +kernel) (pa_cons (C8.pe_c (cal__law_due T) hr (by decide) rfl (pa_cons (pv 3) (pa_cons (pv 4) (pa_cons (pv 5) pa_nil)))) pa_nil)) (nomark _)) (pss_one (ps_ret pe_bl)) pss_nil))) (pss_one (ps_ret pe_bl))))))), ?_⟩
  obtain ⟨b, c, rfl, g, q⟩ := h
  refine ⟨_, rfl, b, c, rfl, g, fun v w1 s w2 f H1 s1 g1 hv ok => ?_⟩
  refine ⟨_, rfl, _, _, rfl, rfl, ⟨by decide, by decide, by decide⟩, v, w1, s, w2, f, 10000, congrArg (fun z => [v, V.int z]) ten4, hv, ok, by decide, by decide, fun H2 S2 => ?_, fun k t l us H2 en lk S2 ht hl hus => ?_⟩
  · exact ⟨_, rfl, rfl, _, rfl, iteT (q H2 (s1.same S2) (g1.same S2))⟩
  refine ⟨_, rfl, rfl, _, rfl, iteF ⟨_, rfl, t, _, rfl, SqT.of ht, rfl, _, _, rfl, _, _, rfl, rfl, by show 2 ≤ sizeLine; decide, fun ll H3 n3 S3 e3 => ⟨ll, rfl, ⟨_, SqL.of e3⟩, ?_⟩⟩⟩
  refine for_list (K := K) (a := ll) (xs := [.int 200, .int 400]) (fun i σ H' => Same H3 H' ∧ ∃ o5, σ = [some (.ref b), some v, some (.ref t), some (.ref l), some (.int (k : Nat)), o5]) ⟨Same.refl _, _, rfl⟩ (fun i σ H' _ h => SqL.of (h.1 _ _ e3)) ?_ ?_
  · rintro i x σ H4 hi ⟨S4, o5, rfl⟩
    obtain ⟨m, rfl, m1, m2⟩ : ∃ m : Nat, x = .int (m : Nat) ∧ 1 ≤ m ∧ m ≤ 400 := by
      match i, hi with
      | 0, hi => exact ⟨200, by simpa using hi.symm, by decide, by decide⟩
      | 1, hi => exact ⟨400, by simpa using hi.symm, by decide, by decide⟩
      | n + 2, hi => simp at hi
    have S24 := S3.trans S4
    refine ⟨_, rfl, _, rfl, v, w1, s, w2, f, m, rfl, (hv.mono S2).mono S24, ok, m1, m2, fun o v' H5 S5 io hd => ?_⟩
    obtain ⟨tt, rfl⟩ := dueRef hd.v
    have sh := (dueD_few (isDue_few ok m2 io)).shows (by decide)
    refine ⟨tt, dueD o, rfl, dueD_dp hd.v, sh.a, sh.b, sh.c, sh.d, ?_⟩
    have eo := due_of en io
    subst eo
    refine ⟨_, rfl, _, rfl, _, rfl, w1, w2, s, f, l, us, k, m, rfl, S5 _ _ (S24 _ _ hl), Paired.mapP hus fun _ _ => RowV.tup (Tup.of (S24.trans S5)), en, fun v2 H6 S6 hd2 => ?_⟩
    obtain ⟨t2, rfl⟩ := dueRef hd2
    refine ⟨t2, _, rfl, dueD_dp hd2, sh.a, sh.b, sh.c, sh.d, rfl, _, rfl, ?_⟩
    exact iteF_of (by rw [decide_eq_true rfl]; rfl) ⟨(S4.trans S5).trans S6, _, rfl⟩
  · rintro σ H4 ⟨S4, o5, rfl⟩
    exact q H4 (s1.same ((S2.trans S3).trans S4)) (g1.same ((S2.trans S3).trans S4))
end
end WH

set_option maxHeartbeats 4000000
namespace WH
open PySem PySem.Spec PyProof.Rows L2
section
variable {P : Program} {w : World} {K : PySem.W.Frag} {mg : Str → Option Value} {base : Heap}
/-- alike outside of try, where the search ends early -/
theorem alike_due {H : Hp} {a1 a2 : Addr} {w1 w2 : WN} {s f : Int} {k : Nat} {Q : VK} (h1 : WaneAt K H a1 w1) (h2 : WaneAt K H a2 w2) (ok : okTwo w1 s w2 f) (en : Ends_ w1 w2 s f k) (lk : (run w1 w2 s f k).length ≤ 80)
    (q : ∀ o v H', Same H H' → IsDue w1 w2 s f 200 o → DueN H H' v o → Q v H') : spAlike K [.ref a1, .int s, .ref a2, .int f, .int 200] H Q C8.E0 := by
  refine ⟨a1, w1, s, a2, w2, f, 200, rfl, h1, h2, ok.s1, ok.s2, ok.f1, ok.f2, by decide, by decide, ?_, ?_, ?_⟩
  · intro k' row pp H8 t hk hc hrow hpp S8 ht
    exact q (.parted row) _ _ S8 (.parted hc hrow hpp hk) ⟨t, rfl, ht⟩
  · intro k' H8 t l us hc hk hkm S8 nl ht hl hus
    exact q (.alike (run w1 w2 s f k')) _ _ S8 (.alike hc hk hkm) ⟨t, l, us, rfl, nl, ht, hl, hus⟩
  · intro d H8 hc hm S8 hd
    have e := due_of en (.refused hc hm)
    have kl := en.le
    unfold due at e
    split at e
    · rw [if_pos (by omega)] at e; cases e
    · rw [if_pos (by omega)] at e; cases e
/-- what the law's own search tells -/
def FoundV (H : Hp) (v : V) (w1 : WN) (s : Int) (w2 : WN) (f : Int) : Prop := v = .non ∨ ∃ t l us k, v = .ref t ∧ H t = some (.tup [.ref l, .int (k : Nat)]) ∧ H l = some (.lst us) ∧ Paired (RowV H) us (run w1 w2 s f k) ∧ Ends_ w1 w2 s f k ∧ (run w1 w2 s f k).length ≤ 80
theorem DueN.mono {H0 H H' : Hp} (s : Same H H') {v : V} : ∀ {o : Due}, DueN H0 H v o → DueN H0 H' v o
  | .parted _, ⟨t, e, h⟩ => ⟨t, e, s _ _ h⟩
  | .alike _, ⟨t, l, us, e, n, h, h2, h3⟩ => ⟨t, l, us, e, n, s _ _ h, s _ _ h2, Paired.mapP h3 fun _ _ => RowV.tup (Tup.of s)⟩
  | .refused _, ⟨t, e, h⟩ => ⟨t, e, s _ _ h⟩
theorem two_shows {d1 d2 : PyData} (h1 : Few d1 300000) (h2 : Few d2 300000) : Shows (.list [d1, d2]) := by
  have c1 := h1.c
  have c2 := h2.c
  have w1 := h1.w
  have w2 := h2.w
  have hl : (PyData.list [d1, d2]).leavesShort 13 = true := by
    show (d1.leavesShort 13 && (d2.leavesShort 13 && true)) = true
    rw [h1.e, h2.e]; rfl
  have hw : (PyData.list [d1, d2]).weight ≤ 600002 := by
    show d1.weight + 1 + (d2.weight + 1 + 0) ≤ 600002
    omega
  refine ⟨?_, ?_, ?_, PyData.shown_fits (B := 13) (by decide) (by decide) hl (by omega)⟩
  · show (d1.showable && (d2.showable && true)) = true
    rw [h1.a, h2.a]; rfl
  · show (d1.hasDict || (d2.hasDict || false)) = false
    rw [h1.b, h2.b]; rfl
  · simp only [PyData.depth, PyData.depthAll]; omega
/-- a told one -/
def ToldT (tl : Addr) (H9 : Hp) (n : Nat) (H : Hp) (v : V) : Prop := ∃ t x y, v = .ref t ∧ H t = some (.tup [.str x, y]) ∧ (x = "alike" → ∃ l us, y = .ref l ∧ H9 l = none ∧ tl ≠ l ∧ H l = some (.lst us) ∧ us.length ≤ n)
theorem ToldT.upd {tl l : Addr} {H9 H : Hp} {n m : Nat} {v : V} {us us' : List V} (h : ToldT tl H9 n H v) (hl : H l = some (.lst us)) (hu : us'.length ≤ m) (hn : n ≤ m) : ToldT tl H9 m (upd H l (.lst us')) v := by
  obtain ⟨t, x, y, rfl, ht, g⟩ := h
  refine ⟨t, x, y, rfl, ?_, fun e => ?_⟩
  · rw [upd_ne (fun z => by rw [z, hl] at ht; cases ht)]; exact ht
  obtain ⟨l2, u2, rfl, n2, ne, h2, k2⟩ := g e
  by_cases z : l2 = l
  · subst z
    exact ⟨l2, us', rfl, n2, ne, upd_same, hu⟩
  · exact ⟨l2, u2, rfl, n2, ne, by rw [upd_ne z]; exact h2, by omega⟩
theorem DueN.told {tl : Addr} {H9 Hm HA : Hp} {v : V} {o : Due} (d : DueN H9 Hm v o) (few : fewDue o) (nl : Hm tl = none) (S : Same Hm HA) : ToldT tl H9 400 HA v := by
  cases o with
  | parted row => obtain ⟨t, e, h⟩ := d; exact ⟨t, _, _, e, S _ _ h, fun z => absurd z (by decide +kernel)⟩
  | refused m => obtain ⟨t, e, h⟩ := d; exact ⟨t, _, _, e, S _ _ h, fun z => absurd z (by decide +kernel)⟩
  | alike R =>
    obtain ⟨t, l, us, e, n9, h, h2, h3⟩ := d
    have := paired_len h3
    exact ⟨t, _, _, e, S _ _ h, fun _ => ⟨l, us, rfl, n9, (fun z => by rw [← z, nl] at h2; cases h2), S _ _ h2, by rw [this]; exact few.1⟩⟩
theorem calG__law_shared_right (T : Txt K mg) : GL.CalG P w K mg base 9 "_law_shared_right" spManyR [] := by
  obtain ⟨fd, F⟩ := T.f__law_shared_right
  refine ⟨_, fd, _, [], GL.okG F sc__law_shared_right (fun vs H Q E h => by obtain ⟨_, _, rfl, _⟩ := h; rfl) ?_, T.g__law_shared_right, F.kp, (F.bindsN fun _ _ _ _ _ _ us hl => match us, hl with | [_], _ => rfl), .nil⟩
  intro cdv A outer s H vs Q E hr gd h
  refine ⟨_, PSs.nox (pss_cons (ps_asg (C8.pe_c (cal__law_two T) hr (by decide) rfl (pa_cons (pv 0) (pa_cons pe_int pa_nil))) (pg_tup rfl (pgs_cons (pg_name (i := 1) sc__law_shared_right.nd rfl (by first | exact Or.inl rfl | exact Or.inr rfl)) (pgs_cons (pg_name (i := 2) sc__law_shared_right.nd rfl (by first | exact Or.inl rfl | exact Or.inr rfl)) (pgs_cons (pg_name (i := 3) sc__law_shared_right.nd rfl (by first | exact Or.inl rfl | exact Or.inr rfl)) (pgs_cons (pg_name (i := 4) sc__law_shared_right.nd rfl (by first | exact Or.inl rfl | exact Or.inr rfl)) pgs_nil)))))) (C8.pss_cut (ps_set (i := 5) sc__law_shared_right.nd rfl (by first | exact Or.inl rfl | exact Or.inr rfl) (NW.pe_lstN (pa_cons (pv 3) (pa_cons (pe_op NW.op_catTN (pe_slice NW.sl_tupN (pv 3) po_none (po_some pe_int)) (NW.pe_tupN (pa_cons (pe_op op_add (pe_ix ix_tup (pv 3) pe_int (fun _ _ => rfl)) pe_int) (pa_cons (pe_ix ix_tup (pv 3) pe_int (fun _ _ => rfl)) pa_nil)))) pa_nil)))) (pss_cons (ps_set (i := 6) sc__law_shared_right.nd rfl (by first | exact Or.inl rfl | exact Or.inr rfl) (C8.pe_c (cal__law_made T) hr (by decide) rfl (pa_cons (pv 1) pa_nil))) (C8.pss_cut (ps_setLc (i := 7) (own := [("_law_plan_here", 8)]) (by rfl) sc__law_shared_right.nd rfl rfl (sw_true rfl rfl rfl (by decide +kernel)) (pi_list (pv 5)) (blkOk_by (own := [("_law_plan_here", 8)]) (N := n__law_shared_right) (sc := defScope s__law_shared_right) (by decide +kernel)) (fun _ _ _ _ _ => (pg_name (i := 8) sc__law_shared_right.nd rfl (by first | exact Or.inl rfl | exact Or.inr rfl))) (fun _ _ _ _ _ => pts_nil) (fun _ _ _ _ _ => (C8.pe_c (cal__law_made T) hr (by decide) rfl (pa_cons (pv 8) pa_nil)))) (pss_cons (ps_for PassesOwn.never rfl (pi_tup (NW.pe_tupN (pa_cons pe_int (pa_cons pe_int (pa_cons pe_int pa_nil))))) (pg_name (i := 9) sc__law_shared_right.nd rfl (by first | exact Or.inl rfl | exact Or.inr rfl)) (C8.pss_cut (ps_set (i := 10) sc__law_shared_right.nd rfl (by first | exact Or.inl rfl | exact Or.inr rfl) (C8.pe_c (cal__law_all T) hr (by decide) rfl (pa_cons (NW.pe_tupN (pa_cons (pv 1) (pa_cons (pv 2) (pa_cons (pe_ix ix_list (pv 5) (pv 9) (fun _ _ => rfl)) (pa_cons (pv 4) pa_nil))))) (pa_cons pe_int pa_nil)))) (C8.pss_cut (ps_set (i := 11) sc__law_shared_right.nd rfl (by first | exact Or.inl rfl | exact Or.inr rfl) (C8.pe_c (cal__law_all T) hr (by decide) rfl (pa_cons (NW.pe_tupN (pa_cons (pe_ix ix_list (pv 5) (pv 9) (fun _ _ => rfl)) (pa_cons (pv 4) (pa_cons (pv 1) (pa_cons (pv 2) pa_nil))))) (pa_cons pe_int pa_nil)))) (pss_one (ps_if (PW.pt (pw_and (pt_cmpR op_notN (pv 10) pe_non (nomark _)) (pw_and1 (pt_cmpR op_notN (pv 11) pe_non (nomark _))))) (C8.pss_cut (ps_set (i := 12) sc__law_shared_right.nd rfl (by first | exact Or.inl rfl | exact Or.inr rfl) (NW.pe_lstN (pa_cons (pe_cNS (call_alike0 T) hr (by decide) rfl T.g_alike (fun σ => pass0At σ) (pa_cons (pv 6) (pa_cons (pv 2) (pa_cons (pe_ix ix_list (pv 7) (pv 9) (fun _ _ => rfl)) (pa_cons (pv 4) pa_nil)))) pk_nil) (pa_cons (pe_cNS (call_alike0 T) hr (by decide) rfl T.g_alike (fun σ => pass0At σ) (pa_cons (pe_ix ix_list (pv 7) (pv 9) (fun _ _ => rfl)) (pa_cons (pv 4) (pa_cons (pv 6) (pa_cons (pv 2) pa_nil)))) pk_nil) pa_nil)))) (C8.pss_cut (ps_if (pt_cmpR op_ne (pe_callB (GL.call_reprD gd hr.units) (by rfl) T.b_repr (by decide +kernel) (pa_cons (pv 12) pa_nil)) (pe_callB (GL.call_reprD gd hr.units) (by rfl) T.b_repr (by decide +kernel) (pa_cons (NW.pe_lstN (pa_cons (C8.pe_c (cal__law_due T) hr (by decide) rfl (pa_cons (pe_ix ix_tup (pv 10) pe_int (fun _ _ => rfl)) (pa_cons (pe_ix ix_tup (pv 10) pe_int (fun _ _ => rfl)) (pa_cons pe_int pa_nil)))) (pa_cons (C8.pe_c (cal__law_due T) hr (by decide) rfl (pa_cons (pe_ix ix_tup (pv 11) pe_int (fun _ _ => rfl)) (pa_cons (pe_ix ix_tup (pv 11) pe_int (fun _ _ => rfl)) (pa_cons pe_int pa_nil)))) pa_nil))) pa_nil)) (nomark _)) (pss_one (ps_ret pe_bl)) pss_nil) (pss_one (ps_for PassesOwn.never rfl (pi_list (pv 12)) (pg_name (i := 13) sc__law_shared_right.nd rfl (by first | exact Or.inl rfl | exact Or.inr rfl)) (pss_one (ps_if (pt_cmpR op_eq (pe_ix ix_tup (pv 13) pe_int (fun _ _ => rfl)) pe_str (nomark _)) (pss_cons (ps_expr (pe_bm0 PySem.F.plainAttrs_list PySem.F.slot_list_reverse PySem.F.type_list_reverse mt_reverse (pe_ix ix_tup (pv 13) pe_int (fun _ _ => rfl)))) (pss_one (ps_expr (pe_bm PySem.F.plainAttrs_list PySem.F.slot_list_append PySem.F.type_list_append mt_append (pe_ix ix_tup (pv 13) pe_int (fun _ _ => rfl)) (pa_cons pe_non pa_nil))))) pss_nil)))))) pss_nil))))) (pss_one (ps_ret pe_bl))))))), ?_⟩
  obtain ⟨b, c, rfl, g, q⟩ := h
  refine ⟨_, rfl, b, c, 8, rfl, by decide, by decide, g, fun v w1 s w2 f H1 s1 g1 hv ok hlf => ?_⟩
  obtain ⟨p, v1, v2, rfl, hp, p1, p2⟩ := id hv
  refine ⟨p, _, rfl, SqT.of hp, rfl, _, _, rfl, _, _, rfl, _, _, rfl, _, _, rfl, rfl, ?_⟩
  obtain ⟨r2, ah, at_, rfl, h2, sh, sT⟩ := id p2
  have l2 := ok.b.l2
  refine ⟨fun σ H' => ∃ pl x3 w3, Same H1 H' ∧ H' pl = some (.lst [.ref r2, x3]) ∧ PlanV H' x3 w3 ∧ okW w3 ∧ w3.cap = w2.cap ∧ σ = [some (.ref b), some v1, some (.int s), some (.ref r2), some (.int f), some (.ref pl), none, none, none, none, none, none, none, none], ?_, ?_⟩
  · refine ⟨_, rfl, _, rfl, _, rfl, r2, _, rfl, SqT.of h2, (show ¬ (HT.sIx 5 0 none = 0 ∧ HT.sIx 5 5 (some 3) = 5) by decide), fun t1 A1 n1 T1 e1 => ?_⟩
    have h2a := T1 _ _ h2
    refine ⟨_, rfl, r2, _, _, _, rfl, rfl, SqT.of h2a, rfl, _, _, rfl, rfl, _, rfl, r2, _, _, _, rfl, rfl, SqT.of h2a, rfl, by show 2 ≤ sizeLine; decide, fun t2 A2 n2 T2 e2 => ?_⟩
    refine ⟨t1, t2, _, _, rfl, rfl, SqT.of (T2 _ _ e1), SqT.of e2, by simp [cutV, HT.sIx], by show 5 ≤ sizeLine; decide, fun e => (by cases e), fun _ t3 A3 n3 T3 e3 => ⟨by show 2 ≤ sizeLine; decide, fun pl A4 n4 T4 e4 => ?_⟩⟩
    have S4 := ((T1.trans T2).trans T3).trans T4
    refine ⟨pl, .ref t3, ⟨w2.head, w2.tail, w2.cap, w2.lift + 1, w2.anew⟩, S4, e4, ⟨t3, ah, at_, rfl, T4 _ _ e3, sh.mono S4, sT.mono S4⟩, ⟨ok.b.h, ok.b.hl, ok.b.t, ok.b.tl, ok.b.c1, ok.b.c2, ?_, ?_⟩, rfl, rfl⟩
    · have := ok.b.l1
      show 0 ≤ w2.lift + 1; omega
    · show w2.lift + 1 ≤ 1000000000; omega
  rintro σ H2 ⟨pl, x3, w3, S2, hpl, p3, k3, c3, rfl⟩
  refine ⟨_, rfl, v1, w1, rfl, p1.mono S2, ok.a, fun m1 H3 S3 hm _ => ?_⟩
  have p3 := p3.mono S3
  have hpl3 := S3 _ _ hpl
  have S13 := S2.trans S3
  have p2a : PlanV H3 (.ref r2) w2 := p2.mono S13
  refine ⟨fun σ H' => ∃ wl a2 a3, Same H3 H' ∧ H' wl = some (.lst [.ref a2, .ref a3]) ∧ WaneAt K H' a2 w2 ∧ WaneAt K H' a3 w3 ∧ σ = [some (.ref b), some v1, some (.int s), some (.ref r2), some (.int f), some (.ref pl), some (.ref m1), some (.ref wl), none, none, none, none, none, none], ?_, ?_⟩
  · refine ⟨_, rfl, pl, rfl, ⟨_, SqL.of hpl3⟩, fun D nD => ?_⟩
    refine lc_it (walk_list (xs := [.ref r2, x3])) (fun i H' => Same H3 H' ∧ ∃ as : List (Addr × WN), H' D = some (.lst (as.map fun a => .ref a.1)) ∧ as.map (·.2) = [w2, w3].take i ∧ ∀ a ∈ as, WaneN K D H' a.1 a.2) ⟨same_new nD, [], upd_same, rfl, (fun _ h => by simp at h)⟩ (fun i H' _ h => SqL.of (h.1 _ _ hpl3)) ?_ ?_
    · rintro i x H4 H5 hi ⟨S4, as, hD, ha, hw⟩ ⟨rfl, hy⟩
      obtain ⟨wi, hpi, oki, ei⟩ : ∃ wi, PlanV H5 x wi ∧ okW wi ∧ [w2, w3][i]? = some wi := by
        match i, hy with
        | 0, hy =>
          obtain rfl : V.ref r2 = x := by simpa using hy
          exact ⟨w2, p2a.mono S4, ok.b, rfl⟩
        | 1, hy =>
          obtain rfl : x3 = x := by simpa using hy
          exact ⟨w3, p3.mono S4, k3, rfl⟩
        | n + 2, hy => simp at hy
      have la : as.length ≤ 2 := by have := congrArg List.length ha; rw [List.length_map, List.length_take] at this; simp at this; omega
      refine ⟨rfl, _, rfl, x, wi, rfl, hpi, oki, fun a H6 S6 _ hn => ?_⟩
      have hD6 := S6 _ _ hD
      refine ⟨_, hD6, by rw [List.length_map]; exact small1000 (by omega), Same.mut (S4.trans S6) nD, as ++ [(a, wi)], by rw [upd_same, List.map_append]; rfl, ?_, fun z hz => ?_⟩
      · rw [List.map_append, ha, take_snoc ei]; rfl
      · rcases List.mem_append.mp hz with hz | hz
        · exact ((hw z hz).mono S6).updL hD6
        · rw [List.mem_singleton.mp hz]
          exact (hn D (by rw [hD]; simp)).updL hD6
    · rintro H4 ⟨S4, as, hD, ha, hw⟩
      have la : as.length = 2 := by have := congrArg List.length ha; simpa using this
      match as, la with
      | [(a2, y2), (a3, y3)], _ =>
        simp at ha
        obtain ⟨rfl, rfl⟩ := ha
        exact ⟨D, a2, a3, S4, hD, (hw (a2, y2) (by simp)).at_, (hw (a3, y3) (by simp)).at_, rfl⟩
  rintro σ H4 ⟨wl, a2, a3, S4, hwl, h2w, h3w, rfl⟩
  have S14 := S13.trans S4
  refine ⟨by show 3 ≤ sizeLine; decide, fun tp H5 n5 S5 e5 => ⟨tp, rfl, ⟨_, SqT.of e5⟩, ?_⟩⟩
  have S15 := S14.trans S5
  refine for_it (walk_tup (xs := [.int 0, .int 1, .int 0])) (fun i σ H' => Same H5 H' ∧ ∃ o8 o9 o10 o11 o12 o13, σ = [some (.ref b), some v1, some (.int s), some (.ref r2), some (.int f), some (.ref pl), some (.ref m1), some (.ref wl), o8, o9, o10, o11, o12, o13]) ⟨Same.refl _, _, _, _, _, _, _, rfl⟩ (fun i σ H' _ h => SqT.of (h.1 _ _ e5)) ?_ ?_
  · rintro i x σ H6 H7 hi ⟨S6, o8, o9, o10, o11, o12, o13, rfl⟩ ⟨rfl, hy⟩
    have S16 := S15.trans S6
    have S36 := (S4.trans S5).trans S6
    have S46 := S5.trans S6
    obtain ⟨tn, xv, wv, av, ex, l2', l3', pv', kv, cv, hav⟩ : ∃ (tn : Nat) (xv : V) (wv : WN) (av : Addr), x = .int (tn : Nat) ∧ [V.ref r2, x3][tn]? = some xv ∧ [V.ref a2, .ref a3][tn]? = some (.ref av) ∧ PlanV H7 xv wv ∧ okW wv ∧ wv.cap = w2.cap ∧ WaneAt K H7 av wv := by
      have z0 : ∃ (tn : Nat) (xv : V) (wv : WN) (av : Addr), V.int 0 = .int (tn : Nat) ∧ [V.ref r2, x3][tn]? = some xv ∧ [V.ref a2, .ref a3][tn]? = some (.ref av) ∧ PlanV H7 xv wv ∧ okW wv ∧ wv.cap = w2.cap ∧ WaneAt K H7 av wv := ⟨0, _, w2, a2, rfl, rfl, rfl, p2a.mono S36, ok.b, rfl, h2w.mono S46⟩
      match i, hy with
      | 0, hy => obtain rfl : V.int 0 = x := by simpa using hy
                 exact z0
      | 1, hy => obtain rfl : V.int 1 = x := by simpa using hy
                 exact ⟨1, _, w3, a3, rfl, rfl, rfl, p3.mono S36, k3, c3, h3w.mono S46⟩
      | 2, hy => obtain rfl : V.int 0 = x := by simpa using hy
                 exact z0
      | n + 3, hy => simp at hy
    subst ex
    have okA : okTwo w1 s wv f := ⟨ok.a, kv, ok.s1, ok.s2, ok.f1, by rw [cv]; exact ok.f2⟩
    have okB : okTwo wv f w1 s := ⟨kv, ok.a, ok.f1, by rw [cv]; exact ok.f2, ok.s1, ok.s2⟩
    have hpl7 := S36 _ _ hpl3
    have hwl7 := S46 _ _ hwl
    have p17 := p1.mono S16
    refine ⟨fun σ H' => ∃ y, σ = [some (.ref b), some v1, some (.int s), some (.ref r2), some (.int f), some (.ref pl), some (.ref m1), some (.ref wl), o8, some (.int (tn : Nat)), some y, o11, o12, o13] ∧ Same H7 H' ∧ FoundV H' y w1 s wv f, ?_, ?_⟩
    · refine ⟨_, rfl, _, rfl, _, rfl, _, rfl, pl, _, tn, _, rfl, rfl, SqL.of hpl7, atI_nat l2', _, rfl, by show 4 ≤ sizeLine; decide, fun t1 A1 n1 T1 e1 => ?_⟩
      refine ⟨.ref t1, w1, s, wv, f, 80, rfl, ⟨t1, _, _, rfl, e1, p17.mono T1, pv'.mono T1⟩, okA, by decide, by decide, fun A2 U2 => ⟨_, rfl, T1.trans U2, .inl rfl⟩, fun k t l us A2 en lk U2 ht hl hus => ⟨_, rfl, T1.trans U2, .inr ⟨t, l, us, k, rfl, ht, hl, hus, en, lk⟩⟩⟩
    rintro σ H8 ⟨y, rfl, S8, fy⟩
    refine ⟨fun σ H' => ∃ z, σ = [some (.ref b), some v1, some (.int s), some (.ref r2), some (.int f), some (.ref pl), some (.ref m1), some (.ref wl), o8, some (.int (tn : Nat)), some y, some z, o12, o13] ∧ Same H8 H' ∧ FoundV H' z wv f w1 s, ?_, ?_⟩
    · refine ⟨_, rfl, _, rfl, pl, _, tn, _, rfl, rfl, SqL.of (S8 _ _ hpl7), atI_nat l2', _, rfl, _, rfl, _, rfl, by show 4 ≤ sizeLine; decide, fun t1 A1 n1 T1 e1 => ?_⟩
      refine ⟨.ref t1, wv, f, w1, s, 80, rfl, ⟨t1, _, _, rfl, e1, (pv'.mono S8).mono T1, (p17.mono S8).mono T1⟩, okB, by decide, by decide, fun A2 U2 => ⟨_, rfl, T1.trans U2, .inl rfl⟩, fun k t l us A2 en lk U2 ht hl hus => ⟨_, rfl, T1.trans U2, .inr ⟨t, l, us, k, rfl, ht, hl, hus, en, lk⟩⟩⟩
    rintro σ H9 ⟨z, rfl, S9, fz⟩
    have S69 : Same H7 H9 := S8.trans S9
    have g9 := (s1.same (S16.trans S69))
    refine ⟨_, rfl, rfl, _, rfl, ite2 (fun n1 => ?_) fun n1 => ?_⟩
    · refine ⟨_, rfl, rfl, _, rfl, ite2 (fun n2 => ?_) fun n2 => ?_⟩
      · rcases fy with rfl | ⟨ty, ly, uy, ky, rfl, hty, hly, huy, eny, ky80⟩
        · exact absurd n1 (by decide)
        rcases fz with rfl | ⟨tz, lz, uz, kz, rfl, htz, hlz, huz, enz, kz80⟩
        · exact absurd n2 (by decide)
        have hm9 : WaneAt K H9 m1 w1 := (hm.mono S36).mono S69
        have hav9 := hav.mono S69
        have hwl9 := S69 _ _ hwl7
        refine ⟨fun σ H' => ∃ tl x1 x2 o1 o2 Hm, σ = [some (.ref b), some v1, some (.int s), some (.ref r2), some (.int f), some (.ref pl), some (.ref m1), some (.ref wl), o8, some (.int (tn : Nat)), some (.ref ty), some (.ref tz), some (.ref tl), o13] ∧ Same H9 Hm ∧ Same Hm H' ∧ Hm tl = none ∧ H' tl = some (.lst [x1, x2]) ∧ IsDue w1 wv s f 200 o1 ∧ IsDue wv w1 f s 200 o2 ∧ DueN H9 Hm x1 o1 ∧ DueN H9 Hm x2 o2, ?_, ?_⟩
        · refine ⟨_, rfl, _, rfl, _, rfl, _, rfl, wl, _, tn, _, rfl, rfl, SqL.of hwl9, atI_nat l3', _, rfl, rfl, rfl, ?_⟩
          refine alike_due hm9 hav9 okA eny ky80 fun o1 x1 A1 T1 io1 d1 => ?_
          refine ⟨_, rfl, _, rfl, wl, _, tn, _, rfl, rfl, SqL.of (T1 _ _ hwl9), atI_nat l3', _, rfl, _, rfl, _, rfl, rfl, rfl, ?_⟩
          refine alike_due (hav9.mono T1) (hm9.mono T1) okB enz kz80 fun o2 x2 A2 T2 io2 d2 => ?_
          refine ⟨by show 2 ≤ sizeLine; decide, fun tl A3 n3 T3 e3 => ⟨tl, x1, x2, o1, o2, A2, rfl, T1.trans T2, T3, n3, e3, io1, io2, d1.mono T2, d2.up T1⟩⟩
        rintro σ HA ⟨tl, x1, x2, o1, o2, Hm, rfl, Sm, SA, nl, hl, io1, io2, d1, d2⟩
        have S9A := Sm.trans SA
        have sh := two_shows (dueD_few (isDue_few okA (by decide) io1)) (dueD_few (isDue_few okB (by decide) io2))
        refine ⟨fun σ H' => σ = [some (.ref b), some v1, some (.int s), some (.ref r2), some (.int f), some (.ref pl), some (.ref m1), some (.ref wl), o8, some (.int (tn : Nat)), some (.ref ty), some (.ref tz), some (.ref tl), o13] ∧ Same HA H', ?_, ?_⟩
        · refine ⟨_, rfl, tl, .list [dueD o1, dueD o2], rfl, .lst (SqL.of hl) (.cons (dueD_dp (d1.v.mono SA)) (.cons (dueD_dp (d2.v.mono SA)) .nil)), sh.a, sh.b, sh.c, sh.d, ?_⟩
          have T8 : Same H8 HA := S9.trans S9A
          refine ⟨_, rfl, ty, _, _, _, rfl, rfl, SqT.of (T8 _ _ hty), rfl, _, rfl, ty, _, _, _, rfl, rfl, SqT.of (T8 _ _ hty), rfl, w1, wv, s, f, ly, uy, ky, 200, rfl, T8 _ _ hly, Paired.mapP huy fun _ _ => RowV.tup (Tup.of T8), eny, fun e1 A1 T1 q1 => ?_⟩
          have T9 : Same H9 A1 := S9A.trans T1
          refine ⟨_, rfl, tz, _, _, _, rfl, rfl, SqT.of (T9 _ _ htz), rfl, _, rfl, tz, _, _, _, rfl, rfl, SqT.of (T9 _ _ htz), rfl, wv, w1, f, s, lz, uz, kz, 200, rfl, T9 _ _ hlz, Paired.mapP huz fun _ _ => RowV.tup (Tup.of T9), enz, fun e2 A2 T2 q2 => ?_⟩
          refine ⟨by show 2 ≤ sizeLine; decide, fun t2 A3 n3 T3 e3 => ?_⟩
          obtain rfl := due_of eny io1
          obtain rfl := due_of enz io2
          refine ⟨t2, .list [dueD (due w1 wv s f ky 200), dueD (due wv w1 f s kz 200)], rfl, .lst (SqL.of e3) (.cons (dueD_dp (q1.mono (T2.trans T3))) (.cons (dueD_dp (q2.mono T3)) .nil)), sh.a, sh.b, sh.c, sh.d, ?_⟩
          exact ⟨rfl, _, rfl, iteF_of (by rw [decide_eq_true rfl]; rfl) ⟨rfl, (T1.trans T2).trans T3⟩⟩
        rintro σ HB ⟨rfl, SB⟩
        have ab : Same Hm HB := SA.trans SB
        have t1 := d1.told (isDue_few okA (by decide) io1) nl ab
        have t2 := d2.told (isDue_few okB (by decide) io2) nl ab
        refine ⟨_, rfl, tl, rfl, ⟨_, SqL.of (SB _ _ hl)⟩, ?_⟩
        refine for_list (K := K) (a := tl) (xs := [x1, x2]) (fun i σ H' => Same H9 H' ∧ H' tl = some (.lst [x1, x2]) ∧ (∀ v ∈ [x1, x2], ToldT tl H9 (400 + i) H' v) ∧ ∃ o13, σ = [some (.ref b), some v1, some (.int s), some (.ref r2), some (.int f), some (.ref pl), some (.ref m1), some (.ref wl), o8, some (.int (tn : Nat)), some (.ref ty), some (.ref tz), some (.ref tl), o13]) ⟨S9A.trans SB, SB _ _ hl, fun v hv => ?_, _, rfl⟩ (fun i σ H' _ h => SqL.of h.2.1) ?_ ?_
        · simp only [List.mem_cons, List.not_mem_nil, or_false] at hv
          rcases hv with rfl | rfl
          · exact t1
          · exact t2
        · rintro i' x' σ HC hi' ⟨SC, hC, al, o13, rfl⟩
          have hx := al x' (List.mem_of_getElem? hi')
          obtain ⟨t, x, y, rfl, ht, al1⟩ := id hx
          refine ⟨_, rfl, t, _, _, _, rfl, rfl, SqT.of ht, rfl, rfl, _, rfl, ite2 (fun c1 => ?_) fun c1 => ?_⟩
          · have c1 : x = "alike" := by have := of_decide_eq_true c1; injection this
            obtain ⟨l, us, rfl, n9, ne, hl2, k2⟩ := al1 c1
            refine ⟨_, rfl, t, _, _, _, rfl, rfl, SqT.of ht, rfl, .inl ⟨rfl, _, SqL.of hl2⟩, l, us, rfl, rfl, hl2, ?_⟩
            have ht' : upd HC l (.lst us.reverse) t = some (.tup [.str x, .ref l]) := by rw [upd_ne (fun z => by rw [z, hl2] at ht; cases ht)]; exact ht
            refine ⟨_, rfl, t, _, _, _, rfl, rfl, SqT.of ht', rfl, .inl ⟨rfl, _, SqL.of upd_same⟩, l, us.reverse, .non, rfl, rfl, upd_same, ?_, ?_⟩
            · have : us.reverse.length = us.length := List.length_reverse
              have hi2 : i' < 2 := (List.getElem?_eq_some_iff.mp hi').1
              exact small5 (by omega)
            · refine ⟨Same.mut (Same.mut SC n9) n9, ?_, fun v hv => ?_, _, rfl⟩
              · rw [upd_ne ne, upd_ne ne]; exact hC
              · refine ToldT.upd (n := 400 + i') (ToldT.upd (m := 400 + i') (al v hv) hl2 (by rw [List.length_reverse]; exact k2) (by omega)) upd_same ?_ (by omega)
                rw [List.length_append, List.length_reverse]
                show us.length + 1 ≤ 400 + (i' + 1)
                omega
          · exact ⟨SC, hC, fun v hv => by obtain ⟨t, x, y, e, h, g⟩ := al v hv; exact ⟨t, x, y, e, h, fun z => by obtain ⟨l, us, a1, a2, a3, a4, a5⟩ := g z; exact ⟨l, us, a1, a2, a3, a4, by omega⟩⟩, _, rfl⟩
        · rintro σ HC ⟨SC, _, _, o13, rfl⟩
          exact ⟨(S6.trans S69).trans SC, _, _, _, _, _, _, rfl⟩
      · exact ⟨S6.trans S69, _, _, _, _, _, _, rfl⟩
    · exact iteF ⟨S6.trans S69, _, _, _, _, _, _, rfl⟩
  · rintro σ H6 ⟨S6, _⟩
    exact q H6 (s1.same (S15.trans S6)) (g1.same (S15.trans S6))
end
end WH

set_option maxHeartbeats 4000000
namespace WH
open PySem PySem.Spec PyProof.Rows L2
section
variable {P : Program} {w : World} {K : PySem.W.Frag} {mg : Str → Option Value} {base : Heap}
theorem But.tup {H H' : Hp} {b c : Addr} (g : Bag H b c) (s : But b H H') : Tup H H' := fun a vs h => s a _ (fun z => by
  obtain ⟨_, _, _, _, g⟩ := g
  rw [z, g.b] at h; cases h) h
theorem Bag.nrow {H : Hp} {b c l : Addr} {us : List V} {R : List Row} (g : Bag H b c) (h : H l = some (.lst us)) (p : Paired (RowV H) us R) : l ≠ b := fun z => by
  obtain ⟨_, _, _, _, g⟩ := g
  rw [z, g.b] at h
  cases h
  cases p with | cons r _ => obtain ⟨_, _, _, e, _⟩ := r; cases e
theorem DueV.but {H H' : Hp} {b c : Addr} (g : Bag H b c) (s : But b H H') {v : V} : ∀ {o : Due}, DueV H v o → DueV H' v o
  | .parted _, ⟨t, e, h⟩ => ⟨t, e, But.tup g s _ _ h⟩
  | .alike _, ⟨t, l, us, e, h, h2, h3⟩ => ⟨t, l, us, e, But.tup g s _ _ h, s _ _ (g.nrow h2 h3) h2, Paired.mapP h3 fun _ _ => RowV.tup (But.tup g s)⟩
  | .refused _, ⟨t, e, h⟩ => ⟨t, e, But.tup g s _ _ h⟩
theorem Bag.nc {H : Hp} {b c p : Addr} (g : Bag H b c) (n : H p = none) : p ≠ c := fun z => by
  obtain ⟨_, _, _, _, g⟩ := g
  rw [z, g.c] at n; cases n
theorem But.free {H H' : Hp} {b c p : Addr} (g : Bag H' b c) (s : But b H H') (n : H' p = none) : H p = none := by
  cases h : H p with
  | none => rfl
  | some o => rw [s p o (g.nb n) h] at n; cases n
theorem DueN.tld {H9 Hm : Hp} {v : V} {o : Due} (d : DueN H9 Hm v o) : ∃ t x y, v = .ref t ∧ Hm t = some (.tup [.str x, y]) ∧ (x = "alike" → ∃ l us, y = .ref l ∧ H9 l = none ∧ Hm l = some (.lst us)) := by
  cases o with
  | parted row => obtain ⟨t, e, h⟩ := d; exact ⟨t, _, _, e, h, fun z => absurd z (by decide +kernel)⟩
  | refused m => obtain ⟨t, e, h⟩ := d; exact ⟨t, _, _, e, h, fun z => absurd z (by decide +kernel)⟩
  | alike R =>
    obtain ⟨t, l, us, e, n9, h, h2, h3⟩ := d
    exact ⟨t, _, _, e, h, fun _ => ⟨l, us, rfl, n9, h2⟩⟩
def spLaw (K : PySem.W.Frag) : Sp := fun vs H Q _ => ∃ (a : Addr) (ns : List Int), vs = [.ref a] ∧ SqL K H a (ns.map V.int) ∧ ∀ H', Q (.bl true) H'
theorem fn_law (T : Txt K mg) {fd : FuncData} (F : FD K d_law fd) : GL.FnG P w K mg base C8.CX0 11 (He.fAd K d_law.at_) fd ["_law_script"] (spLaw K) := by
  refine GL.okG F sc_law (fun vs H Q E h => by obtain ⟨_, _, rfl, _⟩ := h; rfl) fun cdv A outer s H vs Q E hr gd h => ?_
  refine ⟨_, PSs.nox ((pss_cons (ps_set (i := 1) sc_law.nd rfl (by first | exact Or.inl rfl | exact Or.inr rfl) (C8.pe_c (cal__law_bag T) hr (by decide) rfl (pa_cons (pv 0) pa_nil))) (C8.pss_cut (ps_if (PW.pt (pw_or (PW.pt (pw_and (pt_cmpR op_eq (C8.pe_c (cal__law_take T) hr (by decide) rfl (pa_cons (pv 1) (pa_cons pe_int pa_nil))) pe_int (nomark _)) (pw_and1 (pt_not (pt_val (GL.pe_cG (calG__law_many_right T) hr (by decide) gd rfl (pa_cons (pv 1) pa_nil))))))) (pw_or1 (pt_not (pt_val (GL.pe_cG (calG__law_shared_right T) hr (by decide) gd rfl (pa_cons (pv 1) pa_nil))))))) (pss_one (ps_ret pe_bl)) pss_nil) (pss_cons (ps_for PassesOwn.never rfl (pi_range1 (by rfl) T.b_range (pa_cons pe_int pa_nil)) (pg_name (i := 2) sc_law.nd rfl (by first | exact Or.inl rfl | exact Or.inr rfl)) (pss_cons (ps_set (i := 3) sc_law.nd rfl (by first | exact Or.inl rfl | exact Or.inr rfl) (C8.pe_c (cal__law_two T) hr (by decide) rfl (pa_cons (pv 1) (pa_cons pe_int pa_nil)))) (C8.pss_cut (ps_if (pt_cmpR op_eq (C8.pe_c (cal__law_take T) hr (by decide) rfl (pa_cons (pv 1) (pa_cons pe_int pa_nil))) pe_int (nomark _)) (pss_one (ps_set (i := 3) sc_law.nd rfl (by first | exact Or.inl rfl | exact Or.inr rfl) (pe_ix ix_list (NW.pe_lstN (pa_cons (C8.pe_c (cal__law_far_two T) hr (by decide) rfl (pa_cons (pv 1) pa_nil)) (pa_cons (C8.pe_c (cal__law_long T) hr (by decide) rfl (pa_cons (pv 1) pa_nil)) pa_nil))) (C8.pe_c (cal__law_take T) hr (by decide) rfl (pa_cons (pv 1) (pa_cons pe_int pa_nil))) (fun _ _ => rfl)))) pss_nil) (pss_cons (ps_set (i := 4) sc_law.nd rfl (by first | exact Or.inl rfl | exact Or.inr rfl) (C8.pe_c (cal__law_all T) hr (by decide) rfl (pa_cons (pv 3) (pa_cons pe_int pa_nil)))) (pss_one (ps_if (pt_cmpR op_notN (pv 4) pe_non (nomark _)) (pss_cons (ps_asg (pv 4) (pg_tup rfl (pgs_cons (pg_name (i := 5) sc_law.nd rfl (by first | exact Or.inl rfl | exact Or.inr rfl)) (pgs_cons (pg_name (i := 6) sc_law.nd rfl (by first | exact Or.inl rfl | exact Or.inr rfl)) pgs_nil)))) (pss_cons (ps_set (i := 7) sc_law.nd rfl (by first | exact Or.inl rfl | exact Or.inr rfl) (pe_callB (call_min2 rfl) (by rfl) T.b_min (by decide +kernel) (pa_cons (pe_callB call_len (by rfl) T.b_len (by decide +kernel) (pa_cons (pv 5) pa_nil)) (pa_cons (pe_op op_add (pv 6) pe_int) pa_nil)))) (pss_one (ps_for PassesOwn.never rfl (pi_list (NW.pe_lstN (pa_cons (pv 7) (pa_cons (pe_callB (call_max2 rfl) (by rfl) T.b_max (by decide +kernel) (pa_cons pe_int (pa_cons (pe_op op_sub (pv 7) pe_int) pa_nil))) (pa_cons (pe_op op_add (pv 7) pe_int) (pa_cons (pe_ix ix_list (NW.pe_lstN (pa_cons pe_int (pa_cons pe_int pa_nil))) (C8.pe_c (cal__law_take T) hr (by decide) rfl (pa_cons (pv 1) (pa_cons pe_int pa_nil))) (fun _ _ => rfl)) pa_nil)))))) (pg_name (i := 8) sc_law.nd rfl (by first | exact Or.inl rfl | exact Or.inr rfl)) (pss_cons (ps_set (i := 9) sc_law.nd rfl (by first | exact Or.inl rfl | exact Or.inr rfl) (C8.pe_c (cal__law_due T) hr (by decide) rfl (pa_cons (pv 5) (pa_cons (pv 6) (pa_cons (pv 8) pa_nil))))) (pss_one (ps_for PassesOwn.never rfl (pi_range1 (by rfl) T.b_range (pa_cons (pe_op op_add pe_int (C8.pe_c (cal__law_take T) hr (by decide) rfl (pa_cons (pv 1) (pa_cons pe_int pa_nil)))) pa_nil)) (pg_name (i := 10) sc_law.nd rfl (by first | exact Or.inl rfl | exact Or.inr rfl)) (pss_cons (ps_set (i := 11) sc_law.nd rfl (by first | exact Or.inl rfl | exact Or.inr rfl) (C8.pe_c (cal__law_told T) hr (by decide) rfl (pa_cons (pv 3) (pa_cons (pv 8) pa_nil)))) (pss_cons (ps_if (pt_cmpR op_ne (pe_callB (GL.call_reprD gd hr.units) (by rfl) T.b_repr (by decide +kernel) (pa_cons (pv 11) pa_nil)) (pe_callB (GL.call_reprD gd hr.units) (by rfl) T.b_repr (by decide +kernel) (pa_cons (pv 9) pa_nil)) (nomark _)) (pss_one (ps_ret pe_bl)) pss_nil) (pss_one (ps_if (pt_cmpR op_eq (pe_ix ix_tup (pv 11) pe_int (fun _ _ => rfl)) pe_str (nomark _)) (pss_one (ps_expr (pe_bm0 PySem.F.plainAttrs_list PySem.F.slot_list_clear PySem.F.type_list_clear mt_clear (pe_ix ix_tup (pv 11) pe_int (fun _ _ => rfl))))) pss_nil))))))))))) pss_nil)))))) (pss_one (ps_ret pe_bl)))))), ?_⟩
  obtain ⟨a, ns, rfl, hs, q⟩ := h
  refine ⟨_, rfl, a, ns, rfl, hs, fun b c H1 S1 nb g1 => ?_⟩
  refine ⟨fun σ H' => σ = [some (.ref a), some (.ref b), none, none, none, none, none, none, none, none, none, none] ∧ Bag H' b c, ?_, ?_⟩
  · refine ⟨_, rfl, b, c, 4, rfl, g1, by decide, by decide, fun v H2 a1 a2 s2 g2 => ⟨rfl, _, rfl, ite2 (fun _ => ?_) fun _ => ?_⟩⟩
    · refine ⟨_, rfl, b, c, rfl, g2, fun H3 s3 g3 => ⟨true, rfl, iteF ?_⟩⟩
      exact ⟨_, rfl, b, c, rfl, g3, fun H4 s4 g4 => ⟨true, rfl, iteF ⟨rfl, g4⟩⟩⟩
    · exact ⟨_, rfl, b, c, rfl, g2, fun H4 s4 g4 => ⟨true, rfl, iteF ⟨rfl, g4⟩⟩⟩
  rintro σ H2 ⟨rfl, g2⟩
  refine ⟨_, rfl, by decide, by decide, for_it walk_range (fun i σ H' => Bag H' b c ∧ ∃ o2 o3 o4 o5 o6 o7 o8 o9 o10 o11, σ = [some (.ref a), some (.ref b), o2, o3, o4, o5, o6, o7, o8, o9, o10, o11]) ⟨g2, _, _, _, _, _, _, _, _, _, _, rfl⟩ (fun _ _ _ _ _ => trivial) ?_ ?_⟩
  · rintro i x σ H9 H3 hi ⟨g3, o2, o3, o4, o5, o6, o7, o8, o9, o10, o11, rfl⟩ ⟨rfl, rfl⟩
    refine ⟨_, rfl, b, c, 8, rfl, by decide, by decide, g3, fun v w1 s w2 f H4 s4 g4 hv ok hl_ => ?_⟩
    refine ⟨fun σ H' => ∃ v w1 s w2 f, σ = [some (.ref a), some (.ref b), some (.int (0 + i)), some v, o4, o5, o6, o7, o8, o9, o10, o11] ∧ Bag H' b c ∧ TwoV H' v w1 s w2 f ∧ okTwo w1 s w2 f, ?_, ?_⟩
    · refine ⟨_, rfl, b, c, 3, rfl, g4, by decide, by decide, fun v2 H7 b1 b2 s7 g7 => ⟨rfl, _, rfl, ite2 (fun _ => ?_) fun _ => ?_⟩⟩
      · refine ⟨_, rfl, b, c, rfl, g7, fun x3 w3 n3 w4 f3 A1 t1 h1 hv3 ok3 => ⟨_, rfl, b, c, rfl, h1, fun x4 w5 n4 w6 f4 A2 t2 h2 hv4 ok4 => ⟨by show 2 ≤ sizeLine; decide, fun ll A3 n5 T3 e3 => ?_⟩⟩⟩
        refine ⟨_, rfl, b, c, 2, rfl, h2.same T3, by decide, by decide, fun v5 A4 z0 z1 t4 h4 => ?_⟩
        have e4 := t4 _ _ (h2.nb n5) e3
        have k3 := (hv3.but h1 t2).mono T3 |>.but (h2.same T3) t4
        have k4 := hv4.mono T3 |>.but (h2.same T3) t4
        have hz : v5 = 0 ∨ v5 = 1 := by omega
        rcases hz with rfl | rfl
        · exact ⟨ll, _, _, _, rfl, rfl, SqL.of e4, rfl, x3, w3, n3, w4, f3, rfl, h4, k3, ok3⟩
        · exact ⟨ll, _, _, _, rfl, rfl, SqL.of e4, rfl, x4, w5, n4, w6, f4, rfl, h4, k4, ok4⟩
      · exact ⟨v, w1, s, w2, f, rfl, g7, hv.but g4 s7, ok⟩
    clear hv ok hl_ v w1 s w2 f g4 s4
    rintro σ H5 ⟨v, w1, s, w2, f, rfl, g5, hv, ok⟩
    refine ⟨_, rfl, v, w1, s, w2, f, 80, rfl, hv, ok, by decide, by decide, fun H6 S6 => ?_, fun k t l us H6 en lk S6 ht hl hus => ?_⟩
    · exact ⟨_, rfl, rfl, _, rfl, iteF ⟨g5.same S6, _, _, _, _, _, _, _, _, _, _, rfl⟩⟩
    have g6 := g5.same S6
    have hv6 := hv.mono S6
    have lu := paired_len hus
    have l1 : 1 ≤ us.length := by
      rw [lu]
      obtain ⟨m, hm⟩ := run_mono (w1 := w1) (w2 := w2) (s := s) (f := f) (Nat.zero_le k)
      rw [hm, List.length_append]
      show 1 ≤ 1 + m.length
      omega
    have lb : l ≠ b := g6.nrow hl hus
    refine ⟨_, rfl, rfl, _, rfl, iteT ⟨_, rfl, t, _, rfl, SqT.of ht, rfl, _, _, rfl, _, _, rfl, rfl, ?_⟩⟩
    refine ⟨_, rfl, _, _, rfl, .inl ⟨_, SqL.of hl, rfl⟩, _, rfl, _, _, rfl, rfl, _, _, rfl, ?_⟩
    obtain ⟨m0, e0, m1, m2⟩ : ∃ m0 : Nat, (if (k : Int) + 1 < (us.length : Nat) then (k : Int) + 1 else (us.length : Nat)) = (m0 : Nat) ∧ 1 ≤ m0 ∧ m0 ≤ 80 := by
      by_cases z : (k : Int) + 1 < (us.length : Nat)
      · rw [if_pos z]; exact ⟨k + 1, by omega, by omega, by omega⟩
      · rw [if_neg z]; exact ⟨us.length, rfl, l1, by omega⟩
    rw [e0]
    refine ⟨_, rfl, _, rfl, _, _, rfl, rfl, _, _, rfl, ?_⟩
    obtain ⟨m3, e3, k1, k2⟩ : ∃ m3 : Nat, (if (m0 : Int) - 1 > 1 then (m0 : Int) - 1 else 1) = (m3 : Nat) ∧ 1 ≤ m3 ∧ m3 ≤ 400 := by
      by_cases z : (m0 : Int) - 1 > 1
      · rw [if_pos z]; exact ⟨m0 - 1, by omega, by omega, by omega⟩
      · rw [if_neg z]; exact ⟨1, rfl, by omega, by omega⟩
    rw [e3]
    refine ⟨_, rfl, _, _, rfl, rfl, by show 2 ≤ sizeLine; decide, fun l3 A1 n1 T1 f1 => ⟨_, rfl, b, c, 2, rfl, g6.same T1, by decide, by decide, fun v5 A2 z0 z1 t2 h2 => ?_⟩⟩
    obtain ⟨m4, e4, j1, j2⟩ : ∃ m4 : Nat, atI [V.int 1, .int 200] v5 = some (.int (m4 : Nat)) ∧ 1 ≤ m4 ∧ m4 ≤ 400 := by
      have hz : v5 = 0 ∨ v5 = 1 := by omega
      rcases hz with rfl | rfl
      · exact ⟨1, rfl, by decide, by decide⟩
      · exact ⟨200, rfl, by decide, by decide⟩
    refine ⟨l3, _, _, _, rfl, rfl, SqL.of (t2 _ _ (g6.nb n1) f1), e4, by show 4 ≤ sizeLine; decide, fun ll A3 n3 T3 f3 => ⟨ll, rfl, ⟨_, SqL.of f3⟩, ?_⟩⟩
    have gA := h2.same T3
    have B3 : But b H6 A3 := ((But.of T1).trans t2).same T3
    have hlA := B3 _ _ lb hl
    have husA := Paired.mapP hus fun _ _ => RowV.tup (But.tup g6 B3)
    have hvA := hv6.but g6 B3
    have lln := h2.nb n3
    refine for_list (K := K) (a := ll) (xs := [.int (m0 : Nat), .int (m3 : Nat), .int ((m0 : Nat) + 1), .int (m4 : Nat)]) (fun i' σ H' => But b A3 H' ∧ Bag H' b c ∧ ∃ o8 o9 o10 o11, σ = [some (.ref a), some (.ref b), some (.int (0 + i)), some v, some (.ref t), some (.ref l), some (.int (k : Nat)), some (.int (m0 : Nat)), o8, o9, o10, o11]) ⟨But.refl _ _, gA, _, _, _, _, rfl⟩ (fun i σ H' _ h => SqL.of (h.1 _ _ lln f3)) ?_ ?_
    · rintro i' x σ B0 hi' ⟨bB, gB, o8, o9, o10, o11, rfl⟩
      obtain ⟨m, rfl, q1, q2⟩ : ∃ m : Nat, x = .int (m : Nat) ∧ 1 ≤ m ∧ m ≤ 400 := by
        match i', hi' with
        | 0, hi => exact ⟨m0, by simpa using hi.symm, m1, by omega⟩
        | 1, hi => exact ⟨m3, by simpa using hi.symm, k1, k2⟩
        | 2, hi => exact ⟨m0 + 1, by simpa using hi.symm, by omega, by omega⟩
        | 3, hi => exact ⟨m4, by simpa using hi.symm, j1, j2⟩
        | n + 4, hi => simp at hi
      have lbA := gA.nrow hlA husA
      refine ⟨_, rfl, _, rfl, _, rfl, w1, w2, s, f, l, us, k, m, rfl, bB _ _ lbA hlA, Paired.mapP husA fun _ _ => RowV.tup (But.tup gA bB), en, fun d B1 U1 hd => ?_⟩
      have gB1 := gB.same U1
      refine ⟨_, rfl, b, c, 2, rfl, gB1, by decide, by decide, fun v6 B2 y0 y1 u2 gB2 => ?_⟩
      have hd2 := hd.but gB1 u2
      have bB2 := (bB.same U1).trans u2
      refine ⟨_, _, rfl, rfl, _, rfl, by omega, by omega, for_it walk_range (fun i'' σ H' => But b B2 H' ∧ Bag H' b c ∧ ∃ o10 o11, σ = [some (.ref a), some (.ref b), some (.int (0 + i)), some v, some (.ref t), some (.ref l), some (.int (k : Nat)), some (.int (m0 : Nat)), some (.int (m : Nat)), some d, o10, o11]) ⟨But.refl _ _, gB2, _, _, rfl⟩ (fun _ _ _ _ _ => trivial) ?_ ?_⟩
      · rintro i'' x σ C0 C1 hi'' ⟨bC, gC, o10, o11, rfl⟩ ⟨rfl, rfl⟩
        have hvC := (hvA.but gA bB2).but gB2 bC
        have hdC := hd2.but gB2 bC
        refine ⟨_, rfl, _, rfl, v, w1, s, w2, f, m, rfl, hvC, ok, q1, q2, fun o v' C2 V2 io dn => ?_⟩
        obtain ⟨tt, x, y, rfl, htt, al⟩ := dn.tld
        have sh := (dueD_few (isDue_few ok q2 io)).shows (by decide)
        obtain ⟨t2, rfl⟩ := dueRef hdC
        refine ⟨_, rfl, tt, dueD o, rfl, dueD_dp dn.v, sh.a, sh.b, sh.c, sh.d, ?_⟩
        obtain rfl := due_of en io
        refine ⟨_, rfl, t2, _, rfl, dueD_dp (hdC.mono V2), sh.a, sh.b, sh.c, sh.d, rfl, _, rfl, iteF_of (by rw [decide_eq_true rfl]; rfl) ?_⟩
        refine ⟨_, rfl, tt, _, _, _, rfl, rfl, SqT.of htt, rfl, rfl, _, rfl, ite2 (fun c1 => ?_) fun c1 => ?_⟩
        · have c1 : x = "alike" := by have := of_decide_eq_true c1; injection this
          obtain ⟨l2, us2, rfl, n9, hl2⟩ := al c1
          refine ⟨_, rfl, tt, _, _, _, rfl, rfl, SqT.of htt, rfl, .inl ⟨rfl, _, SqL.of hl2⟩, l2, us2, rfl, rfl, hl2, ?_⟩
          exact ⟨(bC.same V2).mut (But.free gC bC n9), (gC.same V2).put (gC.nb n9) (gC.nc n9), _, _, rfl⟩
        · exact ⟨bC.same V2, gC.same V2, _, _, rfl⟩
      · rintro σ C0 ⟨bC, gC, o10, o11, rfl⟩
        exact ⟨bB2.trans bC, gC, _, _, _, _, rfl⟩
    · rintro σ B0 ⟨_, gB, o8, o9, o10, o11, rfl⟩
      exact ⟨gB, _, _, _, _, _, _, _, _, _, _, rfl⟩
  · rintro σ H2 ⟨g2, _⟩
    exact q H2
end
end WH

set_option maxHeartbeats 0
namespace WH
open PySem PySem.Spec PyProof.Rows L2
/-! ### the head -/
def loose0 : List PySem.Str := ["_wall", "WaneError", "Wrong", "TooMany", "MOST_STRENGTH", "MOST_MOMENT", "is_whole", "is_within", "is_strength", "is_size", "is_moment", "is_step", "LONGEST_HEAD", "TAILS", "is_head", "is_tail", "Wane", "check_part", "turned", "asked"]
def loose1 : List PySem.Str := ["waned", "lifted", "MOST_PAIRS", "SIGNS", "need_asked", "led", "alike", "_law_bag", "_law_take", "_law_steps", "_law_plan", "_law_made", "_law_phase", "_law_waned", "_law_two", "_law_number", "_law_far_plan", "_law_long", "_law_far_two", "_law_told"]
def loose2 : List PySem.Str := ["_law_led", "_law_all", "_law_due", "_law_many_pairs", "_law_many_right", "_law_shared_right"]
def loose : List PySem.Str := loose0 ++ loose1 ++ loose2
abbrev R : PySem.W.OpenRow := PySem.W.OpenLaw.row PySem.Challenge.rw_wanehold_k77_alike_just_most
def exA (K : PySem.W.Frag) : Bool := exL.all fun f => f K
abbrev hkX : PySem.W.Hook := HS.hookS 5 faL fnL exA
def obX (s : PySem.W.SharedT) : HS.AlS := HS.obsS 5 faL fnL exA (HandSHeadRun.getT s)
theorem obX_eq (s : PySem.W.SharedT) : obX s = hkX.obs s.abs := HS.obsS_eq (HandSHeadRun.getT_eq s)
theorem runX (w : World) : HandSHeadRun.RunEq R (PySem.W.view R.prog [52]) hkX obX 4000 loose w := by
  intro os
  kernel_rfl
theorem factsX {P : Program} {w : World} {K : PySem.W.Frag} {h : Heap} {mg : Str → Option Value} {f : Addr} (X : K.In h) (G : h.Ns mainGlobals mg) (hfa : mg ("law" : Str) = some (.ref f)) (c : HS.SaysS faL fnL exA K) :
    ∃ fd : FuncData, (∀ (s : Shared) (v : Value), BindsTo s fd ⟨[v], []⟩ [("_law_script", v)]) ∧ ∀ base : Heap, K.In base → base.Ns mainGlobals mg → GL.FnG P w K mg base C8.CX0 11 f fd ["_law_script"] (spLaw K) := by
  have T : Txt K mg := ⟨fun i d hd => c.1.def_ i hd, fun i f hf => c.1.fact i hf, ⟨h, X, G⟩, fun i f hf => List.all_eq_true.mp (show (exL.all fun f => f K) = true from c.2) f (List.mem_of_getElem? hf)⟩
  obtain ⟨fd, F⟩ := T.f_law
  have e := hfa.symm.trans T.g_law
  cases e
  have b := FunD.bindsA (ps := ["_law_script"]) F fun _ _ _ _ _ _ us hl => match us, hl with | [_], _ => rfl
  exact ⟨fd, fun s v => b s [v] rfl, fun base _ _ => fn_law T F⟩
end WH
open PySem PySem.W PySem.Calls PyProof.Rows
theorem PySem.Challenge.cw_wanehold_k77_alike_just_most_holds : PySem.Challenge.rw_wanehold_k77_alike_just_most.Holds := by
  w_on; o_law
  refine HandSHeadRun.head_any (r := OpenLaw.row PySem.Challenge.rw_wanehold_k77_alike_just_most) (q := view (OpenLaw.row PySem.Challenge.rw_wanehold_k77_alike_just_most).prog [52]) (H := WH.hkX) (ob := WH.obX) (M := 4000) (loose := WH.loose) (d := HandSHeadRun.topDef (OpenLaw.row PySem.Challenge.rw_wanehold_k77_alike_just_most).prog 52) (kwd := []) WH.obX_eq
    (by kernel_rfl) (fun s => by kernel_rfl) WH.runX (by kernel_rfl) (by kernel_rfl) (by kernel_rfl) (by rfl) (by first | assumption | decide +kernel) (by decide +kernel) ⟨rfl, rfl, rfl, rfl, rfl, by decide +kernel⟩ ?hw ?hc
  case hw => w_witness2
  case hc =>
    refine GL.walk_G (l := PySem.Challenge.rw_wanehold_k77_alike_just_most) (n := 63) (k := 11) (x := "_law_script") (CX := C8.CX0) rfl (by decide) (by kernel_rfl) ⟨rfl, by decide, by decide⟩ ?F (fun _ _ _ _ z => z)
    intro w mg fa h Y G hmg0
    obtain ⟨K, KX, c⟩ := Y
    have hmg : mg ("law" : PySem.Str) = some (.ref fa) := by
      have e : (HandSHeadRun.topDef (OpenLaw.row PySem.Challenge.rw_wanehold_k77_alike_just_most).prog 52).name = ("law" : PySem.Str) := by kernel_rfl
      rw [← e]
      exact hmg0
    obtain ⟨fd, hb, hF⟩ := WH.factsX (P := (PySem.Challenge.rw_wanehold_k77_alike_just_most).prog) (w := w) KX G hmg c
    exact ⟨K, fd, WH.spLaw K, KX, hb, fun H a ns hl _ hS => ⟨a, ns, rfl, hS, fun _ => rfl⟩, hF⟩


