import PyProof.Rows.All
import Wide.All
import OpenK.AllK
import Wide.FinOn
import HandS.ForMost
import HandS.Evl
import HandS.TupAny
import HandS.TupLen
import HandS.Deep
import HandS.IsInst
import HandS.Style
import HandS.Walk
import HandS.Zip
import HandS.Conv
import HandS.SetKeys
import HandS.More
import HandS.Wide
import HandS.SortInts
import KE.DataMinMax
import KE.SortData
import KE.GoesEnum
import KE.GoesMore
import PyProof.DictMoreH
import PySem.Challenge.RW_lonetrack_k50_whole_lengths_and_lone
set_option Elab.async false
set_option linter.all false
set_option maxRecDepth 100000
set_option maxHeartbeats 4000000
/-! Rules that the law asks and the layer lacks. -/
namespace Lt
open PySem PySem.Spec PyProof.Rows L2 Evl

/-! ### sorted(d), d a dict whose keys are pairs of ints -/
def pk (z : Int × Int) : List Key := [Sum.inl z.1, Sum.inl z.2]
def entOf (e : (Int × Int) × V) : List Key × V := (pk e.1, e.2)
def rSortDT : List V → Hp → VK → Prop := fun vs H Q => ∃ (d : Addr) (L : List ((Int × Int) × V)), vs = [V.ref d] ∧ H d = some (.dT (L.map entOf)) ∧ L.length ≤ 1000 ∧
  ∀ (p : Addr) (bs : List ((Int × Int) × Addr)), (bs.map (·.1)).Perm (L.map (·.1)) → (∀ e ∈ bs, H e.2 = some (.tup [.int e.1.1, .int e.1.2])) → H p = none → Q (.ref p) (upd H p (.lst (bs.map fun e => V.ref e.2)))
def encP (e : (Int × Int) × Addr) : PyData := .tuple [.int e.1.1, .int e.1.2]
theorem encP_alike (b b' : (Int × Int) × Addr) : PySem.W.alike (encP b) (encP b') = true := by
  simp [encP, PySem.W.alike, PySem.W.alikeAll]
theorem encP_depth (b : (Int × Int) × Addr) : (encP b).depth = 1 := by
  simp [encP, PyData.depth, PyData.depthAll]
/-- what the paired lists say, the keys told as pairs -/
theorem keysOf {H : Hp} : ∀ (L : List ((Int × Int) × V)) (ks : List (List Key × Addr × Value)),
    Paired (fun (p : List Key × V) (q : List Key × Addr × Value) => p.1 = q.1 ∧ H q.2.1 = some (.tup (p.1.map kV)) ∧ RelV p.2 q.2.2) (L.map entOf) ks →
    ∃ B : List ((Int × Int) × Addr), B.map (·.1) = L.map (·.1) ∧ ks.map (fun x => x.2.1) = B.map (·.2) ∧ ∀ e ∈ B, H e.2 = some (.tup [.int e.1.1, .int e.1.2])
  | [], _, h => by
    cases h
    exact ⟨[], rfl, rfl, fun _ m => nomatch m⟩
  | e :: L, _, h => by
    cases h with
    | @cons _ q _ qs h1 h2 =>
      obtain ⟨B, e1, e2, e3⟩ := keysOf L qs h2
      refine ⟨(e.1, q.2.1) :: B, ?_, ?_, ?_⟩
      · rw [List.map_cons, List.map_cons, e1]
      · rw [List.map_cons, List.map_cons, e2]
      · intro z hz
        rcases List.mem_cons.mp hz with rfl | hz
        · exact h1.2.1
        · exact e3 z hz
theorem each_of {R : Value → (Int × Int) × Addr → Prop} : ∀ (B : List ((Int × Int) × Addr)), (∀ b ∈ B, R (.ref b.2) b) → PySem.W.EachIs R ((B.map (·.2)).map Value.ref) B
  | [], _ => .nil
  | b :: B, h => .cons (h b List.mem_cons_self) (each_of B fun c hc => h c (List.mem_cons_of_mem _ hc))
theorem each_out {R : Value → (Int × Int) × Addr → Prop} (hR : ∀ v b, R v b → v = .ref b.2) : ∀ {out : List Value} {B : List ((Int × Int) × Addr)}, PySem.W.EachIs R out B → out = (B.map (·.2)).map Value.ref
  | _, _, .nil => rfl
  | _, _, .cons h t => by
    rw [hR _ _ h, each_out hR t]
    rfl

section
variable {X : Cx}
theorem cr_sortedDT (hc : X.calm = true) (hu : X.A.units + 64 < cLine) : CallR X (.builtin "sorted") rSortDT := by
  intro pins s σ H vs us Q I r h
  obtain ⟨d, L, rfl, hd, hL, q⟩ := h
  obtain ⟨u, rfl, rx⟩ := vals1 r
  cases rx
  obtain ⟨z, hs, ks, pr, o, es, ep, ho, hx, hdt, he, hn⟩ := (show ObjOk X.prog X.w H s.heap d (.dT (L.map entOf)) from I.hok d _ hd)
  obtain ⟨B, eB, eks, hB⟩ := keysOf L ks pr
  have lB : B.length = L.length := by
    have w := congrArg List.length eB
    rwa [List.length_map, List.length_map] at w
  have lks : ks.length = B.length := by
    have w := congrArg List.length eks
    rwa [List.length_map, List.length_map] at w
  have les : es.size = ks.length := by
    have w := congrArg List.length he
    rwa [List.length_map, Array.length_toList] at w
  have hsz : es.size ≤ sizeLine := by rw [sizeLine_eq]; omega
  refine Calls.call_function_entry kind_sorted plain_sorted entry_sorted (args_sorted1 _) ?_
  unfold Builtin.«sorted»
  refine wpAny_bind (m := checkCount "sorted" 1 1 _) (wpAny_pure ?_)
  refine wpAny_bind (PySem.W.kdu_collect (A := X.A.in1) (kdl_raw hs hx hdt) (I.ok.hd hc) ho hsz fun h' tk acc hk hacc => ?_)
  have eacc : acc.toList = (B.map (·.2)).map Value.ref := by
    rw [← eks, List.map_map]
    apply List.ext_getElem?
    intro j
    rw [List.getElem?_map]
    have hl : acc.toList.length = ks.length := by rw [Array.length_toList, hacc.1, les]
    cases hj : acc.toList[j]? with
    | none =>
      have h1 := List.getElem?_eq_none_iff.mp hj
      rw [List.getElem?_eq_none (by omega)]
      rfl
    | some v =>
      obtain ⟨en, hen, hv⟩ := hacc.2 j v (by rw [← Array.getElem?_toList]; exact hj)
      have w := entry_at he j
      rw [hen] at w
      cases hb : ks[j]? with
      | none =>
        rw [hb] at w
        cases w
      | some b =>
        rw [hb] at w
        have e2 : en = entryOfKey (tupleKind (mixKind X.prog X.w)) b := Option.some.inj w
        rw [hv, e2]
        rfl
  rw [eacc]
  have I1 : Inv X pins σ H { s with heap := h', toks := tk } := I.kept hk
  have lvs : ((B.map (·.2)).map Value.ref).length = B.length := by rw [List.length_map, List.length_map]
  refine wpAny_bind (wpAny_newList ?_ (by rw [lvs, sizeLine_eq]; omega))
  generalize hvs : (B.map (·.2)).map Value.ref = vals at *
  have hoL : (h'.push (seqObj "list" vals.toArray 0)).get? h'.objs.size = some (seqObj "list" vals.toArray 0) := Heap.get?_push_size _ rfl
  show wpAny _ _ _ _ _ { s with heap := h'.push (seqObj "list" vals.toArray 0), toks := tk }
  have hR : PySem.W.EachIs (fun (v : Value) (b : (Int × Int) × Addr) => v = .ref b.2 ∧ H b.2 = some (.tup [.int b.1.1, .int b.1.2])) vals B := by
    rw [← hvs]
    exact each_of B fun b hb => ⟨rfl, hB b hb⟩
  have hE : PySem.W.EachIs (fun (v : Value) (b : (Int × Int) × Addr) => ∃ as, Reads (h'.push (seqObj "list" vals.toArray 0)) v (encP b) as ∧ ¬ h'.objs.size ∈ as) vals B := by
    rw [← hvs]
    refine each_of B fun b hb => ?_
    obtain ⟨its, rv, ⟨ot, hot, hct, n, hdt'⟩, _⟩ := I1.tuple (st_of (hB b hb))
    cases rv with
    | cons r1 rt =>
      cases rt with
      | cons r2 rt =>
        cases rt
        obtain ⟨t1, rfl⟩ := r1
        obtain ⟨t2, rfl⟩ := r2
        refine ⟨[] ++ ([] ++ []), Reads.tuple (Heap.get?_push_of_some _ hot) hct hdt' ?_, by simp⟩
        exact ReadsAll.cons (Reads.int _ _) (ReadsAll.cons (Reads.int _ _) ReadsAll.nil)
  refine wpAny_bind (wpAny_holding (PySem.W.list_sort_data (s := { s with heap := h'.push (seqObj "list" vals.toArray 0), toks := tk }) (enc := encP) (bs := B) hoL hR hE
    (PySem.W.AllAlike.of encP_alike) (PySem.W.Sortable.tuples fun b => ⟨_, _, rfl⟩) (by rw [sizeLine_eq]; omega) (fun b _ => by rw [encP_depth]; show X.A.units + 1 + 1 + 1 < cLine; omega) fun out hlo hout => ?_))
  obtain ⟨e', he'⟩ := PyProof.Rows.sortedHeap_at (vs := vals) (out := out.toArray) hoL
  generalize hbs : B.mergeSort (PySem.W.dataLe false encP) = bs at hout
  have hperm : bs.Perm B := by
    rw [← hbs]
    exact List.mergeSort_perm _ _
  have hout2 : out = (bs.map (·.2)).map Value.ref := each_out (fun v b w => w.1) hout
  have hbl : bs.length = B.length := hperm.length_eq
  have rvals : Vals (bs.map fun e => V.ref e.2) out := by
    rw [hout2, ← show (bs.map (·.2)).map V.ref = bs.map (fun e => V.ref e.2) by rw [List.map_map]; rfl]
    exact vals_refs _
  refine wpAny_pure ⟨_, rfl, .ref h'.objs.size, upd H h'.objs.size (.lst (bs.map fun e => V.ref e.2)), I1.laid (t' := tk) (fun b u w => ?_) (Nat.le_refl _)
    (show ObjOk X.prog X.w _ _ _ (.lst (bs.map fun e => V.ref e.2)) from ⟨by rw [List.length_map, sizeLine_eq]; omega, out, e', rvals, he'⟩), rfl, q _ bs ?_ (fun e me => hB e (hperm.mem_iff.mp me)) (I1.hok.fresh (Nat.le_refl _))⟩
  · have hb : b < h'.objs.size := Heap.lt_size w
    rw [PyProof.Rows.sortedHeap_old (Nat.ne_of_lt hb) (by rw [size_push']; exact Nat.lt_succ_of_lt hb)]
    exact Heap.get?_push_of_some _ w
  · rw [← eB]
    exact hperm.map _

/-! ### min, max of data -/
def rMinD (K : PySem.W.Frag) : List V → Hp → VK → Prop := fun vs H Q => ∃ (a : V) (x : PyData) (xs : List PyData), vs = [a] ∧ (Dp K H a (.list (x :: xs)) ∨ Dp K H a (.tuple (x :: xs))) ∧ PySem.W.AlikeAll (x :: xs) ∧ PyData.depthAll (x :: xs) ≤ 60 ∧ PyData.canLayAll0 (x :: xs) = true ∧
  ∀ v : V, Dp K H v (PySem.W.minD x xs) → Q v H
def rMaxD (K : PySem.W.Frag) : List V → Hp → VK → Prop := fun vs H Q => ∃ (a : V) (x : PyData) (xs : List PyData), vs = [a] ∧ (Dp K H a (.list (x :: xs)) ∨ Dp K H a (.tuple (x :: xs))) ∧ PySem.W.AlikeAll (x :: xs) ∧ PyData.depthAll (x :: xs) ≤ 60 ∧ PyData.canLayAll0 (x :: xs) = true ∧
  ∀ v : V, Dp K H v (PySem.W.maxD x xs) → Q v H
theorem dpAll_at {K : PySem.W.Frag} {H : Hp} : ∀ {vs : List V} {ds : List PyData}, DpAll K H vs ds → ∀ {i : Nat} {v : V}, vs[i]? = some v → ∃ d, ds[i]? = some d ∧ Dp K H v d
  | _, _, .nil, i, v, h => by simp at h
  | _, _, .cons h1 h2, 0, v, h => by
    cases h
    exact ⟨_, rfl, h1⟩
  | _, _, .cons h1 h2, i + 1, v, h => by
    obtain ⟨d, e, w⟩ := dpAll_at h2 (i := i) (v := v) (by simpa using h)
    exact ⟨d, by simpa using e, w⟩
theorem dpAll_len {K : PySem.W.Frag} {H : Hp} : ∀ {vs : List V} {ds : List PyData}, DpAll K H vs ds → vs.length = ds.length
  | _, _, .nil => rfl
  | _, _, .cons _ h2 => by rw [List.length_cons, List.length_cons, dpAll_len h2]
theorem dp_lst {K : PySem.W.Frag} {H : Hp} {v : V} {ds : List PyData} (h : Dp K H v (.list ds)) : ∃ a xs, v = .ref a ∧ SqL K H a xs ∧ DpAll K H xs ds := by
  cases h with
  | lst h1 h2 => exact ⟨_, _, rfl, h1, h2⟩
theorem dp_tup {K : PySem.W.Frag} {H : Hp} {v : V} {ds : List PyData} (h : Dp K H v (.tuple ds)) : ∃ a xs, v = .ref a ∧ SqT K H a xs ∧ DpAll K H xs ds := by
  cases h with
  | tup h1 h2 => exact ⟨_, _, rfl, h1, h2⟩

theorem canLay_at : ∀ {ds : List PyData} {i : Nat} {d : PyData}, PyData.canLayAll0 ds = true → ds[i]? = some d → d.canLay0 = true
  | [], _, _, _, h => by simp at h
  | x :: r, 0, d, hc, h => by
    cases h
    simp only [PyData.canLayAll0, Bool.and_eq_true] at hc
    exact hc.1
  | x :: r, i + 1, d, hc, h => by
    simp only [PyData.canLayAll0, Bool.and_eq_true] at hc
    exact canLay_at (i := i) hc.2 (by simpa using h)
/-- the value that min, max hand back stands for the least (greatest) datum -/
theorem best_is {pins : List (Addr × Obj)} {σ : L2.St} {H : Hp} {s : Shared} (I : Inv X pins σ H s) {xs : List V} {ds : List PyData} {its : List Value} (rv : Vals xs its) (ha : DpAll X.K H xs ds) (hl : PyData.canLayAll0 ds = true)
    {i : Nat} {v : Value} {m : PyData} {bs : List Addr} {h' : Heap} (hi : its.toArray[i]? = some v) (hr : Reads h' v m bs) (hk : ∀ b o, s.heap.get? b = some o → h'.get? b = some o) : ∃ y, RelV y v ∧ Dp X.K H y m := by
  have hi' : its[i]? = some v := by simpa using hi
  cases hx : xs[i]? with
  | none =>
    rw [rv.none_of hx] at hi'
    cases hi'
  | some y =>
    obtain ⟨u, hu, ru⟩ := rv.get hx
    rw [hu] at hi'
    cases hi'
    obtain ⟨d, hd, hy⟩ := dpAll_at ha hx
    obtain ⟨as, r1⟩ := Dp.reads I d y _ hy ru
    have e : d = m := SeqAt.Reads.unique d m _ _ _ (canLay_at hl hd) (PyProof.Rows.Reads.keeps hk r1) hr
    exact ⟨y, ru, e ▸ hy⟩

theorem cr_minD (hc : X.calm = true) (hu : X.A.units + 64 < cLine) : CallR X (.builtin "min") (rMinD X.K) := by
  intro pins s σ H vs us Q I r h
  obtain ⟨a, x, xs, rfl, hd, hal, hdp, hcl, q⟩ := h
  obtain ⟨u, rfl, rx⟩ := vals1 r
  rcases hd with hd | hd
  · obtain ⟨l, ys, rfl, hs, ha⟩ := dp_lst hd
    cases rx
    obtain ⟨its, rv, hl, _⟩ := I.list hs
    obtain ⟨as, hr⟩ := Dp.readsAll I _ _ _ ha rv
    refine PySem.W.min_list_data (I.ok.hd hc) hl.isList (by simpa using hr) hal (by omega) fun i v h' tk bs hi hb hk => ?_
    obtain ⟨y, ry, hy⟩ := best_is I rv ha hcl hi hb hk
    exact ⟨y, H, I.kept hk, ry, q y hy⟩
  · obtain ⟨l, ys, rfl, hs, ha⟩ := dp_tup hd
    cases rx
    obtain ⟨its, rv, hl, _⟩ := I.tuple hs
    obtain ⟨as, hr⟩ := Dp.readsAll I _ _ _ ha rv
    refine PySem.W.min_tuple_data (I.ok.hd hc) hl (by simpa using hr) hal (by omega) fun i v h' tk bs hi hb hk => ?_
    obtain ⟨y, ry, hy⟩ := best_is I rv ha hcl hi hb hk
    exact ⟨y, H, I.kept hk, ry, q y hy⟩
theorem cr_maxD (hc : X.calm = true) (hu : X.A.units + 64 < cLine) : CallR X (.builtin "max") (rMaxD X.K) := by
  intro pins s σ H vs us Q I r h
  obtain ⟨a, x, xs, rfl, hd, hal, hdp, hcl, q⟩ := h
  obtain ⟨u, rfl, rx⟩ := vals1 r
  rcases hd with hd | hd
  · obtain ⟨l, ys, rfl, hs, ha⟩ := dp_lst hd
    cases rx
    obtain ⟨its, rv, hl, _⟩ := I.list hs
    obtain ⟨as, hr⟩ := Dp.readsAll I _ _ _ ha rv
    refine PySem.W.max_list_data (I.ok.hd hc) hl.isList (by simpa using hr) hal (by omega) fun i v h' tk bs hi hb hk => ?_
    obtain ⟨y, ry, hy⟩ := best_is I rv ha hcl hi hb hk
    exact ⟨y, H, I.kept hk, ry, q y hy⟩
  · obtain ⟨l, ys, rfl, hs, ha⟩ := dp_tup hd
    cases rx
    obtain ⟨its, rv, hl, _⟩ := I.tuple hs
    obtain ⟨as, hr⟩ := Dp.readsAll I _ _ _ ha rv
    refine PySem.W.max_tuple_data (I.ok.hd hc) hl (by simpa using hr) hal (by omega) fun i v h' tk bs hi hb hk => ?_
    obtain ⟨y, ry, hy⟩ := best_is I rv ha hcl hi hb hk
    exact ⟨y, H, I.kept hk, ry, q y hy⟩

/-! ### x in t, t a tuple of data -/
def rInTD (K : PySem.W.Frag) : R2 := fun x y H Q => ∃ d ds, Dp K H x d ∧ Dp K H y (.tuple ds) ∧ SeqAt.shaped d = true ∧ SeqAt.shaped (.tuple ds) = true ∧ Q (.bl (ds.any fun z => PyData.eqv z d)) H
theorem op_inTD (hu : X.A.units + 65 < cLine) : OpR X (compareOp .In) (rInTD X.K) := by
  intro pins s σ H x y v u Q I rx ry h
  obtain ⟨d, ds, hd, he, sd, se, q⟩ := h
  obtain ⟨as, r1⟩ := Dp.reads I d x v hd rx
  obtain ⟨bs, r2⟩ := Dp.reads I (.tuple ds) y u he ry
  have c2 : PyData.canLayAll0 ds = true := SeqAt.canLay_of_shaped se
  exact SeqAt.in_tuple_reads r2 r1 c2 (SeqAt.canLay_of_shaped sd) (room_in_shaped sd hu) ⟨.bl _, H, I, rfl, q⟩

/-! ### d.setdefault(k, x), k a tuple -/
def rSetdT : V → List V → Hp → VK → Prop := fun x xs H Q => ∃ (a : Addr) (kvs : List (List Key × V)) (k : List Key) (b : Addr) (y : V), x = .ref a ∧ xs = [.ref b, y] ∧ H a = some (.dT kvs) ∧ H b = some (.tup (k.map kV)) ∧ kvs.length < sizeLine ∧
  (∀ v, valV kvs k = some v → Q v H) ∧ (valV kvs k = none → Q y (upd H a (.dT (putK kvs k y))))
theorem mt_setdT (hu : X.A.units + 1 < cLine) : MtR X "dict.setdefault" rSetdT := by
  intro pins s σ H x xs v us Q I rx rxs h
  obtain ⟨a, kvs, k, b, y, rfl, rfl, ha, hb, hz, q1, q2⟩ := h
  cases rx
  obtain ⟨u1, u2, rfl, r1, r2⟩ := vals2 rxs
  cases r1
  obtain ⟨z, hd, ys, rel, dd⟩ := dt_of I.hok ha
  have hlen : ys.length ≤ sizeLine := by rw [← Paired.length rel]; exact z
  have hval := rel.val k
  refine call_setdefault_heap (hsz := hlen) (tupleKind_room_in1 hu) (key_of I.hok hb) hd dd (fun p hp => ?_) fun hn h' dd' sb => ?_
  · rw [hp] at hval
    cases ev : valV kvs k with
    | none =>
      rw [ev] at hval
      exact (show False from hval).elim
    | some v0 =>
      rw [ev] at hval
      exact ⟨v0, H, I.tok _, hval, q1 v0 ev⟩
  · rw [hn] at hval
    have ev : valV kvs k = none := by
      cases ev : valV kvs k with
      | none => rfl
      | some v0 =>
        rw [ev] at hval
        exact (show False from hval).elim
    obtain ⟨o, es, ep, g1, g2, g3, g4, _, g5⟩ := dd'
    have hl : (putK kvs k y).length ≤ sizeLine := by
      have w := length_putK kvs k y
      omega
    refine ⟨y, upd H a (.dT (putK kvs k y)), d_write I (by rw [ha]; exact True.intro) sb ⟨o, g1⟩ ⟨hl, hd, _, (rel.put k hb r2).keeps fun c zs ec => ?_, o, es, ep, g1, g2, g3, g4, g5⟩, r2, q2 ev⟩
    rw [upd_ne (ne_of ec ha (fun w => nomatch w))]
    exact ec

/-! ### zip(t, l): a tuple and a list -/
def ItzM (K : PySem.W.Frag) (a b : Addr) : It where
  go := fun i H => ∃ (xs ys : List V) (x y : V), SqT K H a xs ∧ SqL K H b ys ∧ xs[i]? = some x ∧ ys[i]? = some y
  yld := fun i H v H' => ∃ T x y, v = .ref T ∧ H T = none ∧ H' = upd H T (.tup [x, y]) ∧ (∀ xs, SqT K H a xs → xs[i]? = some x) ∧ ∀ ys, SqL K H b ys → ys[i]? = some y
  stop := fun i H => ∃ xs ys : List V, SqT K H a xs ∧ SqL K H b ys ∧ i = xs.length ∧ i = ys.length
theorem sepM {z TI TO i1 i2 a b : Addr} (D : ZipApart z TI TO i1 i2 a b) : ZipSep2 z TI TO i1 i2 [i1, a] [i2, b] where
  TIz := D.TIz
  TOz := D.TOz
  TITO := D.TITO
  TIi1 := D.TIi1
  mem1 := by simp
  zf1 := by simp [D.i1z.symm, D.l1z.symm]
  Tf1 := by simp [D.TOi1, D.l1TO.symm]
  TIi2 := D.TIi2
  mem2 := by simp
  zf2 := by simp [D.i2z.symm, D.l2z.symm]
  Tf2 := by simp [D.TOi2, D.l2TO.symm]
  sep1_2 := by simp [D.i12, D.l2i1.symm]
  sep2_1 := by simp [D.i12.symm, D.l1i2.symm]
def TnM (a b z TI TO i1 i2 : Addr) (i : Nat) (h : Heap) : Prop := IsZip h z TI TO .none ∧ IsTupOf2 h TI (.ref i1) (.ref i2) ∧ (∃ x y, IsTupOf2 h TO x y) ∧ h.IsTupleIter i1 a i ∧ h.IsListIter i2 b i
theorem tnM_lt {a b z TI TO i1 i2 : Addr} {i : Nat} {h : Heap} (t : TnM a b z TI TO i1 i2 i h) : ∀ c ∈ [z, TI, TO, i1, i2], c < h.objs.size := by
  obtain ⟨hz, hTI, ⟨x, y, hTO⟩, ⟨o1, e1, _⟩, ⟨o2, e2, _⟩⟩ := t
  intro c hc
  have hc' : c = z ∨ c = TI ∨ c = TO ∨ c = i1 ∨ c = i2 := by simpa using hc
  rcases hc' with w | w | w | w | w <;> subst w
  · exact Heap.lt_size hz
  · exact Heap.lt_size hTI
  · exact Heap.lt_size hTO
  · exact Heap.lt_size e1
  · exact Heap.lt_size e2
theorem turn_zipM {P : Program} {w : World} {K : PySem.W.Frag} {elts : List Expr} {kk : Nat} {tpos : Pos} {a b z TI TO i1 i2 : Addr} (D : ZipApart z TI TO i1 i2 a b) :
    Turn P w K (.Tuple elts kk tpos) (ItzM K a b) [z, TI, TO, i1, i2] z (TnM a b z TI TO i1 i2) where
  mem := List.mem_cons_self
  obj := by
    rintro i h ⟨hz, hTI, ⟨x, y, hTO⟩, ⟨o1, e1, _, d1⟩, ⟨o2, e2, _, d2⟩⟩ c hc
    have hc' : c = z ∨ c = TI ∨ c = TO ∨ c = i1 ∨ c = i2 := by simpa using hc
    rcases hc' with w | w | w | w | w <;> subst w
    · exact ⟨_, hz, fun _ w => nomatch w⟩
    · exact ⟨_, hTI, fun _ w => nomatch w⟩
    · exact ⟨_, hTO, fun _ w => nomatch w⟩
    · exact ⟨o1, e1, fun _ w => by rw [d1] at w; cases w⟩
    · exact ⟨o2, e2, fun _ w => by rw [d2] at w; cases w⟩
  keep := by
    rintro i h h' ⟨hz, hTI, ⟨x, y, hTO⟩, h1, h2⟩ k
    have kk := fun c (hc : c ∈ [z, TI, TO, i1, i2]) o => k c hc o
    exact ⟨kk z (by simp) _ hz, kk TI (by simp) _ hTI, ⟨x, y, kk TO (by simp) _ hTO⟩, h1.at fun o q => kk i1 (by simp) o q, h2.at fun o q => kk i2 (by simp) o q⟩
  item := by
    intro X hP hw hK hc i pins s σ H E I hf st hg
    subst hP hw hK
    have lts := tnM_lt st
    obtain ⟨hz, hTI, ⟨x0, y0, hTO⟩, h1, h2⟩ := st
    obtain ⟨xs, ys, x, y, hqx, hqy, hx, hy⟩ := hg
    obtain ⟨its, rv, p1, _⟩ := I.tuple hqx
    obtain ⟨its2, rv2, p2, _⟩ := I.list hqy
    obtain ⟨u, hu, ru⟩ := rv.get hx
    obtain ⟨u2, hu2, ru2⟩ := rv2.get hy
    have b1 : i < its.toArray.size := by simpa using (List.getElem?_eq_some_iff.mp hu).1
    have b2 : i < its2.toArray.size := by simpa using (List.getElem?_eq_some_iff.mp hu2).1
    have zl : z < s.heap.objs.size := Heap.lt_size hz
    have hh : X.A.in1.handled = none := I.ok.hd hc
    refine wpAny_pyNext_zipD2_item (sepM D) (Draws.tuple hh i1 a D.l1i1 its.toArray) (Draws.list hh i2 b D.l2i2 its2.toArray) hz hTI hTO ⟨h1, p1⟩ ⟨h2, p2.isList⟩ b1 b2 fun v1 v2 h' tk g1 g2 z' TO' s1 s2 hT hsz hk => ?_
    have ev1 : v1 = u := by
      have w : its[i]? = some v1 := by simpa using g1
      rw [hu] at w
      exact (Option.some.inj w).symm
    have ev2 : v2 = u2 := by
      have w : its2[i]? = some v2 := by simpa using g2
      rw [hu2] at w
      exact (Option.some.inj w).symm
    subst ev1 ev2
    refine ⟨_, rfl, wpAny_letOwnedTupleGo_zip (s := { s with heap := h', toks := tk }) z' fun h'' z'' sb => ?_⟩
    have hT2 : h''.get? s.heap.objs.size = some { cls := .type "tuple", data := .seq #[v1, v2] } := (sb.2 _ (Nat.ne_of_gt zl)).trans hT
    have new : ObjOk X.prog X.w (upd H s.heap.objs.size (.tup [x, y])) h'' s.heap.objs.size (.tup [x, y]) :=
      ⟨by show 2 ≤ sizeLine; decide, [v1, v2], .cons ru (.cons ru2 .nil), ⟨_, hT2, rfl, _, rfl⟩⟩
    have stay : ∀ c o, c ∉ [z, TI, TO, i1, i2] → s.heap.get? c = some o → h''.get? c = some o := fun c o hb q => by
      have n1 : c ≠ z := fun w => hb (by simp [w])
      exact (sb.2 c n1).trans (hk c o n1 (fun w => hb (by simp [w])) (fun w => hb (by simp [w])) (fun w => hb (by simp [w])) q)
    have I1 : Inv X pins σ (upd H s.heap.objs.size (.tup [x, y])) { s with heap := h'', toks := tk } := I.turnedNew (t' := tk) stay hf (Nat.le_refl _) new
    refine ⟨.ref s.heap.objs.size, _, I1, rfl, ⟨_, x, y, rfl, I.hok.fresh (Nat.le_refl _), rfl, fun l hl => ?_, fun l hl => ?_⟩, ⟨z'', ?_, ⟨v1, v2, ?_⟩, ?_, ?_⟩, fun c hcm => ?_⟩
    · rw [I.tuple_inj hl hqx]
      exact hx
    · rw [I.list_inj hl hqy]
      exact hy
    · exact (sb.2 TI D.TIz).trans (hk TI _ D.TIz D.TITO D.TIi1 D.TIi2 hTI)
    · exact (sb.2 TO D.TOz).trans TO'
    · exact s1.1.at fun o q => (sb.2 i1 D.i1z).trans q
    · exact s2.1.at fun o q => (sb.2 i2 D.i2z).trans q
    · rw [upd_ne (Nat.ne_of_lt (lts c hcm))]
      exact (hf c hcm).1
  done := by
    intro X hP hw hK hc i pins s σ H E I hf st hg
    subst hP hw hK
    obtain ⟨hz, hTI, ⟨x0, y0, hTO⟩, h1, h2⟩ := st
    obtain ⟨xs, ys, hqx, hqy, e1, e2⟩ := hg
    obtain ⟨its, rv, p1, _⟩ := I.tuple hqx
    obtain ⟨its2, rv2, p2, _⟩ := I.list hqy
    have l1 : i = its.toArray.size := by rw [e1, rv.length]; simp
    have l2 : i = its2.toArray.size := by rw [e2, rv2.length]; simp
    have hh : X.A.in1.handled = none := I.ok.hd hc
    refine wpAny_pyNext_zipD2_end (sepM D) (Draws.tuple hh i1 a D.l1i1 its.toArray) (Draws.list hh i2 b D.l2i2 its2.toArray) hz hTI hTO ⟨h1, p1⟩ ⟨h2, p2.isList⟩ (Nat.le_of_eq l1) (Nat.le_of_eq l2) (.inl l1) fun h' tk hk => ⟨rfl, ?_⟩
    exact I.turnedL (t' := tk) (ch := [z, TI, TO, i1, i2]) (fun c o hb q => hk c o (fun w => hb (by simp [w])) (fun w => hb (by simp [w])) (fun w => hb (by simp [w])) (fun w => hb (by simp [w])) q) hf
  self := fun A i s Q E st h => wpAny_pyIter_zip st.1 h
def iZipM (K : PySem.W.Frag) (ta : TA) : TI := fun σ H R => ta σ H fun vs H1 => ∃ a b xs ys, vs = [.ref a, .ref b] ∧ SqT K H1 a xs ∧ SqL K H1 b ys ∧ R (ItzM K a b) H1
theorem pi_zipM {e e2 : Expr} {ta : TA} {p pos tpos : Pos} {elts : List Expr} {kk : Nat} (hg : Gl X "zip") (hm : X.mg "zip" = none) (ha : PA X [e, e2] ta)
    (hs : starEach [e, e2] X.env = (false, eval e X.env) :: starEach [e2] X.env := by rfl) (hpl : (backTo pos (starEach [e2] X.env)).any (·.1) = false := by rfl) :
    PI X (.Tuple elts kk tpos) (.Call (.Name "zip" p) [e, e2] [] pos) (iZipM X.K ta) := by
  constructor
  intro pins s σ H R I h
  refine Call_ (ld_blt I hg hm PyProof.Rows.boot_zip (PyProof.Rows.callWith_type1 (thn (ha.run pos pins s σ H _ I h) fun us s1 ⟨vs, H1, I1, r1, q1⟩ => ?_) hs hpl))
  obtain ⟨a, b, xs, ys, rfl, hqx, hqy, q⟩ := q1
  obtain ⟨u1, u2, rfl, ra, rb⟩ := vals2 r1
  cases ra
  cases rb
  obtain ⟨its, rv, p1, _⟩ := I1.tuple hqx
  obtain ⟨its2, rv2, p2, _⟩ := I1.list hqy
  have la : a < s1.heap.objs.size := by
    obtain ⟨o, e, _⟩ := p1
    exact Heap.lt_size e
  have lb : b < s1.heap.objs.size := by
    obtain ⟨o, n, e, _⟩ := p2
    exact Heap.lt_size e
  generalize hN : s1.heap.objs.size = n at la lb
  refine zip_begins2 (begins_tuple a its.toArray) (begins_list b its2.toArray) p1 p2.isList fun h' hz hTI hTO h1 h2 hsz hk => wpAny_pyIter_zip hz ?_
  rw [hN] at hz hTI hTO h1 h2 hsz ⊢
  have I2 : Inv X pins σ H1 { s1 with heap := h' } := I1.kept (t' := s1.toks) hk
  have fresh : ∀ c ∈ [n + 4, n + 2, n + 3, n, n + 1], FpOk X pins H1 c := fun c hc => by
    have le : n ≤ c := by
      have hc' : c = n + 4 ∨ c = n + 2 ∨ c = n + 3 ∨ c = n ∨ c = n + 1 := by simpa using hc
      rcases hc' with w | w | w | w | w <;> (rw [w]; first | exact Nat.le_refl _ | exact Nat.le_add_right _ _)
    exact I1.fpOk (by rw [hN]; exact le) (I1.hok.fresh (by rw [hN]; exact le))
  exact ⟨n + 4, [n + 4, n + 2, n + 3, n, n + 1], _, _, H1, rfl, I2, turn_zipM (PySem.W.ktu_apart n a b la lb), ⟨hz, hTI, ⟨_, _, hTO⟩, ⟨_, h1, rfl, rfl⟩, ⟨_, h2, rfl, rfl⟩⟩, fresh, q⟩
/-- as a walk, the two of one length -/
theorem walk_zipM {K : PySem.W.Frag} {a b : Addr} {xs ys : List V} (hl : xs.length = ys.length) : Walk (ItzM K a b) xs.length (fun H => SqT K H a xs ∧ SqL K H b ys) (YPair (fun i => xs[i]?) (fun i => ys[i]?)) where
  goes := fun i H hi q => ⟨xs, ys, xs[i], ys[i]'(by omega), q.1, q.2, by simp [hi], by simp [show i < ys.length by omega]⟩
  stops := fun H q => ⟨xs, ys, q.1, q.2, rfl, hl⟩
  yields := fun i H x H' hi q y => by
    obtain ⟨T, u, v, e1, e2, e3, f1, f2⟩ := y
    exact ⟨T, u, v, e1, e2, e3, f1 xs q.1, f2 ys q.2⟩
end
end Lt

set_option maxRecDepth 100000
set_option maxHeartbeats 4000000
/-! Values told as data (PyData): what evaluates to what. -/
namespace Lt
open PySem PySem.Spec L2 Evl

mutual
theorem ex_dp {K : PySem.W.Frag} {H H' : Hp} (e : Ex H H') : ∀ {v : V} {d : PyData}, Dp K H v d → Dp K H' v d
  | _, _, .non => .non
  | _, _, .bl b => .bl b
  | _, _, .int i => .int i
  | _, _, .str x => .str x
  | _, _, .lst h a => .lst (ex_l e h) (ex_dpA e a)
  | _, _, .tup h a => .tup (ex_t e h) (ex_dpA e a)
theorem ex_dpA {K : PySem.W.Frag} {H H' : Hp} (e : Ex H H') : ∀ {vs : List V} {ds : List PyData}, DpAll K H vs ds → DpAll K H' vs ds
  | _, _, .nil => .nil
  | _, _, .cons h a => .cons (ex_dp e h) (ex_dpA e a)
end
/- no list within -/
mutual
def noL : PyData → Bool
  | .list _ => false
  | .tuple ds => noLA ds
  | _ => true
def noLA : List PyData → Bool
  | [] => true
  | d :: r => noL d && noLA r
end
/-- two heaps that agree upon the tuples -/
def Tu (H H' : Hp) : Prop := (∀ a xs, H a = some (.tup xs) → H' a = some (.tup xs)) ∧ ∀ a o xs, H a = some (.frz o (.tup xs)) → H' a = some (.frz o (.tup xs))
theorem Tu.of_ex {H H' : Hp} (e : Ex H H') : Tu H H' := ⟨fun a xs h => e a _ h, fun a o xs h => e a _ h⟩
theorem Tu.trans {H H1 H2 : Hp} (a : Tu H H1) (b : Tu H1 H2) : Tu H H2 := ⟨fun c xs h => b.1 c xs (a.1 c xs h), fun c o xs h => b.2 c o xs (a.2 c o xs h)⟩
theorem Tu.put {H : Hp} {p : Addr} {xs ys : List V} (h : H p = some (.lst xs)) : Tu H (upd H p (.lst ys)) :=
  ⟨fun a zs e => by rw [upd_ne (ne_of e h (fun w => nomatch w))]; exact e, fun a o zs e => by rw [upd_ne (ne_of e h (fun w => nomatch w))]; exact e⟩
theorem Tu.putT {H : Hp} {p : Addr} {xs ys : List (List Key × V)} (h : H p = some (.dT xs)) : Tu H (upd H p (.dT ys)) :=
  ⟨fun a zs e => by rw [upd_ne (ne_of e h (fun w => nomatch w))]; exact e, fun a o zs e => by rw [upd_ne (ne_of e h (fun w => nomatch w))]; exact e⟩
theorem tu_t {K : PySem.W.Frag} {H H' : Hp} {a : Addr} {xs : List V} (e : Tu H H') (h : SqT K H a xs) : SqT K H' a xs := by
  rcases h with (h | ⟨o, h⟩) | h
  · exact Or.inl (Or.inl (e.1 a xs h))
  · exact Or.inl (Or.inr ⟨o, e.2 a o xs h⟩)
  · exact Or.inr h
mutual
theorem tu_dp {K : PySem.W.Frag} {H H' : Hp} (e : Tu H H') : ∀ {v : V} {d : PyData}, noL d = true → Dp K H v d → Dp K H' v d
  | _, _, _, .non => .non
  | _, _, _, .bl b => .bl b
  | _, _, _, .int i => .int i
  | _, _, _, .str x => .str x
  | _, _, n, .lst h a => by simp [noL] at n
  | _, _, n, .tup h a => .tup (tu_t e h) (tu_dpA e (by simpa [noL] using n) a)
theorem tu_dpA {K : PySem.W.Frag} {H H' : Hp} (e : Tu H H') : ∀ {vs : List V} {ds : List PyData}, noLA ds = true → DpAll K H vs ds → DpAll K H' vs ds
  | _, _, _, .nil => .nil
  | _, _, n, .cons h a => by
    simp only [noLA, Bool.and_eq_true] at n
    exact .cons (tu_dp e n.1 h) (tu_dpA e n.2 a)
end
theorem noLA_all {ds : List PyData} (h : ∀ d ∈ ds, noL d = true) : noLA ds = true := by
  induction ds with
  | nil => rfl
  | cons d r ih =>
    simp only [noLA, Bool.and_eq_true]
    exact ⟨h d List.mem_cons_self, ih fun x hx => h x (List.mem_cons_of_mem _ hx)⟩
theorem dpA_app {K : PySem.W.Frag} {H : Hp} {y : V} {d : PyData} : ∀ {vs : List V} {ds : List PyData}, DpAll K H vs ds → Dp K H y d → DpAll K H (vs ++ [y]) (ds ++ [d])
  | _, _, .nil, h => .cons h .nil
  | _, _, .cons h a, k => .cons h (dpA_app a k)
theorem dpA_get {K : PySem.W.Frag} {H : Hp} : ∀ {vs : List V} {ds : List PyData}, DpAll K H vs ds → ∀ {i : Nat} {d : PyData}, ds[i]? = some d → ∃ v, vs[i]? = some v ∧ Dp K H v d
  | _, _, .nil, i, d, h => by simp at h
  | _, _, .cons h1 h2, 0, d, h => by
    cases h
    exact ⟨_, rfl, h1⟩
  | _, _, .cons h1 h2, i + 1, d, h => by
    obtain ⟨v, e, w⟩ := dpA_get h2 (i := i) (d := d) (by simpa using h)
    exact ⟨v, by simpa using e, w⟩
theorem dpA_ints {K : PySem.W.Frag} {H : Hp} : ∀ ns : List Int, DpAll K H (ns.map V.int) (ns.map PyData.int)
  | [] => .nil
  | n :: r => .cons (.int n) (dpA_ints r)
theorem ints_dpA {K : PySem.W.Frag} {H : Hp} : ∀ {vs : List V} {ns : List Int}, DpAll K H vs (ns.map PyData.int) → vs = ns.map V.int
  | _, [], .nil => rfl
  | _, n :: r, .cons h a => by
    cases h
    rw [ints_dpA a]
    rfl
theorem dp_int {K : PySem.W.Frag} {H : Hp} {v : V} {i : Int} (h : Dp K H v (.int i)) : v = .int i := by
  cases h
  rfl
theorem dp_str {K : PySem.W.Frag} {H : Hp} {v : V} {i : Str} (h : Dp K H v (.str i)) : v = .str i := by
  cases h
  rfl
theorem dp_bool {K : PySem.W.Frag} {H : Hp} {v : V} {i : Bool} (h : Dp K H v (.bool i)) : v = .bl i := by
  cases h
  rfl
theorem dp_none {K : PySem.W.Frag} {H : Hp} {v : V} (h : Dp K H v .none) : v = .non := by
  cases h
  rfl
theorem dp_non_iff {K : PySem.W.Frag} {H : Hp} {v : V} {d : PyData} (h : Dp K H v d) : v = .non ↔ d = .none := by
  cases h <;> simp

/-! ### expressions -/
def EvD (K : PySem.W.Frag) (te : TE) (σ : L2.St) (H : Hp) (d : PyData) : Prop := ∀ H1, Ex H H1 → ∀ Q : VK, (∀ v H2, Ex H1 H2 → Dp K H2 v d → Q v H2) → te σ H1 Q
def EvDA (K : PySem.W.Frag) (ta : TA) (σ : L2.St) (H : Hp) (ds : List PyData) : Prop := ∀ H1, Ex H H1 → ∀ Q : List V → Hp → Prop, (∀ vs H2, Ex H1 H2 → DpAll K H2 vs ds → Q vs H2) → ta σ H1 Q
/-- a new list -/
def EvN (K : PySem.W.Frag) (te : TE) (σ : L2.St) (H : Hp) (ds : List PyData) : Prop := ∀ H1, Ex H H1 → ∀ Q : VK, (∀ p xs H2, H1 p = none → Ex H1 H2 → H2 p = some (.lst xs) → DpAll K H2 xs ds → Q (.ref p) H2) → te σ H1 Q
def RD2 (K : PySem.W.Frag) (r : R2) (d e : PyData) (H : Hp) (z : PyData) : Prop := ∀ H1, Ex H H1 → ∀ x y, Dp K H1 x d → Dp K H1 y e → ∀ Q : VK, (∀ v H2, Ex H1 H2 → Dp K H2 v z → Q v H2) → r x y H1 Q
def RDC (K : PySem.W.Frag) (r : List V → Hp → VK → Prop) (ds : List PyData) (H : Hp) (z : PyData) : Prop := ∀ H1, Ex H H1 → ∀ xs, DpAll K H1 xs ds → ∀ Q : VK, (∀ v H2, Ex H1 H2 → Dp K H2 v z → Q v H2) → r xs H1 Q

section
variable {K : PySem.W.Frag} {σ : L2.St} {H H' : Hp} {ta tb te tc : TE} {tl : TA} {t u : TT} {d e z : PyData} {ds : List PyData} {r r' : R2}
theorem EvD.mono (a : Ex H H') (h : EvD K te σ H d) : EvD K te σ H' d := fun H1 b Q q => h H1 (a.trans b) Q q
theorem EvDA.mono (a : Ex H H') (h : EvDA K tl σ H ds) : EvDA K tl σ H' ds := fun H1 b Q q => h H1 (a.trans b) Q q
theorem EvN.mono (a : Ex H H') (h : EvN K te σ H ds) : EvN K te σ H' ds := fun H1 b Q q => h H1 (a.trans b) Q q
theorem evn_d (h : EvN K te σ H ds) : EvD K te σ H (.list ds) := fun H1 b Q q => h H1 b Q fun p xs H2 _ e2 h2 hd => q _ H2 e2 (.lst (sq_of h2) hd)
theorem EvD.is (h : EvD K te σ H d) (w : d = e) : EvD K te σ H e := w ▸ h
theorem ed_var {i : Nat} {v : V} (h : σ[i]? = some (some v)) (hd : Dp K H v d) : EvD K (tVar i) σ H d := fun H1 a Q q => ⟨v, h, q v H1 (Ex.refl H1) (ex_dp a hd)⟩
theorem ed_c {v : V} (h : ∀ H, Dp K H v d) : EvD K (tC v) σ H d := fun H1 _ Q q => q v H1 (Ex.refl H1) (h H1)
theorem ed_int {i : Int} : EvD K (tC (.int i)) σ H (.int i) := ed_c fun _ => .int i
theorem ed_str {i : Str} : EvD K (tC (.str i)) σ H (.str i) := ed_c fun _ => .str i
theorem ed_bl {i : Bool} : EvD K (tC (.bl i)) σ H (.bool i) := ed_c fun _ => .bl i
theorem ed_non : EvD K (tC .non) σ H .none := ed_c fun _ => .non
theorem ed_op (ha : EvD K ta σ H d) (hb : EvD K tb σ H e) (hr : RD2 K r d e H z) : EvD K (tOp r ta tb) σ H z := fun H1 a Q q =>
  ha H1 a _ fun x H2 e2 hx => hb H2 (a.trans e2) _ fun y H3 e3 hy => hr H3 ((a.trans e2).trans e3) x y (ex_dp e3 hx) hy Q fun v H4 e4 hv => q v H4 ((e2.trans e3).trans e4) hv
theorem ed_un {f : V → Hp → VK → Prop} {i j : Int} (ha : EvD K ta σ H (.int i)) (hf : ∀ H Q, Q (.int j) H → f (.int i) H Q) : EvD K (tUn f ta) σ H (.int j) := fun H1 a Q q =>
  ha H1 a _ fun x H2 e2 hx => by
    rw [dp_int hx]
    exact hf H2 Q (q _ H2 e2 (.int j))
theorem ed_neg {i : Int} (ha : EvD K ta σ H (.int i)) : EvD K (tUn (rU fun i => .int (-i)) ta) σ H (.int (-i)) := ed_un ha fun _ _ q => ⟨i, rfl, q⟩
theorem rd_0 {g : Int → Int → V} {i j : Int} (h : ∀ H, Dp K H (g i j) z) : RD2 K (rI0 g) (.int i) (.int j) H z := fun H1 a x y hx hy Q q => ⟨i, j, dp_int hx, dp_int hy, q _ H1 (Ex.refl H1) (h H1)⟩
theorem rd_C {C : Int → Int → Prop} {g : Int → Int → V} {i j : Int} (hc : C i j) (h : ∀ H, Dp K H (g i j) z) : RD2 K (rI C g) (.int i) (.int j) H z := fun H1 a x y hx hy Q q => ⟨i, j, dp_int hx, dp_int hy, hc, q _ H1 (Ex.refl H1) (h H1)⟩
theorem rd_int {g : Int → Int → Int} {i j : Int} : RD2 K (rI0 fun i j => .int (g i j)) (.int i) (.int j) H (.int (g i j)) := rd_0 fun _ => .int _
theorem rd_intC {C : Int → Int → Prop} {g : Int → Int → Int} {i j : Int} (hc : C i j) : RD2 K (rI C fun i j => .int (g i j)) (.int i) (.int j) H (.int (g i j)) := rd_C hc fun _ => .int _
theorem rd_bl {g : Int → Int → Bool} {i j : Int} : RD2 K (rI0 fun i j => .bl (g i j)) (.int i) (.int j) H (.bool (g i j)) := rd_0 fun _ => .bl _
theorem rd_eqI {i j : Int} : RD2 K rEq (.int i) (.int j) H (.bool (decide (i = j))) := fun H1 a x y hx hy Q q => by
  rw [dp_int hx, dp_int hy]
  refine ⟨rfl, q _ H1 (Ex.refl H1) ?_⟩
  rw [show decide (V.int i = V.int j) = decide (i = j) by simp]
  exact .bl _
theorem rd_neI {i j : Int} : RD2 K rNe (.int i) (.int j) H (.bool (!decide (i = j))) := fun H1 a x y hx hy Q q => by
  rw [dp_int hx, dp_int hy]
  refine ⟨rfl, q _ H1 (Ex.refl H1) ?_⟩
  rw [show decide (V.int i = V.int j) = decide (i = j) by simp]
  exact .bl _
theorem rd_eqS {i j : Str} : RD2 K rEq (.str i) (.str j) H (.bool (decide (i = j))) := fun H1 a x y hx hy Q q => by
  rw [dp_str hx, dp_str hy]
  refine ⟨rfl, q _ H1 (Ex.refl H1) ?_⟩
  rw [show decide (V.str i = V.str j) = decide (i = j) by simp]
  exact .bl _
theorem rd_neS {i j : Str} : RD2 K rNe (.str i) (.str j) H (.bool (!decide (i = j))) := fun H1 a x y hx hy Q q => by
  rw [dp_str hx, dp_str hy]
  refine ⟨rfl, q _ H1 (Ex.refl H1) ?_⟩
  rw [show decide (V.str i = V.str j) = decide (i = j) by simp]
  exact .bl _
def isN : PyData → Bool
  | .none => true
  | _ => false
theorem isN_v {v : V} (h : Dp K H v d) : decide (v = .non) = isN d := by
  cases h <;> rfl
theorem rd_isN : RD2 K (fun x y H Q => y = .non ∧ Q (.bl (decide (x = .non))) H) d .none H (.bool (isN d)) := fun H1 a x y hx hy Q q => by
  refine ⟨dp_none hy, q _ H1 (Ex.refl H1) ?_⟩
  rw [isN_v hx]
  exact .bl _
theorem rd_notN : RD2 K (fun x y H Q => y = .non ∧ Q (.bl (!decide (x = .non))) H) d .none H (.bool (!isN d)) := fun H1 a x y hx hy Q q => by
  refine ⟨dp_none hy, q _ H1 (Ex.refl H1) ?_⟩
  rw [isN_v hx]
  exact .bl _
theorem atI_dp {vs : List V} {ds : List PyData} {i : Int} (h : DpAll K H vs ds) (ha : atI ds i = some d) : ∃ v, atI vs i = some v ∧ Dp K H v d := by
  unfold atI at ha ⊢
  rw [dpAll_len h]
  cases hx : ixN ds.length i with
  | none =>
    rw [hx] at ha
    cases ha
  | some j =>
    rw [hx] at ha
    exact dpA_get h ha
theorem rd_ixL {i : Int} (ha : atI ds i = some z) : RD2 K (rIxL K) (.list ds) (.int i) H z := fun H1 a x y hx hy Q q => by
  obtain ⟨p, xs, rfl, hs, hd⟩ := dp_lst hx
  obtain ⟨v, hv, hz⟩ := atI_dp hd ha
  exact ⟨p, xs, i, v, rfl, dp_int hy, hs, hv, q v H1 (Ex.refl H1) hz⟩
theorem rd_ixT {i : Int} (ha : atI ds i = some z) : RD2 K (rIxT K) (.tuple ds) (.int i) H z := fun H1 a x y hx hy Q q => by
  obtain ⟨p, xs, rfl, hs, hd⟩ := dp_tup hx
  obtain ⟨v, hv, hz⟩ := atI_dp hd ha
  exact ⟨p, xs, i, v, rfl, dp_int hy, hs, hv, q v H1 (Ex.refl H1) hz⟩
theorem ed_ixL {i : Int} (ha : EvD K ta σ H (.list ds)) (hb : EvD K tb σ H (.int i)) (h : atI ds i = some z) : EvD K (tOp (rIxL K) ta tb) σ H z := ed_op ha hb (rd_ixL h)
theorem ed_ixT {i : Int} (ha : EvD K ta σ H (.tuple ds)) (hb : EvD K tb σ H (.int i)) (h : atI ds i = some z) : EvD K (tOp (rIxT K) ta tb) σ H z := ed_op ha hb (rd_ixT h)
theorem eda_nil : EvDA K tNil σ H [] := fun H1 _ Q q => q [] H1 (Ex.refl H1) .nil
theorem eda_cons {tr : TA} (h : EvD K ta σ H d) (hr : EvDA K tr σ H ds) : EvDA K (tCons ta tr) σ H (d :: ds) := fun H1 a Q q =>
  h H1 a _ fun x H2 e2 hx => hr H2 (a.trans e2) _ fun xs H3 e3 hxs => q _ H3 (e2.trans e3) (.cons (ex_dp e3 hx) hxs)
theorem ed_tup (h : EvDA K tl σ H ds) (hl : ds.length ≤ 100000 := by simp) : EvD K (tTup tl) σ H (.tuple ds) := fun H1 a Q q =>
  h H1 a _ fun xs H2 e2 hd => ⟨by rw [dpAll_len hd]; exact sz_of hl, fun p hp => q _ _ (e2.trans (Ex.new hp)) (.tup (st_of upd_same) (ex_dpA (Ex.new hp) hd))⟩
theorem en_lst (h : EvDA K tl σ H ds) (hl : ds.length ≤ 100000 := by simp) : EvN K (tLst tl) σ H ds := fun H1 a Q q =>
  h H1 a _ fun xs H2 e2 hd => ⟨by rw [dpAll_len hd]; exact sz_of hl, fun p hp => q p xs _ (fresh_back e2 hp) (e2.trans (Ex.new hp)) upd_same (ex_dpA (Ex.new hp) hd)⟩
theorem ed_cb {f : List V → Hp → VK → Prop} (h : EvDA K tl σ H ds) (hr : RDC K f ds H z) : EvD K (tCB f tl) σ H z := fun H1 a Q q =>
  h H1 a _ fun xs H2 e2 hd => hr H2 (a.trans e2) xs hd Q fun v H3 e3 hv => q v H3 (e2.trans e3) hv
theorem rdc_lenL : RDC K (fun xs H Q => ∃ p ys, xs = [.ref p] ∧ (SqL K H p ys ∨ SqT K H p ys) ∧ Q (.int ys.length) H) [.list ds] H (.int (ds.length : Int)) := fun H1 a xs hx Q q => by
  cases hx with
  | cons h1 h2 =>
    cases h2
    obtain ⟨p, ys, rfl, hs, hd⟩ := dp_lst h1
    refine ⟨p, ys, rfl, .inl hs, q _ H1 (Ex.refl H1) ?_⟩
    rw [dpAll_len hd]
    exact .int _
theorem rdc_lenT : RDC K (fun xs H Q => ∃ p ys, xs = [.ref p] ∧ (SqL K H p ys ∨ SqT K H p ys) ∧ Q (.int ys.length) H) [.tuple ds] H (.int (ds.length : Int)) := fun H1 a xs hx Q q => by
  cases hx with
  | cons h1 h2 =>
    cases h2
    obtain ⟨p, ys, rfl, hs, hd⟩ := dp_tup h1
    refine ⟨p, ys, rfl, .inr hs, q _ H1 (Ex.refl H1) ?_⟩
    rw [dpAll_len hd]
    exact .int _
theorem rdc_minI {i j : Int} : RDC K (fun xs H Q => ∃ i j, xs = [.int i, .int j] ∧ Q (.int (if j < i then j else i)) H) [.int i, .int j] H (.int (min i j)) := fun H1 a xs hx Q q => by
  cases hx with
  | cons h1 h2 =>
    cases h2 with
    | cons h2 h3 =>
      cases h3
      rw [dp_int h1, dp_int h2]
      refine ⟨i, j, rfl, q _ H1 (Ex.refl H1) ?_⟩
      rw [show (if j < i then j else i) = min i j by split <;> omega]
      exact .int _
theorem rdc_maxI {i j : Int} : RDC K (fun xs H Q => ∃ i j, xs = [.int i, .int j] ∧ Q (.int (if j > i then j else i)) H) [.int i, .int j] H (.int (max i j)) := fun H1 a xs hx Q q => by
  cases hx with
  | cons h1 h2 =>
    cases h2 with
    | cons h2 h3 =>
      cases h3
      rw [dp_int h1, dp_int h2]
      refine ⟨i, j, rfl, q _ H1 (Ex.refl H1) ?_⟩
      rw [show (if j > i then j else i) = max i j by split <;> omega]
      exact .int _
theorem ed_chain {k1 k2 : Bool} (ha : EvD K ta σ H d) (hb : EvD K tb σ H e) (hc : EvD K tc σ H z) (h1 : RD2 K r d e H (.bool k1)) (h2 : RD2 K r' e z H (.bool k2)) : EvD K (tChain r r' ta tb tc) σ H (.bool (k1 && k2)) := fun H1 a Q q =>
  ha H1 a _ fun x H2 e2 hx => hb H2 (a.trans e2) _ fun y H3 e3 hy => h1 H3 ((a.trans e2).trans e3) x y (ex_dp e3 hx) hy _ fun v H4 e4 hv => by
    have a4 := ((a.trans e2).trans e3).trans e4
    have b4 := (e2.trans e3).trans e4
    refine ⟨k1, dp_bool hv, ?_⟩
    cases k1 with
    | true =>
      show tc σ H4 _
      exact hc H4 a4 _ fun w H5 e5 hw => h2 H5 (a4.trans e5) y w (ex_dp (e4.trans e5) hy) hw Q fun v H6 e6 hv => q v H6 ((b4.trans e5).trans e6) hv
    | false =>
      show Q (.bl false) H4
      exact q _ H4 b4 (.bl false)
/-! ### tests -/
theorem dt_test {b : Bool} (h : EvD K te σ H (.bool b)) : EvT (tTest te) σ H b := fun H1 a _ q => h H1 a _ fun v H2 e2 hv => ⟨b, dp_bool hv, q H2 e2⟩
theorem dt_B {b : Bool} (h : EvD K te σ H (.bool b)) : EvT (tB te) σ H b := fun H1 a _ q => h H1 a _ fun v H2 e2 hv => ⟨b, dp_bool hv, q H2 e2⟩
theorem ed_andV {a b : Bool} (h1 : EvD K ta σ H (.bool a)) (h2 : a = true → EvD K tb σ H (.bool b)) : EvD K (tAndV ta tb) σ H (.bool (a && b)) := fun H1 x Q q => h1 H1 x _ fun v H2 e2 hv => ⟨a, dp_bool hv, by
  cases a with
  | true =>
    show tb σ H2 Q
    exact h2 rfl H2 (x.trans e2) Q fun v H3 e3 hv => q v H3 (e2.trans e3) hv
  | false =>
    show Q (.bl false) H2
    exact q _ H2 e2 (.bl false)⟩
theorem ed_orV {a b : Bool} (h1 : EvD K ta σ H (.bool a)) (h2 : a = false → EvD K tb σ H (.bool b)) : EvD K (tOrV ta tb) σ H (.bool (a || b)) := fun H1 x Q q => h1 H1 x _ fun v H2 e2 hv => ⟨a, dp_bool hv, by
  cases a with
  | true =>
    show Q (.bl true) H2
    exact q _ H2 e2 (.bl true)
  | false =>
    show tb σ H2 Q
    exact h2 rfl H2 (x.trans e2) Q fun v H3 e3 hv => q v H3 (e2.trans e3) hv⟩
theorem ed_notV {a : Bool} (h1 : EvD K ta σ H (.bool a)) : EvD K (tNotV ta) σ H (.bool (!a)) := fun H1 x Q q => h1 H1 x _ fun v H2 e2 hv => ⟨a, dp_bool hv, q _ H2 e2 (.bl _)⟩
/-! ### a list of the call's own -/
theorem ed_ref {i : Nat} {a : Addr} {xs : List V} (h : σ[i]? = some (some (.ref a))) (hl : H a = some (.lst xs)) (hd : DpAll K H xs ds) : EvD K (tVar i) σ H (.list ds) := ed_var h (.lst (sq_of hl) hd)

/-! ### statements -/
variable {D : Ends} {tu tw tz : TS} {g : TG}
theorem qd_asg {i : Nat} (h : EvD K te σ H d) (k : ∀ v H1, Ex H H1 → Dp K H1 v d → tz D (σ.set i (some v)) H1) : tSeq (tAsg te (gName i)) tz D σ H := h H (Ex.refl H) _ k
theorem qd_asgN {i : Nat} (h : EvN K te σ H ds) (k : ∀ p xs H1, H p = none → Ex H H1 → H1 p = some (.lst xs) → DpAll K H1 xs ds → tz D (σ.set i (some (.ref p))) H1) : tSeq (tAsg te (gName i)) tz D σ H := h H (Ex.refl H) _ k
theorem sd_asg {i : Nat} (h : EvD K te σ H d) (k : ∀ v H1, Ex H H1 → Dp K H1 v d → D.nx (σ.set i (some v)) H1) : tAsg te (gName i) D σ H := h H (Ex.refl H) _ k
theorem sd_ret (h : EvD K te σ H d) (k : ∀ v H1, Ex H H1 → Dp K H1 v d → D.rt v H1) : tRet te D σ H := h H (Ex.refl H) _ k
theorem sd_retN (h : EvN K te σ H ds) (k : ∀ p xs H1, H p = none → Ex H H1 → H1 p = some (.lst xs) → DpAll K H1 xs ds → D.rt (.ref p) H1) : tRet te D σ H := h H (Ex.refl H) _ k
theorem qd_drop (h : EvD K te σ H d) (k : ∀ H1, Ex H H1 → tz D σ H1) : tSeq (tDrop te) tz D σ H := h H (Ex.refl H) _ fun v H1 e1 _ => k H1 e1
/-- xs.append(e) -/
theorem sd_app {l : Addr} {xs : List V} (hl : H l = some (.lst xs)) (ha : Ev ta σ H (.ref l)) (h : EvD K te σ H d) (hz : xs.length < 100000) (k : ∀ v H1, Ex H H1 → Dp K H1 v d → D.nx σ (upd H1 l (.lst (xs ++ [v])))) :
    tDrop (tBM K "list" rAppend ta (tCons te tNil)) D σ H := ha H (Ex.refl H) _ fun H1 e1 =>
  ⟨Or.inl ⟨rfl, xs, sq_of (e1 l _ hl)⟩, h H1 e1 _ fun v H2 e2 hv => ⟨l, xs, v, rfl, rfl, e2 l _ (e1 l _ hl), sz_lt hz, k v H2 (e1.trans e2) hv⟩⟩
theorem qd_app {l : Addr} {xs : List V} (hl : H l = some (.lst xs)) (ha : Ev ta σ H (.ref l)) (h : EvD K te σ H d) (hz : xs.length < 100000) (k : ∀ v H1, Ex H H1 → Dp K H1 v d → tz D σ (upd H1 l (.lst (xs ++ [v])))) :
    tSeq (tDrop (tBM K "list" rAppend ta (tCons te tNil))) tz D σ H := sd_app (D := { D with nx := tz D }) hl ha h hz k
/-- xs[i] = e -/
theorem sd_set {l : Addr} {xs : List V} {j : Nat} (hl : H l = some (.lst xs)) (h : EvD K te σ H d) (ho : Ev ta σ H (.ref l)) (hi : EvD K tb σ H (.int (j : Int))) (hj : j < xs.length) (k : ∀ v H1, Ex H H1 → Dp K H1 v d → D.nx σ (upd H1 l (.lst (xs.set j v)))) :
    tAsg te (gSub ta tb rSetL) D σ H := h H (Ex.refl H) _ fun v H1 e1 hv => ho H1 e1 _ fun H2 e2 => hi H2 (e1.trans e2) _ fun y H3 e3 hy =>
  ⟨l, xs, (j : Int), j, rfl, dp_int hy, ((e1.trans e2).trans e3) l _ hl, ixN_nat hj, k v H3 ((e1.trans e2).trans e3) (ex_dp (e2.trans e3) hv)⟩
theorem qd_set {l : Addr} {xs : List V} {j : Nat} (hl : H l = some (.lst xs)) (h : EvD K te σ H d) (ho : Ev ta σ H (.ref l)) (hi : EvD K tb σ H (.int (j : Int))) (hj : j < xs.length) (k : ∀ v H1, Ex H H1 → Dp K H1 v d → tz D σ (upd H1 l (.lst (xs.set j v)))) :
    tSeq (tAsg te (gSub ta tb rSetL)) tz D σ H := sd_set (D := { D with nx := tz D }) hl h ho hi hj k
theorem ev_d {v : V} (h : Ev te σ H v) (hd : Dp K H v d) : EvD K te σ H d := fun H1 a Q q => h H1 a Q fun H2 e2 => q v H2 e2 (ex_dp (a.trans e2) hd)
theorem d_evI {i : Int} (h : EvD K te σ H (.int i)) : Ev te σ H (.int i) := fun H1 a Q q => h H1 a Q fun v H2 e2 hv => by
  rw [dp_int hv]
  exact q H2 e2
end
end Lt

set_option maxRecDepth 100000
set_option maxHeartbeats 4000000
/-! Plain mathematics: webs, walks, how far places are. -/
namespace Lt
abbrev Tie := Nat × Nat × Int
abbrev Web := Nat × List Tie
def Edge (W : Web) (a b : Nat) (l : Int) : Prop := (a, b, l) ∈ W.2 ∨ (b, a, l) ∈ W.2
inductive Walk (W : Web) : Nat → Nat → Int → Prop
  | nil (a : Nat) : Walk W a a 0
  | cons {a b c : Nat} {l x : Int} : Edge W a b l → Walk W b c x → Walk W a c (l + x)
structure Good (W : Web) : Prop where
  pos : 1 ≤ W.1
  small : W.1 ≤ 10
  few : W.2.length ≤ 40
  tie : ∀ t ∈ W.2, t.1 < t.2.1 ∧ t.2.1 < W.1 ∧ 1 ≤ t.2.2 ∧ t.2.2 ≤ 10 ^ 30
  apart : (W.2.map fun t => (t.1, t.2.1)).Nodup
  conn : ∀ a b, a < W.1 → b < W.1 → ∃ x, Walk W a b x
theorem Edge.symm {W : Web} {a b : Nat} {l : Int} (h : Edge W a b l) : Edge W b a l := Or.symm h
section
variable {W : Web}
theorem Good.edge (G : Good W) {a b : Nat} {l : Int} (h : Edge W a b l) : a ≠ b ∧ a < W.1 ∧ b < W.1 ∧ 1 ≤ l ∧ l ≤ 10 ^ 30 := by
  rcases h with h | h
  · obtain ⟨h1, h2, h3, h4⟩ := G.tie _ h
    simp only at h1 h2 h3 h4
    exact ⟨by omega, by omega, by omega, h3, h4⟩
  · obtain ⟨h1, h2, h3, h4⟩ := G.tie _ h
    simp only at h1 h2 h3 h4
    exact ⟨by omega, by omega, by omega, h3, h4⟩
theorem nodup_map_inj {α β : Type} {f : α → β} : ∀ {l : List α}, (l.map f).Nodup → ∀ {x y : α}, x ∈ l → y ∈ l → f x = f y → x = y
  | [], _, _, _, h, _, _ => nomatch h
  | z :: r, hn, x, y, hx, hy, e => by
    rw [List.map_cons, List.nodup_cons] at hn
    rcases List.mem_cons.mp hx with e1 | hx
    · rcases List.mem_cons.mp hy with e2 | hy
      · rw [e1, e2]
      · exact absurd (List.mem_map.mpr ⟨y, hy, by rw [← e, e1]⟩) hn.1
    · rcases List.mem_cons.mp hy with e2 | hy
      · exact absurd (List.mem_map.mpr ⟨x, hx, by rw [e, e2]⟩) hn.1
      · exact nodup_map_inj hn.2 hx hy e
theorem Good.edge_one (G : Good W) {a b : Nat} {l l' : Int} (h : Edge W a b l) (h' : Edge W a b l') : l = l' := by
  rcases h with h | h <;> rcases h' with h' | h'
  · have := nodup_map_inj G.apart h h' rfl
    injection this with _ this
    injection this
  · have h1 := (G.tie _ h).1
    have h2 := (G.tie _ h').1
    simp only at h1 h2
    omega
  · have h1 := (G.tie _ h).1
    have h2 := (G.tie _ h').1
    simp only at h1 h2
    omega
  · have := nodup_map_inj G.apart h h' rfl
    injection this with _ this
    injection this
theorem Walk.nonneg (G : Good W) {a b : Nat} {x : Int} (h : Walk W a b x) : 0 ≤ x := by
  induction h with
  | nil => exact Int.le_refl 0
  | cons e _ ih =>
    have := (G.edge e).2.2.2.1
    omega
theorem Walk.app {a b c : Nat} {x y : Int} (h : Walk W a b x) (k : Walk W b c y) : Walk W a c (x + y) := by
  induction h with
  | nil =>
    rw [Int.zero_add]
    exact k
  | cons e _ ih =>
    rw [Int.add_assoc]
    exact .cons e (ih k)
theorem Walk.one {a b : Nat} {l : Int} (e : Edge W a b l) : Walk W a b l := by
  have := Walk.cons e (Walk.nil b)
  rwa [Int.add_zero] at this
theorem Walk.snoc {a b c : Nat} {x l : Int} (h : Walk W a b x) (e : Edge W b c l) : Walk W a c (x + l) := h.app (.one e)
def IsDist (W : Web) (a b : Nat) (x : Int) : Prop := Walk W a b x ∧ ∀ y, Walk W a b y → x ≤ y
theorem IsDist.unique {a b : Nat} {x y : Int} (h : IsDist W a b x) (k : IsDist W a b y) : x = y := Int.le_antisymm (h.2 y k.1) (k.2 x h.1)
theorem dist_there (G : Good W) {a b : Nat} : ∀ (n : Nat) (x : Int), Walk W a b x → x.toNat ≤ n → ∃ m, IsDist W a b m
  | 0, x, h, hn => ⟨x, h, fun y hy => by
    have := hy.nonneg G
    omega⟩
  | n + 1, x, h, hn => by
    by_cases q : ∃ y, Walk W a b y ∧ y < x
    · obtain ⟨y, hy, hlt⟩ := q
      have := hy.nonneg G
      exact dist_there G n y hy (by omega)
    · exact ⟨x, h, fun y hy => by
        refine Int.not_lt.mp fun z => q ⟨y, hy, z⟩⟩
open Classical in
noncomputable def far (W : Web) (a b : Nat) : Int := if h : ∃ x, IsDist W a b x then Classical.choose h else 0
theorem far_of {a b : Nat} {x : Int} (h : IsDist W a b x) : far W a b = x := by
  have q : ∃ x, IsDist W a b x := ⟨x, h⟩
  unfold far
  rw [dif_pos q]
  exact IsDist.unique (Classical.choose_spec q) h
theorem Good.far (G : Good W) {a b : Nat} (ha : a < W.1) (hb : b < W.1) : IsDist W a b (far W a b) := by
  obtain ⟨x, h⟩ := G.conn a b ha hb
  obtain ⟨m, hm⟩ := dist_there G _ x h (Nat.le_refl _)
  rw [far_of hm]
  exact hm
theorem far_self (G : Good W) (a : Nat) : far W a a = 0 := far_of ⟨.nil a, fun y h => h.nonneg G⟩
theorem far_nonneg (G : Good W) {a b : Nat} (ha : a < W.1) (hb : b < W.1) : 0 ≤ far W a b := (G.far ha hb).1.nonneg G
theorem far_edge (G : Good W) {a b c : Nat} {l : Int} (e : Edge W a c l) (hb : b < W.1) : far W a b ≤ l + far W c b := by
  obtain ⟨_, h1, h2, _⟩ := G.edge e
  exact (G.far h1 hb).2 _ (.cons e (G.far h2 hb).1)
theorem far_step (G : Good W) {a b : Nat} (ha : a < W.1) (hb : b < W.1) (ne : a ≠ b) : ∃ c l, Edge W a c l ∧ l + far W c b = far W a b := by
  have h := (G.far ha hb).1
  generalize hz : far W a b = z at h ⊢
  cases h with
  | nil => exact absurd rfl ne
  | @cons _ c _ l x e k =>
    refine ⟨c, l, e, ?_⟩
    have h1 := far_edge G e hb
    have h2 := (G.far (G.edge e).2.2.1 hb).2 x k
    omega
theorem far_pos (G : Good W) {a b : Nat} (ha : a < W.1) (hb : b < W.1) (ne : a ≠ b) : 1 ≤ far W a b := by
  obtain ⟨c, l, e, h⟩ := far_step G ha hb ne
  obtain ⟨_, _, h2, h3, _⟩ := G.edge e
  have := far_nonneg G h2 hb
  omega

/-! ### neighbours, steps -/
def adjL (a : Nat) (ts : List Tie) : List (Nat × Int) := (ts.filter fun t => decide (t.1 = a)).map fun t => (t.2.1, t.2.2)
def adjR (a : Nat) (ts : List Tie) : List (Nat × Int) := (ts.filter fun t => decide (t.2.1 = a)).map fun t => (t.1, t.2.2)
def adj (W : Web) (a : Nat) : List (Nat × Int) := adjL a W.2 ++ adjR a W.2
theorem mem_adjL {a : Nat} {ts : List Tie} {p : Nat × Int} : p ∈ adjL a ts ↔ (a, p.1, p.2) ∈ ts := by
  unfold adjL
  rw [List.mem_map]
  constructor
  · rintro ⟨t, ht, rfl⟩
    rw [List.mem_filter, decide_eq_true_eq] at ht
    obtain ⟨h1, h2⟩ := ht
    subst h2
    exact h1
  · intro h
    exact ⟨_, List.mem_filter.mpr ⟨h, by simp⟩, rfl⟩
theorem mem_adjR {a : Nat} {ts : List Tie} {p : Nat × Int} : p ∈ adjR a ts ↔ (p.1, a, p.2) ∈ ts := by
  unfold adjR
  rw [List.mem_map]
  constructor
  · rintro ⟨t, ht, rfl⟩
    rw [List.mem_filter, decide_eq_true_eq] at ht
    obtain ⟨h1, h2⟩ := ht
    subst h2
    exact h1
  · intro h
    exact ⟨_, List.mem_filter.mpr ⟨h, by simp⟩, rfl⟩
theorem mem_adj {a : Nat} {p : Nat × Int} : p ∈ adj W a ↔ Edge W a p.1 p.2 := by
  unfold adj Edge
  rw [List.mem_append, mem_adjL, mem_adjR]
theorem nodup_map {α β : Type} {f : α → β} : ∀ {l : List α}, l.Nodup → (∀ x ∈ l, ∀ y ∈ l, f x = f y → x = y) → (l.map f).Nodup
  | [], _, _ => List.nodup_nil
  | z :: r, hn, hf => by
    rw [List.nodup_cons] at hn
    rw [List.map_cons, List.nodup_cons]
    refine ⟨fun hm => ?_, nodup_map hn.2 fun x hx y hy => hf x (List.mem_cons_of_mem _ hx) y (List.mem_cons_of_mem _ hy)⟩
    obtain ⟨y, hy, e⟩ := List.mem_map.mp hm
    have := hf y (List.mem_cons_of_mem _ hy) z List.mem_cons_self e
    exact hn.1 (this ▸ hy)
theorem nodup_of_map {α β : Type} {f : α → β} : ∀ {l : List α}, (l.map f).Nodup → l.Nodup
  | [], _ => List.nodup_nil
  | z :: r, h => by
    rw [List.map_cons, List.nodup_cons] at h
    rw [List.nodup_cons]
    exact ⟨fun hm => h.1 (List.mem_map.mpr ⟨z, hm, rfl⟩), nodup_of_map h.2⟩
theorem Good.ties_nodup (G : Good W) : W.2.Nodup := nodup_of_map G.apart
theorem adj_keys (G : Good W) (a : Nat) : ((adj W a).map (·.1)).Nodup := by
  have hn : (adj W a).Nodup := by
    unfold adj
    rw [List.nodup_append]
    refine ⟨?_, ?_, fun x hx y hy e => ?_⟩
    · refine nodup_map (List.Nodup.sublist List.filter_sublist G.ties_nodup) fun x hx y hy e => ?_
      have h1 := of_decide_eq_true (List.mem_filter.mp hx).2
      have h2 := of_decide_eq_true (List.mem_filter.mp hy).2
      obtain ⟨x1, x2, x3⟩ := x
      obtain ⟨y1, y2, y3⟩ := y
      simp only [Prod.mk.injEq] at e h1 h2 ⊢
      omega
    · refine nodup_map (List.Nodup.sublist List.filter_sublist G.ties_nodup) fun x hx y hy e => ?_
      have h1 := of_decide_eq_true (List.mem_filter.mp hx).2
      have h2 := of_decide_eq_true (List.mem_filter.mp hy).2
      obtain ⟨x1, x2, x3⟩ := x
      obtain ⟨y1, y2, y3⟩ := y
      simp only [Prod.mk.injEq] at e h1 h2 ⊢
      omega
    · subst e
      have h1 := (G.tie _ (mem_adjL.mp hx)).1
      have h2 := (G.tie _ (mem_adjR.mp hy)).1
      simp only at h1 h2
      omega
  refine nodup_map hn fun x hx y hy e => ?_
  have h1 := mem_adj.mp hx
  have h2 := mem_adj.mp hy
  obtain ⟨x1, x2⟩ := x
  obtain ⟨y1, y2⟩ := y
  simp only at e h1 h2
  subst e
  rw [G.edge_one h1 h2]
noncomputable def isStep (W : Web) (a b : Nat) (p : Nat × Int) : Bool := decide (p.2 + far W p.1 b = far W a b)
noncomputable def cnt (W : Web) (a b : Nat) : Nat := ((adj W a).filter (isStep W a b)).length
def Lone (W : Web) : Prop := ∀ a b, a < W.1 → b < W.1 → a ≠ b → cnt W a b = 1
theorem cnt_pos (G : Good W) {a b : Nat} (ha : a < W.1) (hb : b < W.1) (ne : a ≠ b) : 1 ≤ cnt W a b := by
  obtain ⟨c, l, e, h⟩ := far_step G ha hb ne
  unfold cnt
  have hm : (c, l) ∈ adj W a := mem_adj.mpr e
  have hs : isStep W a b (c, l) = true := decide_eq_true h
  exact List.length_pos_of_mem (List.mem_filter.mpr ⟨hm, hs⟩)
end
end Lt

set_option maxRecDepth 100000
set_option maxHeartbeats 4000000
/-! The nearest open place, again and again. -/
namespace Lt
abbrev Fars := List (Option Int)
/-- what stands at i -/
def nth (f : Fars) (i : Nat) : Option Int := (f[i]?).join
theorem nth_set {f : Fars} {i j : Nat} {v : Option Int} (hj : j < f.length) : nth (f.set j v) i = if i = j then v else nth f i := by
  unfold nth
  rw [List.getElem?_set]
  by_cases e : j = i
  · rw [if_pos e, if_pos e.symm, if_pos (by omega)]
    rfl
  · rw [if_neg e, if_neg (fun q => e q.symm)]
def better (o : Option Int) (y : Int) : Bool := match o with
  | none => true
  | some z => decide (y < z)
def relax (x : Int) (f : Fars) (p : Nat × Int) : Fars := if better (nth f p.1) (x + p.2) = true then f.set p.1 (some (x + p.2)) else f
theorem relax_len (x : Int) (f : Fars) (p : Nat × Int) : (relax x f p).length = f.length := by
  unfold relax
  split
  · rw [List.length_set]
  · rfl
theorem relaxes_len (x : Int) : ∀ (l : List (Nat × Int)) (f : Fars), (l.foldl (relax x) f).length = f.length
  | [], _ => rfl
  | p :: r, f => by rw [List.foldl_cons, relaxes_len x r, relax_len]
/-- one relaxing: from where a value comes, no value rises, the new one is taken -/
theorem relax_1 {x : Int} {f : Fars} {p : Nat × Int} (hp : p.1 < f.length) {i : Nat} {y : Int} (h : nth (relax x f p) i = some y) : nth f i = some y ∨ (i = p.1 ∧ y = x + p.2) := by
  unfold relax at h
  split at h
  · rw [nth_set hp] at h
    split at h
    · injection h with h
      exact .inr ⟨by assumption, h.symm⟩
    · exact .inl h
  · exact .inl h
theorem relax_2 {x : Int} {f : Fars} {p : Nat × Int} (hp : p.1 < f.length) {i : Nat} {y : Int} (h : nth f i = some y) : ∃ z, nth (relax x f p) i = some z ∧ z ≤ y := by
  unfold relax
  split
  · rename_i hb
    rw [nth_set hp]
    split
    · rename_i e
      subst e
      rw [h] at hb
      unfold better at hb
      exact ⟨_, rfl, by have := of_decide_eq_true hb; omega⟩
    · exact ⟨y, h, Int.le_refl _⟩
  · exact ⟨y, h, Int.le_refl _⟩
theorem relax_3 {x : Int} {f : Fars} {p : Nat × Int} (hp : p.1 < f.length) : ∃ z, nth (relax x f p) p.1 = some z ∧ z ≤ x + p.2 := by
  unfold relax
  split
  · rw [nth_set hp, if_pos rfl]
    exact ⟨_, rfl, Int.le_refl _⟩
  · rename_i hb
    cases e : nth f p.1 with
    | none =>
      rw [e] at hb
      exact absurd rfl hb
    | some z =>
      rw [e] at hb
      unfold better at hb
      have : ¬ (x + p.2 < z) := fun q => hb (decide_eq_true q)
      exact ⟨z, rfl, by omega⟩
theorem relaxes_1 {x : Int} : ∀ {l : List (Nat × Int)} {f : Fars}, (∀ p ∈ l, p.1 < f.length) → ∀ {i : Nat} {y : Int}, nth (l.foldl (relax x) f) i = some y → nth f i = some y ∨ ∃ w, (i, w) ∈ l ∧ y = x + w
  | [], _, _, _, _, h => .inl h
  | p :: r, f, hl, i, y, h => by
    rw [List.foldl_cons] at h
    rcases relaxes_1 (l := r) (fun q hq => by rw [relax_len]; exact hl q (List.mem_cons_of_mem _ hq)) h with h | ⟨w, hw, e⟩
    · rcases relax_1 (hl p List.mem_cons_self) h with h | ⟨rfl, e⟩
      · exact .inl h
      · exact .inr ⟨p.2, List.mem_cons_self, e⟩
    · exact .inr ⟨w, List.mem_cons_of_mem _ hw, e⟩
theorem relaxes_2 {x : Int} : ∀ {l : List (Nat × Int)} {f : Fars}, (∀ p ∈ l, p.1 < f.length) → ∀ {i : Nat} {y : Int}, nth f i = some y → ∃ z, nth (l.foldl (relax x) f) i = some z ∧ z ≤ y
  | [], _, _, _, y, h => ⟨y, h, Int.le_refl _⟩
  | p :: r, f, hl, i, y, h => by
    obtain ⟨z, h1, h2⟩ := relax_2 (x := x) (hl p List.mem_cons_self) h
    obtain ⟨z', h3, h4⟩ := relaxes_2 (x := x) (l := r) (fun q hq => by rw [relax_len]; exact hl q (List.mem_cons_of_mem _ hq)) h1
    exact ⟨z', h3, Int.le_trans h4 h2⟩
theorem relaxes_3 {x : Int} : ∀ {l : List (Nat × Int)} {f : Fars}, (∀ p ∈ l, p.1 < f.length) → ∀ {i : Nat} {w : Int}, (i, w) ∈ l → ∃ z, nth (l.foldl (relax x) f) i = some z ∧ z ≤ x + w
  | [], _, _, _, _, h => nomatch h
  | p :: r, f, hl, i, w, h => by
    have hr : ∀ q ∈ r, q.1 < (relax x f p).length := fun q hq => by rw [relax_len]; exact hl q (List.mem_cons_of_mem _ hq)
    rw [List.foldl_cons]
    rcases List.mem_cons.mp h with e | h
    · subst e
      obtain ⟨z, h1, h2⟩ := relax_3 (x := x) (hl _ List.mem_cons_self)
      obtain ⟨z', h3, h4⟩ := relaxes_2 (x := x) hr h1
      exact ⟨z', h3, Int.le_trans h4 h2⟩
    · exact relaxes_3 hr h
/-- fars at here stay: no neighbour is the place itself -/
theorem relaxes_same {x : Int} : ∀ {l : List (Nat × Int)} {f : Fars} {i : Nat}, (∀ p ∈ l, p.1 < f.length ∧ p.1 ≠ i) → nth (l.foldl (relax x) f) i = nth f i
  | [], _, _, _ => rfl
  | p :: r, f, i, hl => by
    rw [List.foldl_cons, relaxes_same (fun q hq => ⟨by rw [relax_len]; exact (hl q (List.mem_cons_of_mem _ hq)).1, (hl q (List.mem_cons_of_mem _ hq)).2⟩)]
    have := hl p List.mem_cons_self
    unfold relax
    split
    · rw [nth_set this.1, if_neg (fun e => this.2 e.symm)]
    · rfl
def isDone (d : List Bool) (i : Nat) : Bool := (d[i]?).getD false
theorem done_set {d : List Bool} {i j : Nat} (hj : j < d.length) : isDone (d.set j true) i = if i = j then true else isDone d i := by
  unfold isDone
  rw [List.getElem?_set]
  by_cases e : j = i
  · rw [if_pos e, if_pos e.symm, if_pos (by omega)]
    rfl
  · rw [if_neg e, if_neg (fun q => e q.symm)]
structure Dij (W : Web) (p : Nat) (f : Fars) (d : List Bool) : Prop where
  lf : f.length = W.1
  ld : d.length = W.1
  sound : ∀ i y, nth f i = some y → Walk W p i y
  src : nth f p = some 0
  fin : ∀ i, isDone d i = true → ∃ y, nth f i = some y ∧ ∀ z, Walk W p i z → y ≤ z
  rel : ∀ i y j l, isDone d i = true → nth f i = some y → Edge W i j l → ∃ z, nth f j = some z ∧ z ≤ y + l
/-- the nearest of the open ones -/
def Nearest (f : Fars) (d : List Bool) (h : Nat) : Prop := h < f.length ∧ isDone d h = false ∧ ∃ x, nth f h = some x ∧ ∀ j y, nth f j = some y → isDone d j = false → x ≤ y
section
variable {W : Web} {p : Nat} {f : Fars} {d : List Bool}
theorem dij_front (G : Good W) (J : Dij W p f d) {u v : Nat} {z : Int} (h : Walk W u v z) : ∀ y, isDone d u = true → nth f u = some y → isDone d v = false → ∃ j w, nth f j = some w ∧ isDone d j = false ∧ w ≤ y + z := by
  induction h with
  | nil =>
    intro y h1 h2 h3
    rw [h1] at h3
    cases h3
  | @cons a b c l x e k ih =>
    intro y h1 h2 h3
    obtain ⟨w, hw, hle⟩ := J.rel a y b l h1 h2 e
    have hx := k.nonneg G
    cases hb : isDone d b with
    | true =>
      obtain ⟨j, w', q1, q2, q3⟩ := ih w hb hw h3
      exact ⟨j, w', q1, q2, by omega⟩
    | false => exact ⟨b, w, hw, hb, by omega⟩
theorem dij_open (G : Good W) (hp : p < W.1) (J : Dij W p f d) {v : Nat} (hv : v < W.1) (hd : isDone d v = false) {z : Int} (h : Walk W p v z) : ∃ j w, nth f j = some w ∧ isDone d j = false ∧ w ≤ z := by
  cases hq : isDone d p with
  | false => exact ⟨p, 0, J.src, hq, h.nonneg G⟩
  | true =>
    obtain ⟨j, w, q1, q2, q3⟩ := dij_front G J h 0 hq J.src hd
    exact ⟨j, w, q1, q2, by omega⟩
theorem dij_start (G : Good W) (hp : p < W.1) : Dij W p ((List.replicate W.1 none).set p (some 0)) (List.replicate W.1 false) := by
  have hn : ∀ i, isDone (List.replicate W.1 false) i = false := fun i => by
    unfold isDone
    rw [List.getElem?_replicate]
    split <;> rfl
  have hz : ∀ i, nth (List.replicate W.1 none) i = none := fun i => by
    unfold nth
    rw [List.getElem?_replicate]
    split <;> rfl
  refine ⟨by simp, by simp, fun i y h => ?_, ?_, fun i h => ?_, fun i _ _ _ h => ?_⟩
  · rw [nth_set (by simpa using hp)] at h
    split at h
    · rename_i e
      injection h with h
      subst h e
      exact .nil i
    · rw [hz] at h
      cases h
  · rw [nth_set (by simpa using hp), if_pos rfl]
  · rw [hn] at h
    cases h
  · rw [hn] at h
    cases h
theorem dij_turn (G : Good W) (hp : p < W.1) (J : Dij W p f d) {here : Nat} (hh : Nearest f d here) {x : Int} (hx : nth f here = some x) {nb : List (Nat × Int)} (hnb : ∀ q, q ∈ nb ↔ Edge W here q.1 q.2) : Dij W p (nb.foldl (relax x) f) (d.set here true) := by
  obtain ⟨h1, h2, x', h3, h4⟩ := hh
  rw [hx] at h3
  injection h3 with h3
  subst h3
  have hlt : here < W.1 := by rw [← J.lf]; exact h1
  have hb : ∀ q ∈ nb, q.1 < f.length := fun q hq => by
    rw [J.lf]
    exact (G.edge ((hnb q).mp hq)).2.2.1
  have hld : here < d.length := by rw [J.ld]; exact hlt
  have sound' : ∀ i y, nth (nb.foldl (relax x) f) i = some y → Walk W p i y := fun i y h => by
    rcases relaxes_1 hb h with h | ⟨w, hw, e⟩
    · exact J.sound i y h
    · rw [e]
      exact (J.sound here x hx).snoc ((hnb _).mp hw)
  have least : ∀ z, Walk W p here z → x ≤ z := fun z hz => by
    obtain ⟨j, w, q1, q2, q3⟩ := dij_open G hp J hlt h2 hz
    have := h4 j w q1 q2
    omega
  have fin' : ∀ i, isDone (d.set here true) i = true → ∃ y, nth f i = some y ∧ nth (nb.foldl (relax x) f) i = some y ∧ ∀ z, Walk W p i z → y ≤ z := fun i hi => by
    rw [done_set hld] at hi
    have main : ∃ y, nth f i = some y ∧ ∀ z, Walk W p i z → y ≤ z := by
      by_cases e : i = here
      · subst e
        exact ⟨x, hx, least⟩
      · rw [if_neg e] at hi
        exact J.fin i hi
    obtain ⟨y, hy, hm⟩ := main
    obtain ⟨z, hz, hle⟩ := relaxes_2 (x := x) hb hy
    have := hm z (sound' i z hz)
    have e : z = y := by omega
    subst e
    exact ⟨z, hy, hz, hm⟩
  refine ⟨by rw [relaxes_len, J.lf], by rw [List.length_set, J.ld], sound', ?_, fun i hi => ?_, fun i y j l hi hy e => ?_⟩
  · obtain ⟨z, hz, hle⟩ := relaxes_2 (x := x) hb J.src
    have := (sound' p z hz).nonneg G
    rw [hz, show z = 0 by omega]
  · obtain ⟨y, _, h5, h6⟩ := fin' i hi
    exact ⟨y, h5, h6⟩
  · obtain ⟨y', h5, h6, _⟩ := fin' i hi
    rw [hy] at h6
    injection h6 with h6
    subst h6
    by_cases q : i = here
    · subst q
      rw [hx] at h5
      injection h5 with h5
      subst h5
      exact relaxes_3 hb ((hnb (j, l)).mpr e)
    · rw [done_set hld, if_neg q] at hi
      obtain ⟨z, hz, hle⟩ := J.rel i y j l hi h5 e
      obtain ⟨z', hz', hle'⟩ := relaxes_2 (x := x) hb hz
      exact ⟨z', hz', by omega⟩
def doneN (d : List Bool) : Nat := d.countP id
theorem doneN_set : ∀ {d : List Bool} {i : Nat}, i < d.length → isDone d i = false → doneN (d.set i true) = doneN d + 1
  | [], i, h, _ => by simp at h
  | b :: r, 0, h, q => by
    unfold isDone at q
    simp at q
    subst q
    simp [doneN]
  | b :: r, i + 1, h, q => by
    have h' : i < r.length := by simpa using h
    have q' : isDone r i = false := by
      unfold isDone at q ⊢
      simpa using q
    have := doneN_set h' q'
    unfold doneN at this ⊢
    rw [List.set_cons_succ, List.countP_cons, List.countP_cons, this]
    omega
theorem doneN_zero (n : Nat) : doneN (List.replicate n false) = 0 := by
  unfold doneN
  rw [List.countP_eq_zero]
  intro b hb
  rw [List.eq_of_mem_replicate hb]
  exact Bool.false_ne_true
theorem doneN_some : ∀ {d : List Bool}, doneN d < d.length → ∃ i, i < d.length ∧ isDone d i = false
  | [], h => by simp at h
  | true :: r, h => by
    have h' : doneN r < r.length := by
      unfold doneN at h ⊢
      rw [List.countP_cons] at h
      simp at h
      exact h
    obtain ⟨i, h1, h2⟩ := doneN_some h'
    exact ⟨i + 1, by simpa using h1, by unfold isDone at h2 ⊢; simpa using h2⟩
  | false :: r, _ => ⟨0, by simp, rfl⟩
theorem doneN_all : ∀ {d : List Bool}, doneN d = d.length → ∀ i, i < d.length → isDone d i = true
  | [], _, i, hi => by simp at hi
  | b :: r, h, i, hi => by
    have hle : doneN r ≤ r.length := List.countP_le_length
    unfold doneN at h hle
    rw [List.countP_cons, List.length_cons] at h
    cases b with
    | false =>
      simp at h
      omega
    | true =>
      cases i with
      | zero => rfl
      | succ j =>
        have h' : doneN r = r.length := by
          have h2 : List.countP id r + 1 = r.length + 1 := h
          unfold doneN
          omega
        have := doneN_all h' j (by simpa using hi)
        unfold isDone at this ⊢
        simpa using this
theorem dij_some (G : Good W) (hp : p < W.1) (J : Dij W p f d) (hn : doneN d < W.1) : ∃ j x, j < W.1 ∧ nth f j = some x ∧ isDone d j = false := by
  obtain ⟨v, h1, h2⟩ := doneN_some (d := d) (by rw [J.ld]; exact hn)
  rw [J.ld] at h1
  obtain ⟨z, hz⟩ := G.conn p v hp h1
  obtain ⟨j, w, q1, q2, _⟩ := dij_open G hp J h1 h2 hz
  refine ⟨j, w, ?_, q1, q2⟩
  rw [← J.lf]
  unfold nth at q1
  cases e : f[j]? with
  | none =>
    rw [e] at q1
    cases q1
  | some o => exact (List.getElem?_eq_some_iff.mp e).1
theorem dij_end (G : Good W) (hp : p < W.1) (J : Dij W p f d) (hn : doneN d = W.1) : f = (List.range W.1).map fun b => some (far W p b) := by
  refine List.ext_getElem (by rw [List.length_map, List.length_range, J.lf]) fun i h1 h2 => ?_
  have hi : i < W.1 := by rw [← J.lf]; exact h1
  obtain ⟨y, hy, hm⟩ := J.fin i (doneN_all (by rw [J.ld]; exact hn) i (by rw [J.ld]; exact hi))
  have hd : far W p i = y := far_of ⟨J.sound i y hy, hm⟩
  unfold nth at hy
  rw [List.getElem?_eq_getElem h1, Option.join_some] at hy
  rw [List.getElem_map, List.getElem_range, hd]
  exact hy
end
end Lt

set_option maxRecDepth 100000
set_option maxHeartbeats 4000000
/-! All distances by going over each place between; as a map M from two places to a number or none. -/
namespace Lt
abbrev Map2 := Nat → Nat → Option Int
/-- walks all of whose places between are below k -/
inductive WalkB (W : Web) (k : Nat) : Nat → Nat → Int → Prop
  | nil (a : Nat) : WalkB W k a a 0
  | one {a b : Nat} {l : Int} : Edge W a b l → WalkB W k a b l
  | cons {a b c : Nat} {l x : Int} : Edge W a b l → b < k → WalkB W k b c x → WalkB W k a c (l + x)
section
variable {W : Web}
theorem WalkB.walk {k a b : Nat} {x : Int} (h : WalkB W k a b x) : Walk W a b x := by
  induction h with
  | nil => exact .nil _
  | one e => exact .one e
  | cons e _ _ ih => exact .cons e ih
theorem WalkB.of_walk (G : Good W) {a b : Nat} {x : Int} (h : Walk W a b x) : WalkB W W.1 a b x := by
  induction h with
  | nil => exact .nil _
  | cons e _ ih => exact .cons e (G.edge e).2.2.1 ih
/-- a walk by places up to k goes by places below k, or to k and on -/
theorem WalkB.cut (G : Good W) {k a b : Nat} {x : Int} (h : WalkB W (k + 1) a b x) : WalkB W k a b x ∨ ∃ y z, WalkB W k a k y ∧ WalkB W k k b z ∧ y + z ≤ x := by
  induction h with
  | nil => exact .inl (.nil _)
  | one e => exact .inl (.one e)
  | @cons a b c l x e hb _ ih =>
    by_cases q : b = k
    · subst q
      rcases ih with h | ⟨y, z, h1, h2, h3⟩
      · exact .inr ⟨l, x, .one e, h, Int.le_refl _⟩
      · have := h1.walk.nonneg G
        exact .inr ⟨l, z, .one e, h2, by omega⟩
    · have hb' : b < k := by omega
      rcases ih with h | ⟨y, z, h1, h2, h3⟩
      · exact .inl (.cons e hb' h)
      · exact .inr ⟨l + y, z, .cons e hb' h1, h2, by omega⟩
def SoundM (W : Web) (M : Map2) : Prop := ∀ a b x, M a b = some x → Walk W a b x
/-- told for a, b: whatever goes by places below k is no shorter -/
def FullM (W : Web) (k : Nat) (M : Map2) (a b : Nat) : Prop := ∀ x, WalkB W k a b x → ∃ y, M a b = some y ∧ y ≤ x
def LeM (M' M : Map2) : Prop := ∀ a b x, M a b = some x → ∃ y, M' a b = some y ∧ y ≤ x
theorem LeM.refl (M : Map2) : LeM M M := fun _ _ x h => ⟨x, h, Int.le_refl _⟩
theorem FullM.le {k : Nat} {M M' : Map2} {a b : Nat} (h : FullM W k M a b) (l : LeM M' M) : FullM W k M' a b := fun x hx => by
  obtain ⟨y, h1, h2⟩ := h x hx
  obtain ⟨z, h3, h4⟩ := l a b y h1
  exact ⟨z, h3, Int.le_trans h4 h2⟩
def putM (M : Map2) (a b : Nat) (v : Option Int) : Map2 := fun i j => if i = a ∧ j = b then v else M i j
theorem putM_le {M : Map2} {a b : Nat} {y : Int} (h : ∀ z, M a b = some z → y < z) : LeM (putM M a b (some y)) M := fun i j x e => by
  unfold putM
  by_cases q : i = a ∧ j = b
  · rw [if_pos q]
    obtain ⟨rfl, rfl⟩ := q
    have := h x e
    exact ⟨y, rfl, by omega⟩
  · rw [if_neg q]
    exact ⟨x, e, Int.le_refl _⟩
/-- the invariant within the turn of the place mid: full below mid; what is below (a, b) in order is full to mid, too -/
structure Fw (W : Web) (mid a b : Nat) (M : Map2) : Prop where
  sound : SoundM W M
  full : ∀ i j, i < W.1 → j < W.1 → FullM W mid M i j
  done : ∀ i j, i < W.1 → j < W.1 → (i < a ∨ (i = a ∧ j < b)) → FullM W (mid + 1) M i j
theorem fw_none (G : Good W) {mid a : Nat} {M : Map2} (hm : mid < W.1) (ha : a < W.1) (F : Fw W mid a 0 M) (h : M a mid = none) : Fw W mid (a + 1) 0 M := by
  refine ⟨F.sound, F.full, fun i j hi hj q => ?_⟩
  by_cases e : i = a
  · subst e
    intro x hx
    rcases hx.cut G with hx | ⟨y, z, h1, h2, h3⟩
    · exact F.full i j hi hj x hx
    · obtain ⟨w, hw, _⟩ := F.full i mid hi hm y h1
      rw [h] at hw
      cases hw
  · exact F.done i j hi hj (.inl (by omega))
theorem fw_skip (G : Good W) {mid a b : Nat} {M : Map2} (hm : mid < W.1) (hb : b < W.1) (F : Fw W mid a b M) (h : M mid b = none) : Fw W mid a (b + 1) M := by
  refine ⟨F.sound, F.full, fun i j hi hj q => ?_⟩
  by_cases e : i = a ∧ j = b
  · obtain ⟨rfl, rfl⟩ := e
    intro x hx
    rcases hx.cut G with hx | ⟨y, z, h1, h2, h3⟩
    · exact F.full i j hi hj x hx
    · obtain ⟨w, hw, _⟩ := F.full mid j hm hj z h2
      rw [h] at hw
      cases hw
  · exact F.done i j hi hj (by omega)
theorem fw_keep (G : Good W) {mid a b : Nat} {M : Map2} (hm : mid < W.1) (F : Fw W mid a b M) {r s t : Int} (h1 : M a mid = some r) (h2 : M mid b = some s) (h3 : M a b = some t) (hle : t ≤ r + s) : Fw W mid a (b + 1) M := by
  refine ⟨F.sound, F.full, fun i j hi hj q => ?_⟩
  by_cases e : i = a ∧ j = b
  · obtain ⟨rfl, rfl⟩ := e
    intro x hx
    rcases hx.cut G with hx | ⟨y, z, w1, w2, w3⟩
    · exact F.full i j hi hj x hx
    · obtain ⟨u, hu, lu⟩ := F.full i mid hi hm y w1
      obtain ⟨v, hv, lv⟩ := F.full mid j hm hj z w2
      rw [h1] at hu
      rw [h2] at hv
      injection hu with hu
      injection hv with hv
      exact ⟨t, h3, by omega⟩
  · exact F.done i j hi hj (by omega)
theorem fw_put (G : Good W) {mid a b : Nat} {M : Map2} (hm : mid < W.1) (F : Fw W mid a b M) {r s : Int} (h1 : M a mid = some r) (h2 : M mid b = some s) (h3 : ∀ z, M a b = some z → r + s < z) : Fw W mid a (b + 1) (putM M a b (some (r + s))) := by
  have L := putM_le h3
  refine ⟨fun i j x hx => ?_, fun i j hi hj => (F.full i j hi hj).le L, fun i j hi hj q => ?_⟩
  · unfold putM at hx
    by_cases e : i = a ∧ j = b
    · rw [if_pos e] at hx
      obtain ⟨rfl, rfl⟩ := e
      injection hx with hx
      rw [← hx]
      exact (F.sound _ _ _ h1).app (F.sound _ _ _ h2)
    · rw [if_neg e] at hx
      exact F.sound i j x hx
  · by_cases e : i = a ∧ j = b
    · obtain ⟨rfl, rfl⟩ := e
      intro x hx
      rcases hx.cut G with hx | ⟨y, z, w1, w2, w3⟩
      · exact (F.full i j hi hj).le L x hx
      · obtain ⟨u, hu, lu⟩ := F.full i mid hi hm y w1
        obtain ⟨v, hv, lv⟩ := F.full mid j hm hj z w2
        rw [h1] at hu
        rw [h2] at hv
        injection hu with hu
        injection hv with hv
        refine ⟨r + s, ?_, by omega⟩
        unfold putM
        rw [if_pos ⟨rfl, rfl⟩]
    · exact (F.done i j hi hj (by omega)).le L
theorem fw_row {mid a : Nat} {M : Map2} (F : Fw W mid a W.1 M) : Fw W mid (a + 1) 0 M :=
  ⟨F.sound, F.full, fun i j hi hj q => F.done i j hi hj (by omega)⟩
theorem fw_mid {mid : Nat} {M : Map2} (F : Fw W mid W.1 0 M) : Fw W (mid + 1) 0 0 M :=
  ⟨F.sound, fun i j hi hj => F.done i j hi hj (.inl hi), fun i j hi hj q => by omega⟩
theorem fw_end (G : Good W) {M : Map2} (F : Fw W W.1 0 0 M) {a b : Nat} (ha : a < W.1) (hb : b < W.1) : M a b = some (far W a b) := by
  have h := G.far ha hb
  obtain ⟨y, h1, h2⟩ := F.full a b ha hb _ (.of_walk G h.1)
  have h3 := h.2 y (F.sound a b y h1)
  rw [h1, show y = far W a b by omega]
/-- the ties so far stand in M, and nothing else but the places themselves -/
structure Fw0 (W : Web) (ts : List Tie) (M : Map2) : Prop where
  self : ∀ a, a < W.1 → M a a = some 0
  only : ∀ a b x, M a b = some x → (a = b ∧ x = 0) ∨ (a, b, x) ∈ ts ∨ (b, a, x) ∈ ts
  there : ∀ a b x, (a, b, x) ∈ ts → M a b = some x ∧ M b a = some x
theorem fw0_put (G : Good W) {ts rest : List Tie} {t : Tie} {M : Map2} (e : W.2 = ts ++ t :: rest) (F : Fw0 W ts M) : Fw0 W (ts ++ [t]) (putM (putM M t.1 t.2.1 (some t.2.2)) t.2.1 t.1 (some t.2.2)) := by
  obtain ⟨a, b, l⟩ := t
  have hm : (a, b, l) ∈ W.2 := by rw [e]; simp
  obtain ⟨hab, hbn, _⟩ := G.tie _ hm
  simp only at hab hbn
  have apart : ∀ x y z, (x, y, z) ∈ ts → ¬ (x = a ∧ y = b) := fun x y z hx q => by
    have hn := G.apart
    rw [e, List.map_append, List.nodup_append] at hn
    exact hn.2.2 (x, y) (List.mem_map.mpr ⟨_, hx, rfl⟩) (a, b) (List.mem_map.mpr ⟨_, List.mem_cons_self, rfl⟩) (by rw [q.1, q.2])
  have low : ∀ x y z, (x, y, z) ∈ ts → x < y := fun x y z hx => (G.tie (x, y, z) (by rw [e]; exact List.mem_append_left _ hx)).1
  refine ⟨fun i hi => ?_, fun i j x h => ?_, fun i j x h => ?_⟩
  · unfold putM
    rw [if_neg (by simp only; omega), if_neg (by simp only; omega)]
    exact F.self i hi
  · unfold putM at h
    simp only at h
    by_cases q : i = b ∧ j = a
    · rw [if_pos q] at h
      injection h with h
      obtain ⟨rfl, rfl⟩ := q
      subst h
      exact .inr (.inr (by simp))
    · rw [if_neg q] at h
      by_cases q2 : i = a ∧ j = b
      · rw [if_pos q2] at h
        injection h with h
        obtain ⟨rfl, rfl⟩ := q2
        subst h
        exact .inr (.inl (by simp))
      · rw [if_neg q2] at h
        rcases F.only i j x h with h | h | h
        · exact .inl h
        · exact .inr (.inl (List.mem_append_left _ h))
        · exact .inr (.inr (List.mem_append_left _ h))
  · unfold putM
    simp only
    rcases List.mem_append.mp h with h | h
    · have h1 := apart i j x h
      have h2 := low i j x h
      rw [if_neg (by omega), if_neg (by omega), if_neg (by omega), if_neg (by omega)]
      exact F.there i j x h
    · rw [List.mem_singleton] at h
      injection h with h1 h
      injection h with h2 h3
      subst h1 h2 h3
      rw [if_neg (by omega), if_pos ⟨rfl, rfl⟩, if_pos ⟨rfl, rfl⟩]
      exact ⟨rfl, rfl⟩
theorem fw0_end (G : Good W) {M : Map2} (F : Fw0 W W.2 M) : Fw W 0 0 0 M := by
  refine ⟨fun a b x h => ?_, fun a b ha hb x h => ?_, fun i j hi hj q => by omega⟩
  · rcases F.only a b x h with ⟨rfl, rfl⟩ | h | h
    · exact .nil a
    · exact .one (.inl h)
    · exact .one (.inr h)
  · cases h with
    | nil => exact ⟨0, F.self a ha, Int.le_refl _⟩
    | one e =>
      rcases e with e | e
      · exact ⟨x, (F.there a b x e).1, Int.le_refl _⟩
      · exact ⟨x, (F.there b a x e).2, Int.le_refl _⟩
    | cons _ hb _ => omega
end
end Lt

set_option maxRecDepth 100000
set_option maxHeartbeats 4000000
/-! Other lengths; each twice the one ahead; all times a number. -/
namespace Lt
/-- the web with other lengths -/
def withL (W : Web) (ls : List Int) : Web := (W.1, (W.2.zip ls).map fun p => (p.1.1, p.1.2.1, p.2))
theorem withL_ix {W : Web} {ls : List Int} (h : ls.length = W.2.length) (i : Nat) (t : Tie) : (withL W ls).2[i]? = some t ↔ ∃ u, W.2[i]? = some u ∧ t.1 = u.1 ∧ t.2.1 = u.2.1 ∧ ls[i]? = some t.2.2 := by
  show ((W.2.zip ls).map fun p => (p.1.1, p.1.2.1, p.2))[i]? = some t ↔ _
  rw [List.getElem?_map, Option.map_eq_some_iff]
  constructor
  · rintro ⟨p, hp, e⟩
    rw [List.getElem?_zip_eq_some] at hp
    obtain ⟨h1, h2⟩ := hp
    subst e
    exact ⟨p.1, h1, rfl, rfl, h2⟩
  · rintro ⟨u, h1, h2, h3, h4⟩
    refine ⟨(u, t.2.2), List.getElem?_zip_eq_some.mpr ⟨h1, h4⟩, ?_⟩
    obtain ⟨t1, t2, t3⟩ := t
    simp only at h2 h3 ⊢
    rw [h2, h3]
theorem withL_pairs {W : Web} {ls : List Int} (h : ls.length = W.2.length) : (withL W ls).2.map (fun t => (t.1, t.2.1)) = W.2.map fun t => (t.1, t.2.1) := by
  apply List.ext_getElem?
  intro i
  rw [List.getElem?_map, List.getElem?_map]
  cases e : (withL W ls).2[i]? with
  | some t =>
    obtain ⟨u, h1, h2, h3, _⟩ := (withL_ix h i t).mp e
    rw [h1]
    simp only [Option.map_some]
    rw [h2, h3]
  | none =>
    have hl : (withL W ls).2.length = W.2.length := by
      show ((W.2.zip ls).map _).length = _
      rw [List.length_map, List.length_zip, h, Nat.min_self]
    rw [List.getElem?_eq_none_iff] at e
    rw [List.getElem?_eq_none (by omega), Option.map_none]
theorem withL_mem {W : Web} {ls : List Int} (h : ls.length = W.2.length) {a b : Nat} {l : Int} (m : (a, b, l) ∈ W.2) : ∃ l', (a, b, l') ∈ (withL W ls).2 := by
  obtain ⟨i, hi, e⟩ := List.getElem_of_mem m
  have h1 : W.2[i]? = some (a, b, l) := by rw [List.getElem?_eq_getElem hi, e]
  have h2 : ls[i]? = some ls[i] := List.getElem?_eq_getElem (by omega)
  exact ⟨ls[i], List.mem_of_getElem? ((withL_ix h i (a, b, ls[i])).mpr ⟨_, h1, rfl, rfl, h2⟩)⟩
theorem withL_back {W : Web} {ls : List Int} (h : ls.length = W.2.length) {a b : Nat} {l : Int} (m : (a, b, l) ∈ (withL W ls).2) : (∃ l', (a, b, l') ∈ W.2) ∧ l ∈ ls := by
  obtain ⟨i, hi, e⟩ := List.getElem_of_mem m
  have h1 : (withL W ls).2[i]? = some (a, b, l) := by rw [List.getElem?_eq_getElem hi, e]
  obtain ⟨u, h2, h3, h4, h5⟩ := (withL_ix h i _).mp h1
  obtain ⟨u1, u2, u3⟩ := u
  simp only at h3 h4
  subst h3 h4
  exact ⟨⟨u3, List.mem_of_getElem? h2⟩, List.mem_of_getElem? h5⟩
theorem withL_len {W : Web} {ls : List Int} (h : ls.length = W.2.length) : (withL W ls).2.length = W.2.length := by
  show ((W.2.zip ls).map _).length = _
  rw [List.length_map, List.length_zip, h, Nat.min_self]
theorem withL_good {W : Web} {ls : List Int} (G : Good W) (h : ls.length = W.2.length) (hl : ∀ l ∈ ls, 1 ≤ l ∧ l ≤ 10 ^ 30) : Good (withL W ls) where
  pos := G.pos
  small := G.small
  few := by
    rw [withL_len h]
    exact G.few
  tie := by
    rintro ⟨a, b, l⟩ m
    obtain ⟨⟨l', m'⟩, hm⟩ := withL_back h m
    have := G.tie _ m'
    exact ⟨this.1, this.2.1, hl l hm⟩
  apart := by
    rw [withL_pairs h]
    exact G.apart
  conn := by
    intro a b ha hb
    obtain ⟨x, hx⟩ := G.conn a b ha hb
    induction hx with
    | nil => exact ⟨0, .nil _⟩
    | cons e _ ih =>
      obtain ⟨_, _, h2, _⟩ := G.edge e
      obtain ⟨y, hy⟩ := ih h2 hb
      rcases e with e | e
      · obtain ⟨l', e'⟩ := withL_mem h e
        exact ⟨_, .cons (.inl e') hy⟩
      · obtain ⟨l', e'⟩ := withL_mem h e
        exact ⟨_, .cons (.inr e') hy⟩

/-! ### all lengths times a number -/
theorem scale_mem {W V : Web} {k : Int} (h : V.2 = W.2.map fun t => (t.1, t.2.1, k * t.2.2)) {a b : Nat} {l : Int} : (a, b, l) ∈ V.2 ↔ ∃ m, (a, b, m) ∈ W.2 ∧ l = k * m := by
  rw [h, List.mem_map]
  constructor
  · rintro ⟨⟨t1, t2, t3⟩, ht, e⟩
    injection e with e1 e
    injection e with e2 e3
    subst e1 e2
    exact ⟨t3, ht, e3.symm⟩
  · rintro ⟨m, hm, rfl⟩
    exact ⟨_, hm, rfl⟩
theorem scale_edge {W V : Web} {k : Int} (h : V.2 = W.2.map fun t => (t.1, t.2.1, k * t.2.2)) {a b : Nat} {l : Int} : Edge V a b l ↔ ∃ m, Edge W a b m ∧ l = k * m := by
  unfold Edge
  rw [scale_mem h, scale_mem h]
  constructor
  · rintro (⟨m, h1, h2⟩ | ⟨m, h1, h2⟩)
    · exact ⟨m, .inl h1, h2⟩
    · exact ⟨m, .inr h1, h2⟩
  · rintro ⟨m, h1 | h1, h2⟩
    · exact .inl ⟨m, h1, h2⟩
    · exact .inr ⟨m, h1, h2⟩
theorem scale_walk {W V : Web} {k : Int} (h : V.2 = W.2.map fun t => (t.1, t.2.1, k * t.2.2)) {a b : Nat} {x : Int} (w : Walk W a b x) : Walk V a b (k * x) := by
  induction w with
  | nil =>
    rw [Int.mul_zero]
    exact .nil _
  | cons e _ ih =>
    rw [Int.mul_add]
    exact .cons ((scale_edge h).mpr ⟨_, e, rfl⟩) ih
theorem scale_back {W V : Web} {k : Int} (h : V.2 = W.2.map fun t => (t.1, t.2.1, k * t.2.2)) {a b : Nat} {y : Int} (w : Walk V a b y) : ∃ x, Walk W a b x ∧ y = k * x := by
  induction w with
  | nil => exact ⟨0, .nil _, (Int.mul_zero k).symm⟩
  | cons e _ ih =>
    obtain ⟨m, h1, h2⟩ := (scale_edge h).mp e
    obtain ⟨x, h3, h4⟩ := ih
    exact ⟨m + x, .cons h1 h3, by rw [h2, h4, Int.mul_add]⟩
theorem scale_far {W V : Web} {k : Int} (G : Good W) (hk : 0 < k) (h : V.2 = W.2.map fun t => (t.1, t.2.1, k * t.2.2)) {a b : Nat} (ha : a < W.1) (hb : b < W.1) : far V a b = k * far W a b := by
  have d := G.far ha hb
  refine far_of ⟨scale_walk h d.1, fun y hy => ?_⟩
  obtain ⟨x, h1, rfl⟩ := scale_back h hy
  exact Int.mul_le_mul_of_nonneg_left (d.2 x h1) (Int.le_of_lt hk)
theorem scale_adj {W V : Web} {k : Int} (h : V.2 = W.2.map fun t => (t.1, t.2.1, k * t.2.2)) (a : Nat) : adj V a = (adj W a).map fun p => (p.1, k * p.2) := by
  unfold adj adjL adjR
  rw [h, List.map_append, List.filter_map, List.filter_map, List.map_map, List.map_map, List.map_map, List.map_map]
  rfl
theorem scale_cnt {W V : Web} {k : Int} (G : Good W) (hk : 0 < k) (h1 : V.1 = W.1) (h : V.2 = W.2.map fun t => (t.1, t.2.1, k * t.2.2)) {a b : Nat} (ha : a < W.1) (hb : b < W.1) : cnt V a b = cnt W a b := by
  unfold cnt
  rw [scale_adj h, List.filter_map, List.length_map]
  congr 1
  apply List.filter_congr
  rintro ⟨c, l⟩ hp
  have e : Edge W a c l := mem_adj.mp hp
  show decide (k * l + far V c b = far V a b) = decide (l + far W c b = far W a b)
  rw [scale_far G hk h ha hb, scale_far G hk h (G.edge e).2.2.1 hb, ← Int.mul_add]
  by_cases q : l + far W c b = far W a b
  · rw [decide_eq_true q, q, decide_eq_true rfl]
  · rw [decide_eq_false q, decide_eq_false (fun z => q (Int.eq_of_mul_eq_mul_left (by omega) z))]
theorem scale_lone {W V : Web} {k : Int} (G : Good W) (hk : 0 < k) (h1 : V.1 = W.1) (h : V.2 = W.2.map fun t => (t.1, t.2.1, k * t.2.2)) : Lone V ↔ Lone W := by
  unfold Lone
  rw [h1]
  constructor
  · intro q a b ha hb ne
    rw [← scale_cnt G hk h1 h ha hb]
    exact q a b ha hb ne
  · intro q a b ha hb ne
    rw [scale_cnt G hk h1 h ha hb]
    exact q a b ha hb ne

/-! ### each length twice the one ahead -/
def bit (m j : Nat) : Prop := m / 2 ^ j % 2 = 1
theorem bit_add {m i : Nat} (h : ¬ bit m i) (j : Nat) : bit (2 ^ i + m) j ↔ j = i ∨ bit m j := by
  unfold bit at h ⊢
  rcases Nat.lt_trichotomy j i with q | q | q
  · obtain ⟨d, rfl⟩ : ∃ d, i = j + 1 + d := ⟨i - j - 1, by omega⟩
    have e : 2 ^ (j + 1 + d) = 2 ^ j * (2 * 2 ^ d) := by rw [Nat.pow_add, Nat.pow_succ, Nat.mul_assoc]
    rw [e, Nat.mul_add_div (Nat.two_pow_pos j)]
    constructor
    · intro z
      exact .inr (by omega)
    · rintro (z | z) <;> omega
  · subst q
    have e : (2 ^ j + m) / 2 ^ j = 1 + m / 2 ^ j := by
      have := Nat.mul_add_div (Nat.two_pow_pos j) 1 m
      rwa [Nat.mul_one] at this
    rw [e]
    constructor
    · intro _
      exact .inl rfl
    · intro _
      omega
  · obtain ⟨d, rfl⟩ : ∃ d, j = i + 1 + d := ⟨j - i - 1, by omega⟩
    have e : 2 ^ (i + 1 + d) = (2 ^ i * 2) * 2 ^ d := by rw [Nat.pow_add, Nat.pow_succ]
    have f : (2 ^ i + m) / (2 ^ i * 2) = m / (2 ^ i * 2) := by
      rw [← Nat.div_div_eq_div_mul, ← Nat.div_div_eq_div_mul]
      have := Nat.mul_add_div (Nat.two_pow_pos i) 1 m
      rw [Nat.mul_one] at this
      rw [this]
      omega
    rw [e, ← Nat.div_div_eq_div_mul (2 ^ i + m) (2 ^ i * 2), ← Nat.div_div_eq_div_mul m (2 ^ i * 2), f]
    constructor
    · intro z
      exact .inr z
    · rintro (z | z)
      · omega
      · exact z
def twos (n : Nat) : List Int := (List.range n).map fun i => ((2 ^ i : Nat) : Int)
structure Twos (W : Web) : Prop where
  good : Good W
  two : ∀ i t, W.2[i]? = some t → t.2.2 = ((2 ^ i : Nat) : Int)
theorem pow_inj {i j : Nat} (h : 2 ^ i = 2 ^ j) : i = j := by
  rcases Nat.lt_trichotomy i j with q | q | q
  · have := Nat.pow_lt_pow_right (a := 2) (by omega) q
    omega
  · exact q
  · have := Nat.pow_lt_pow_right (a := 2) (by omega) q
    omega
section
variable {W : Web}
/-- the tie at i is that of a and c -/
def TieAt (W : Web) (i a c : Nat) : Prop := ∃ l, W.2[i]? = some (a, c, l) ∨ W.2[i]? = some (c, a, l)
theorem Twos.edge (T : Twos W) {a c : Nat} {l : Int} (e : Edge W a c l) : ∃ i, TieAt W i a c ∧ l = ((2 ^ i : Nat) : Int) := by
  rcases e with e | e
  · obtain ⟨i, hi, q⟩ := List.getElem_of_mem e
    have h : W.2[i]? = some (a, c, l) := by rw [List.getElem?_eq_getElem hi, q]
    exact ⟨i, ⟨l, .inl h⟩, T.two i _ h⟩
  · obtain ⟨i, hi, q⟩ := List.getElem_of_mem e
    have h : W.2[i]? = some (c, a, l) := by rw [List.getElem?_eq_getElem hi, q]
    exact ⟨i, ⟨l, .inr h⟩, T.two i _ h⟩
/-- each bit of how far x is from b is a tie no end of which is farther than x -/
theorem twos_bits (T : Twos W) {b : Nat} (hb : b < W.1) : ∀ (n x : Nat), x < W.1 → (far W x b).toNat ≤ n → ∀ j, bit (far W x b).toNat j → ∀ u v, TieAt W j u v → far W u b ≤ far W x b ∧ far W v b ≤ far W x b
  | n, x, hx, hn, j, hj, u, v, ht => by
    have G := T.good
    by_cases e : x = b
    · subst e
      rw [far_self G] at hj
      unfold bit at hj
      simp at hj
    · obtain ⟨c, l, ed, hs⟩ := far_step G hx hb e
      obtain ⟨i, ti, rfl⟩ := T.edge ed
      obtain ⟨_, _, hc, hl, _⟩ := G.edge ed
      have nc := far_nonneg G hc hb
      cases n with
      | zero => omega
      | succ n =>
        have ih := twos_bits T hb n c hc (by omega)
        have hno : ¬ bit (far W c b).toNat i := fun q => by
          have := ih i q x c ti
          omega
        have ed : (far W x b).toNat = 2 ^ i + (far W c b).toNat := by omega
        rw [ed] at hj
        rcases (bit_add hno j).mp hj with q | q
        · subst q
          obtain ⟨l1, h1⟩ := ti
          obtain ⟨l2, h2⟩ := ht
          have hcx : far W c b ≤ far W x b := by omega
          have hxx : far W x b ≤ far W x b := Int.le_refl _
          rcases h1 with h1 | h1 <;> rcases h2 with h2 | h2 <;> rw [h1] at h2 <;> injection h2 with h2 <;> injection h2 with e1 e2 <;> injection e2 with e2 _ <;> subst e1 e2
          · exact ⟨hxx, hcx⟩
          · exact ⟨hcx, hxx⟩
          · exact ⟨hcx, hxx⟩
          · exact ⟨hxx, hcx⟩
        · have := ih j q u v ht
          omega
theorem twos_one (T : Twos W) {a b c c' : Nat} {l l' : Int} (ha : a < W.1) (hb : b < W.1) (e : Edge W a c l) (h : l + far W c b = far W a b) (e' : Edge W a c' l') (h' : l' + far W c' b = far W a b) : (c, l) = (c', l') := by
  have G := T.good
  obtain ⟨i, ti, rfl⟩ := T.edge e
  obtain ⟨i', ti', rfl⟩ := T.edge e'
  obtain ⟨_, _, hc, hl, _⟩ := G.edge e
  obtain ⟨_, _, hc', hl', _⟩ := G.edge e'
  have nc := far_nonneg G hc hb
  have nc' := far_nonneg G hc' hb
  have no : ¬ bit (far W c b).toNat i := fun q => by
    have := twos_bits T hb _ c hc (Nat.le_refl _) i q a c ti
    omega
  have no' : ¬ bit (far W c' b).toNat i' := fun q => by
    have := twos_bits T hb _ c' hc' (Nat.le_refl _) i' q a c' ti'
    omega
  by_cases q : i = i'
  · subst q
    obtain ⟨l1, h1⟩ := ti
    obtain ⟨l2, h2⟩ := ti'
    have ne := (G.edge e).1
    have ne' := (G.edge e').1
    rcases h1 with h1 | h1 <;> rcases h2 with h2 | h2 <;> rw [h1] at h2 <;> injection h2 with h2 <;> injection h2 with e1 e2 <;> injection e2 with e2 _
    · rw [e2]
    · exact absurd e2.symm ne
    · exact absurd e2 (by omega)
    · rw [e1]
  · exfalso
    have e1 : (far W a b).toNat = 2 ^ i + (far W c b).toNat := by omega
    have e2 : (far W a b).toNat = 2 ^ i' + (far W c' b).toNat := by omega
    have b1 : bit (far W a b).toNat i' := by
      rw [e2]
      exact (bit_add no' i').mpr (.inl rfl)
    rw [e1] at b1
    rcases (bit_add no i').mp b1 with z | z
    · exact q z.symm
    · have := twos_bits T hb _ c hc (Nat.le_refl _) i' z a c' ti'
      omega
theorem len_le_one {α : Type} : ∀ {l : List α}, l.Nodup → (∀ x ∈ l, ∀ y ∈ l, x = y) → l.length ≤ 1
  | [], _, _ => Nat.zero_le _
  | [_], _, _ => Nat.le_refl _
  | x :: y :: r, hn, h => by
    have e := h x List.mem_cons_self y (List.mem_cons_of_mem _ List.mem_cons_self)
    rw [List.nodup_cons] at hn
    exact absurd (by rw [e]; exact List.mem_cons_self) hn.1
theorem twos_lone (T : Twos W) : Lone W := by
  intro a b ha hb ne
  have G := T.good
  have h1 := cnt_pos G ha hb ne
  have h2 : cnt W a b ≤ 1 := by
    unfold cnt
    refine len_le_one (List.Nodup.sublist List.filter_sublist (nodup_of_map (adj_keys G a))) fun x hx y hy => ?_
    rw [List.mem_filter] at hx hy
    obtain ⟨x1, x2⟩ := x
    obtain ⟨y1, y2⟩ := y
    exact twos_one T ha hb (mem_adj.mp hx.1) (of_decide_eq_true hx.2) (mem_adj.mp hy.1) (of_decide_eq_true hy.2)
  omega
theorem sure_twos {W : Web} (G : Good W) (hf : W.2.length ≤ 40) : Twos (withL W (twos W.2.length)) := by
  have hl : (twos W.2.length).length = W.2.length := by
    unfold twos
    rw [List.length_map, List.length_range]
  refine ⟨withL_good G hl fun l hm => ?_, fun i t h => ?_⟩
  · unfold twos at hm
    obtain ⟨i, hi, rfl⟩ := List.mem_map.mp hm
    rw [List.mem_range] at hi
    have h1 := Nat.two_pow_pos i
    have h2 : 2 ^ i ≤ 2 ^ 40 := Nat.pow_le_pow_right (by omega) (by omega)
    have h3 : (2 ^ 40 : Nat) ≤ 10 ^ 30 := by decide
    have h4 : ((10 ^ 30 : Nat) : Int) = 10 ^ 30 := by decide
    refine ⟨by omega, ?_⟩
    rw [← h4]
    omega
  · obtain ⟨u, _, _, _, h4⟩ := (withL_ix hl i t).mp h
    unfold twos at h4
    rw [List.getElem?_map, Option.map_eq_some_iff] at h4
    obtain ⟨k, hk, e⟩ := h4
    obtain ⟨h5, h6⟩ := List.getElem?_eq_some_iff.mp hk
    rw [List.getElem_range] at h6
    rw [← e, h6]
end
end Lt

set_option maxRecDepth 100000
set_option maxHeartbeats 4000000
/-! The text by places; a list of lists that the call owns; loops. -/
namespace Lt
open PySem PySem.Spec L2 Evl

def topS (i : Nat) : Stmt := PySem.Challenge.pw_lonetrack_k50_whole_lengths_and_lone.main.body.getD i (.Pass ⟨0, 0, 0, 0⟩)
abbrev sNear : Stmt := topS 6
abbrev sLookF : Stmt := topS 7
abbrev sOpen : Stmt := topS 8
abbrev sFars : Stmt := topS 9
abbrev sLook : Stmt := topS 11
abbrev sNbs : Stmt := topS 12
abbrev sLenB : Stmt := topS 13
abbrev sTieL : Stmt := topS 14
abbrev sTable : Stmt := topS 16
abbrev sAbout : Stmt := topS 17
abbrev sSteps : Stmt := topS 18
abbrev sWay : Stmt := topS 19
abbrev sBar : Stmt := topS 20
abbrev sVer : Stmt := topS 21
abbrev sIsLen : Stmt := topS 25
abbrev sWithL : Stmt := topS 26
abbrev sSure : Stmt := topS 27
abbrev sDraws : Stmt := topS 29
abbrev sTake : Stmt := topS 30
abbrev sLength : Stmt := topS 31
abbrev sWeb : Stmt := topS 32
abbrev sFar : Stmt := topS 33
abbrev sLone : Stmt := topS 34
abbrev sRight : Stmt := topS 35
abbrev sLaw : Stmt := topS 36

def tieD (t : Tie) : PyData := .tuple [.int (t.1 : Int), .int (t.2.1 : Int), .int t.2.2]
def webD (W : Web) : PyData := .tuple [.int (W.1 : Int), .tuple (W.2.map tieD)]
def nbD (q : Nat × Int) : PyData := .tuple [.int (q.1 : Int), .int q.2]

/-- a web as it lies -/
structure WebAt (K : PySem.W.Frag) (H : Hp) (v : V) (W : Web) (w a : Addr) (xs : List V) : Prop where
  ref : v = .ref w
  two : SqT K H w [.int (W.1 : Int), .ref a]
  ties : SqT K H a xs
  each : DpAll K H xs (W.2.map tieD)
theorem web_at {K : PySem.W.Frag} {H : Hp} {v : V} {W : Web} (h : Dp K H v (webD W)) : ∃ w a xs, WebAt K H v W w a xs := by
  obtain ⟨w, ys, rfl, h1, h2⟩ := dp_tup h
  cases h2 with
  | cons h2 h3 =>
    cases h3 with
    | cons h3 h4 =>
      cases h4
      obtain ⟨a, xs, rfl, h5, h6⟩ := dp_tup h3
      rw [dp_int h2] at h1
      exact ⟨w, a, xs, rfl, h1, h5, h6⟩
theorem WebAt.ex {K : PySem.W.Frag} {H H' : Hp} {v : V} {W : Web} {w a : Addr} {xs : List V} (h : WebAt K H v W w a xs) (e : Ex H H') : WebAt K H' v W w a xs :=
  ⟨h.ref, ex_t e h.two, ex_t e h.ties, ex_dpA e h.each⟩

section
variable {K : PySem.W.Frag} {σ : L2.St} {H H' : Hp} {ta tb te tc : TE} {tl : TA} {t u : TT} {D : Ends} {tz tw : TS}
theorem ed_ix0 {W : Web} (h : EvD K ta σ H (webD W)) : EvD K (tOp (rIxT K) ta (tC (.int 0))) σ H (.int (W.1 : Int)) := ed_ixT h ed_int rfl
theorem ev_ix1 {W : Web} {i : Nat} {v : V} {w a : Addr} {xs : List V} (h : σ[i]? = some (some v)) (q : WebAt K H v W w a xs) : Ev (tOp (rIxT K) (tVar i) (tC (.int 1))) σ H (.ref a) := by
  rw [q.ref] at h
  exact ev_op (ev_var h) ev_c (rv_ixT q.two rfl)
/-- for a, b, length in ties -/
theorem q_forT3 {ts : List Tie} {j1 j2 j3 n : Nat} {a : Addr} {xs : List V} {tl : TE} {B : Hp} (hx : SqT K B a xs) (he : DpAll K B xs (ts.map tieD)) (h : Ev tl σ H (.ref a)) (Pv : Nat → L2.St → Hp → Prop) (ht : ∀ i σ' H', Pv i σ' H' → Ex B H') (h0 : ∀ H1, Ex H H1 → Pv 0 σ H1)
    (hs : ∀ i t σ' H', ts[i]? = some t → Pv i σ' H' → tw { D with nx := Pv (i + 1), ct := Pv (i + 1), bk := tz D } (((σ'.set j1 (some (.int (t.1 : Int)))).set j2 (some (.int (t.2.1 : Int)))).set j3 (some (.int t.2.2))) H')
    (hd : ∀ σ' H', Pv ts.length σ' H' → tz D σ' H') (hn : 3 = n := by rfl) : tSeq (tFor (iTup K tl) (gTup K n (gCons (gName j1) (gCons (gName j2) (gCons (gName j3) gNil)))) tw) tz D σ H := by
  have hl : xs.length = ts.length := by rw [dpAll_len he, List.length_map]
  refine h H (Ex.refl H) _ fun H1 e => ⟨a, rfl, ⟨xs, ex_t (ht _ _ _ (h0 H1 e)) hx⟩, for_tup Pv (h0 H1 e) (fun i σ' H' _ p => ex_t (ht i σ' H' p) hx) (fun i x σ' H' hi p => ?_) (by rw [hl]; exact hd)⟩
  obtain ⟨d, hd', hv⟩ := dpAll_at he hi
  rw [List.getElem?_map, Option.map_eq_some_iff] at hd'
  obtain ⟨t, htt, rfl⟩ := hd'
  obtain ⟨b, ys, rfl, h1, h2⟩ := dp_tup (ex_dp (ht i σ' H' p) hv)
  cases h2 with
  | cons g1 g2 =>
    cases g2 with
    | cons g2 g3 =>
      cases g3 with
      | cons g3 g4 =>
        cases g4
        rw [dp_int g1, dp_int g2, dp_int g3] at h1
        exact ⟨b, _, rfl, h1, hn, _, _, rfl, _, _, rfl, _, _, rfl, rfl, hs i t σ' H' htt p⟩

/-! ### a new list of n new lists -/
structure Mat (K : PySem.W.Frag) (H0 H : Hp) (L : Addr) (ps : List Addr) (n : Nat) (f : Nat → List PyData) : Prop where
  top : H L = some (.lst (ps.map V.ref))
  new : H0 L = none
  nd : ps.Nodup
  len : ps.length = n
  row : ∀ i p, ps[i]? = some p → ∃ xs, H p = some (.lst xs) ∧ DpAll K H xs (f i)
  own : ∀ p ∈ ps, H0 p = none ∧ p ≠ L
  noL : ∀ i, i < n → noLA (f i) = true
  ex : Ex H0 H
theorem Mat.mono {H0 H H2 : Hp} {L : Addr} {ps : List Addr} {n : Nat} {f : Nat → List PyData} (m : Mat K H0 H L ps n f) (e : Ex H H2) : Mat K H0 H2 L ps n f :=
  ⟨e _ _ m.top, m.new, m.nd, m.len, fun i p h => by
    obtain ⟨xs, h1, h2⟩ := m.row i p h
    exact ⟨xs, e _ _ h1, ex_dpA e h2⟩, m.own, m.noL, m.ex.trans e⟩
theorem Mat.at {H0 H : Hp} {L : Addr} {ps : List Addr} {n : Nat} {f : Nat → List PyData} (m : Mat K H0 H L ps n f) {i : Nat} (hi : i < n) : ∃ p xs, ps[i]? = some p ∧ H p = some (.lst xs) ∧ DpAll K H xs (f i) ∧ H0 p = none ∧ p ≠ L := by
  have hlt : i < ps.length := by rw [m.len]; exact hi
  have h : ps[i]? = some ps[i] := List.getElem?_eq_getElem hlt
  obtain ⟨xs, h1, h2⟩ := m.row i _ h
  obtain ⟨h3, h4⟩ := m.own _ (List.mem_of_getElem? h)
  exact ⟨_, xs, h, h1, h2, h3, h4⟩
/-- another list than the rows and the top may change -/
theorem Mat.other {H0 H : Hp} {L : Addr} {ps : List Addr} {n : Nat} {f : Nat → List PyData} (m : Mat K H0 H L ps n f) {p : Addr} {xs ys : List V} (h : H p = some (.lst xs)) (h0 : H0 p = none) (h1 : p ≠ L) (h2 : p ∉ ps) : Mat K H0 (upd H p (.lst ys)) L ps n f := by
  refine ⟨by rw [upd_ne (Ne.symm h1)]; exact m.top, m.new, m.nd, m.len, fun i q hq => ?_, m.own, m.noL, m.ex.mut h0⟩
  obtain ⟨zs, g1, g2⟩ := m.row i q hq
  have ne : q ≠ p := fun e => h2 (e ▸ List.mem_of_getElem? hq)
  have hi : i < n := by rw [← m.len]; exact (List.getElem?_eq_some_iff.mp hq).1
  exact ⟨zs, by rw [upd_ne ne]; exact g1, tu_dpA (Tu.put h) (m.noL i hi) g2⟩
/-- the row i is written -/
theorem Mat.put {H0 H : Hp} {L : Addr} {ps : List Addr} {n : Nat} {f : Nat → List PyData} (m : Mat K H0 H L ps n f) {i : Nat} {p : Addr} {xs ys : List V} {r : List PyData} (hp : ps[i]? = some p) (h : H p = some (.lst xs)) (hr : DpAll K H ys r) (hn : noLA r = true) : Mat K H0 (upd H p (.lst ys)) L ps n (fun j => if j = i then r else f j) := by
  obtain ⟨h0, h1⟩ := m.own p (List.mem_of_getElem? hp)
  refine ⟨by rw [upd_ne (Ne.symm h1)]; exact m.top, m.new, m.nd, m.len, fun j q hq => ?_, m.own, fun j hj => ?_, m.ex.mut h0⟩
  · by_cases e : j = i
    · subst e
      rw [hp] at hq
      injection hq with hq
      subst hq
      rw [if_pos rfl]
      exact ⟨ys, upd_same, tu_dpA (Tu.put h) hn hr⟩
    · rw [if_neg e]
      obtain ⟨zs, g1, g2⟩ := m.row j q hq
      have ne : q ≠ p := fun w => e (by
        subst w
        obtain ⟨j1, j2⟩ := List.getElem?_eq_some_iff.mp hq
        obtain ⟨i1, i2⟩ := List.getElem?_eq_some_iff.mp hp
        exact (List.getElem_inj m.nd).mp (j2.trans i2.symm))
      have hj : j < n := by rw [← m.len]; exact (List.getElem?_eq_some_iff.mp hq).1
      exact ⟨zs, by rw [upd_ne ne]; exact g1, tu_dpA (Tu.put h) (m.noL j hj) g2⟩
  · by_cases e : j = i
    · rw [if_pos e]
      exact hn
    · rw [if_neg e]
      exact m.noL j hj
theorem Mat.same {H0 H : Hp} {L : Addr} {ps : List Addr} {n : Nat} {f g : Nat → List PyData} (m : Mat K H0 H L ps n f) (e : ∀ i, i < n → f i = g i) : Mat K H0 H L ps n g :=
  ⟨m.top, m.new, m.nd, m.len, fun i p h => by
    rw [← e i (by rw [← m.len]; exact (List.getElem?_eq_some_iff.mp h).1)]
    exact m.row i p h, m.own, fun i hi => by rw [← e i hi]; exact m.noL i hi, m.ex⟩
theorem dpA_rows {H : Hp} : ∀ {ps : List Addr} {fs : List (List PyData)}, ps.length = fs.length → (∀ (i : Nat) (p : Addr) (r : List PyData), ps[i]? = some p → fs[i]? = some r → ∃ xs, H p = some (.lst xs) ∧ DpAll K H xs r) → DpAll K H (ps.map V.ref) (fs.map PyData.list)
  | [], [], _, _ => .nil
  | [], _ :: _, h, _ => by simp at h
  | _ :: _, [], h, _ => by simp at h
  | p :: ps, r :: fs, h, k => by
    obtain ⟨xs, h1, h2⟩ := k 0 p r rfl rfl
    refine .cons (.lst (sq_of h1) h2) (dpA_rows (by simpa using h) fun i q s hq hs => k (i + 1) q s (by simpa using hq) (by simpa using hs))
theorem Mat.dpA {H0 H : Hp} {L : Addr} {ps : List Addr} {n : Nat} {f : Nat → List PyData} (m : Mat K H0 H L ps n f) : DpAll K H (ps.map V.ref) ((List.range n).map fun i => .list (f i)) := by
  have := dpA_rows (K := K) (H := H) (ps := ps) (fs := (List.range n).map f) (by rw [List.length_map, List.length_range, m.len]) fun i p r hp hr => by
    rw [List.getElem?_map, Option.map_eq_some_iff] at hr
    obtain ⟨j, hj, rfl⟩ := hr
    obtain ⟨h1, h2⟩ := List.getElem?_eq_some_iff.mp hj
    rw [List.getElem_range] at h2
    subst h2
    exact m.row i p hp
  rwa [List.map_map] at this
theorem Mat.dp {H0 H : Hp} {L : Addr} {ps : List Addr} {n : Nat} {f : Nat → List PyData} (m : Mat K H0 H L ps n f) : Dp K H (.ref L) (.list ((List.range n).map fun i => .list (f i))) := .lst (sq_of m.top) m.dpA
/-- one row more -/
theorem Mat.more {H0 H : Hp} {L : Addr} {ps : List Addr} {n : Nat} {f : Nat → List PyData} (m : Mat K H0 H L ps n f) {p : Addr} {xs : List V} {H2 : Hp} (hp : H p = none) (e : Ex H H2) (h : H2 p = some (.lst xs)) (hd : DpAll K H2 xs (f n)) (hn : noLA (f n) = true) : Mat K H0 (upd H2 L (.lst (ps.map V.ref ++ [V.ref p]))) L (ps ++ [p]) (n + 1) f := by
  have top2 : H2 L = some (.lst (ps.map V.ref)) := e _ _ m.top
  have pL : p ≠ L := fun w => by
    rw [w, m.top] at hp
    cases hp
  refine ⟨by rw [upd_same, List.map_append]; rfl, m.new, ?_, by rw [List.length_append, m.len]; rfl, fun i q hq => ?_, fun q hq => ?_, fun i hi => ?_, (m.ex.trans e).mut m.new⟩
  · rw [List.nodup_append]
    refine ⟨m.nd, by simp, fun a ha b hb w => ?_⟩
    rw [List.mem_singleton] at hb
    subst w hb
    obtain ⟨i, hi⟩ := List.getElem?_of_mem ha
    obtain ⟨zs, g1, _⟩ := m.row i _ hi
    rw [hp] at g1
    cases g1
  · by_cases hi : i < ps.length
    · rw [List.getElem?_append_left hi] at hq
      obtain ⟨zs, g1, g2⟩ := m.row i q hq
      have ne : q ≠ L := (m.own q (List.mem_of_getElem? hq)).2
      exact ⟨zs, by rw [upd_ne ne]; exact e _ _ g1, tu_dpA (Tu.put top2) (m.noL i (by rw [← m.len]; exact hi)) (ex_dpA e g2)⟩
    · rw [List.getElem?_append_right (by omega)] at hq
      have hi2 : i - ps.length = 0 := by
        have := (List.getElem?_eq_some_iff.mp hq).1
        simp at this
        omega
      rw [hi2] at hq
      injection hq with hq
      subst hq
      have hin : i = n := by
        have := m.len
        omega
      subst hin
      exact ⟨xs, by rw [upd_ne pL]; exact h, tu_dpA (Tu.put top2) hn hd⟩
  · rcases List.mem_append.mp hq with hq | hq
    · exact m.own q hq
    · rw [List.mem_singleton] at hq
      subst hq
      exact ⟨fresh_back m.ex hp, pL⟩
  · by_cases q : i = n
    · subst q
      exact hn
    · exact m.noL i (by omega)
theorem Mat.start {H0 : Hp} {L : Addr} {f : Nat → List PyData} {H1 : Hp} (e : Ex H0 H1) (h : H1 L = none) : Mat K H0 (upd H1 L (.lst [])) L [] 0 f :=
  ⟨upd_same, fresh_back e h, List.nodup_nil, rfl, fun _ _ w => by simp at w, (fun _ w => by simp at w), fun _ w => by omega, e.trans (Ex.new h)⟩
theorem ev_row {H0 H : Hp} {L : Addr} {ps : List Addr} {n i j1 j2 : Nat} {f : Nat → List PyData} {p : Addr} (m : Mat K H0 H L ps n f) (hp : ps[i]? = some p) (h1 : σ[j1]? = some (some (.ref L))) (h2 : σ[j2]? = some (some (.int (i : Int)))) : Ev (tOp (rIxL K) (tVar j1) (tVar j2)) σ H (.ref p) :=
  ev_op (ev_var h1) (ev_var h2) (rv_ixL (sq_of m.top) (atI_nat (by rw [List.getElem?_map, hp]; rfl)))
theorem qd_asgT {i : Nat} (h : te σ H fun x H1 => tz D (σ.set i (some x)) H1) : tSeq (tAsg te (gName i)) tz D σ H := h
/-- [.. for j in range(n)], each a new list -/
theorem mat_lc {ta : TA} {j : Nat} {vs : List Nat} {n : Nat} {f : Nat → List PyData} {Q : VK} (h : EvDA K ta σ H [.int (n : Int)]) (hn : n ≤ 40000) (hw : ∀ x, wipe ((wipe σ vs).set j (some x)) vs = wipe σ vs)
    (he : ∀ (i : Nat), i < n → EvN K te ((wipe σ vs).set j (some (.int (i : Int)))) H (f i)) (hf : ∀ i, i < n → noLA (f i) = true) (q : ∀ L ps H', Mat K H H' L ps n f → Q (.ref L) H') :
    tLc (iRng1 ta) (gName j) tYes te vs σ H Q := by
  refine h H (Ex.refl H) _ fun xs H1 e1 hd => ?_
  cases hd with
  | cons h1 h2 =>
    cases h2
    rw [dp_int h1]
    refine ⟨(n : Int), rfl, by omega, by omega, fun L hL => ?_⟩
    have hnn : ((n : Int)).toNat = n := Int.toNat_natCast n
    rw [hnn]
    refine lc_range (lo := 0) (n := n) (fun i H' => ∃ ps, Mat K H H' L ps i f) ⟨[], Mat.start e1 hL⟩ (fun i H' hi ⟨ps, m⟩ => ?_) fun H' ⟨ps, m⟩ => q L ps H' m
    have e0 : (0 : Int) + (i : Int) = (i : Int) := Int.zero_add _
    show wipe ((wipe σ vs).set j (some (.int ((0 : Int) + (i : Int))))) vs = wipe σ vs ∧ te ((wipe σ vs).set j (some (.int ((0 : Int) + (i : Int))))) H' fun y H4 => ∃ acc, H4 L = some (.lst acc) ∧ acc.length < sizeLine ∧ ∃ ps, Mat K H (upd H4 L (.lst (acc ++ [y]))) L ps (i + 1) f
    rw [e0]
    refine ⟨hw _, he i hi H' m.ex _ fun p xs H4 hp e4 h4 hd => ⟨ps.map V.ref, e4 _ _ m.top, ?_, ps ++ [p], m.more hp e4 h4 hd (hf i hi)⟩⟩
    rw [List.length_map, m.len]
    exact sz_lt (by omega)
end
end Lt

set_option maxRecDepth 100000
set_option maxHeartbeats 4000000
/-! Promises told by data; near_lists. -/
namespace Lt
open PySem PySem.Spec L2 Evl

/-- from data to a datum -/
def spP (K : PySem.W.Frag) (R : List PyData → PyData → Prop) : Sp := fun vs H Q _ => ∃ ds d, DpAll K H vs ds ∧ R ds d ∧ ∀ v H', Ex H H' → Dp K H' v d → Q v H'
/-- from data to a new list -/
def spN (K : PySem.W.Frag) (R : List PyData → List PyData → Prop) : Sp := fun vs H Q _ => ∃ ds es, DpAll K H vs ds ∧ R ds es ∧ ∀ p xs H', H p = none → Ex H H' → H' p = some (.lst xs) → DpAll K H' xs es → Q (.ref p) H'
section
variable {K : PySem.W.Frag} {σ : L2.St} {H H' : Hp} {tl : TA} {ds es : List PyData} {d : PyData} {E : XK}
theorem ed_call {R : List PyData → PyData → Prop} (h : EvDA K tl σ H ds) (r : R ds d) : EvD K (tCall (spP K R) [] E tl) σ H d := fun H1 a Q q =>
  h H1 a _ fun vs H2 e2 hd => ⟨ds, d, by rw [List.append_nil]; exact hd, r, fun v H3 e3 hv => q v H3 (e2.trans e3) hv⟩
theorem en_call {R : List PyData → List PyData → Prop} (h : EvDA K tl σ H ds) (r : R ds es) : EvN K (tCall (spN K R) [] E tl) σ H es := fun H1 a Q q =>
  h H1 a _ fun vs H2 e2 hd => ⟨ds, es, by rw [List.append_nil]; exact hd, r, fun p xs H3 hp e3 h3 hv => q p xs H3 (fresh_back e2 hp) (e2.trans e3) h3 hv⟩
theorem spP_len {R : List PyData → PyData → Prop} {n : Nat} (h : ∀ ds d, R ds d → ds.length = n) : ∀ vs H Q E, spP K R vs H Q E → vs.length = n := fun vs H Q E ⟨ds, d, h1, h2, _⟩ => by
  rw [dpAll_len h1]
  exact h ds d h2
theorem spN_len {R : List PyData → List PyData → Prop} {n : Nat} (h : ∀ ds d, R ds d → ds.length = n) : ∀ vs H Q E, spN K R vs H Q E → vs.length = n := fun vs H Q E ⟨ds, d, h1, h2, _⟩ => by
  rw [dpAll_len h1]
  exact h ds d h2
theorem dpA_1 {vs : List V} {a : PyData} (h : DpAll K H vs [a]) : ∃ x, vs = [x] ∧ Dp K H x a := by
  cases h with
  | cons h1 h2 =>
    cases h2
    exact ⟨_, rfl, h1⟩
theorem dpA_2 {vs : List V} {a b : PyData} (h : DpAll K H vs [a, b]) : ∃ x y, vs = [x, y] ∧ Dp K H x a ∧ Dp K H y b := by
  cases h with
  | cons h1 h2 =>
    obtain ⟨y, rfl, h3⟩ := dpA_1 h2
    exact ⟨_, y, rfl, h1, h3⟩
theorem dpA_3 {vs : List V} {a b c : PyData} (h : DpAll K H vs [a, b, c]) : ∃ x y z, vs = [x, y, z] ∧ Dp K H x a ∧ Dp K H y b ∧ Dp K H z c := by
  cases h with
  | cons h1 h2 =>
    obtain ⟨y, z, rfl, h3, h4⟩ := dpA_2 h2
    exact ⟨_, y, z, rfl, h1, h3, h4⟩
theorem dpA_4 {vs : List V} {a b c d : PyData} (h : DpAll K H vs [a, b, c, d]) : ∃ x y z w, vs = [x, y, z, w] ∧ Dp K H x a ∧ Dp K H y b ∧ Dp K H z c ∧ Dp K H w d := by
  cases h with
  | cons h1 h2 =>
    obtain ⟨y, z, w, rfl, h3, h4, h5⟩ := dpA_3 h2
    exact ⟨_, y, z, w, rfl, h1, h3, h4, h5⟩
end

/-! ### near_lists -/
def nearOf : List Tie → Nat → List (Nat × Int)
  | [], _ => []
  | t :: r, i => (if t.1 = i then [(t.2.1, t.2.2)] else []) ++ (if t.2.1 = i then [(t.1, t.2.2)] else []) ++ nearOf r i
theorem nearOf_app (t : Tie) (i : Nat) : ∀ ts : List Tie, nearOf (ts ++ [t]) i = nearOf ts i ++ ((if t.1 = i then [(t.2.1, t.2.2)] else []) ++ (if t.2.1 = i then [(t.1, t.2.2)] else []))
  | [] => by simp [nearOf]
  | u :: r => by
    rw [List.cons_append]
    show _ ++ _ ++ nearOf (r ++ [t]) i = _
    rw [nearOf_app t i r]
    show _ = (_ ++ _ ++ nearOf r i) ++ _
    simp only [List.append_assoc]
theorem mem_nearOf {q : Nat × Int} {i : Nat} : ∀ {ts : List Tie}, q ∈ nearOf ts i ↔ (i, q.1, q.2) ∈ ts ∨ (q.1, i, q.2) ∈ ts
  | [] => by simp [nearOf]
  | t :: r => by
    obtain ⟨a, b, l⟩ := t
    obtain ⟨c, m⟩ := q
    show (c, m) ∈ (if a = i then [(b, l)] else []) ++ (if b = i then [(a, l)] else []) ++ nearOf r i ↔ _
    rw [List.mem_append, List.mem_append, mem_nearOf (ts := r), List.mem_cons, List.mem_cons]
    constructor
    · rintro ((h | h) | (h | h))
      · split at h
        · rename_i e
          rw [List.mem_singleton] at h
          injection h with h1 h2
          subst e h1 h2
          exact .inl (.inl rfl)
        · cases h
      · split at h
        · rename_i e
          rw [List.mem_singleton] at h
          injection h with h1 h2
          subst e h1 h2
          exact .inr (.inl rfl)
        · cases h
      · exact .inl (.inr h)
      · exact .inr (.inr h)
    · rintro ((h | h) | (h | h))
      · injection h with h1 h
        injection h with h2 h3
        subst h1 h2 h3
        rw [if_pos rfl]
        exact .inl (.inl List.mem_cons_self)
      · exact .inr (.inl h)
      · injection h with h1 h
        injection h with h2 h3
        subst h1 h2 h3
        rw [if_pos rfl]
        exact .inl (.inr List.mem_cons_self)
      · exact .inr (.inr h)
theorem nearOf_len (i : Nat) : ∀ ts : List Tie, (nearOf ts i).length ≤ 2 * ts.length
  | [] => Nat.le_refl _
  | t :: r => by
    have := nearOf_len i r
    show ((if t.1 = i then [(t.2.1, t.2.2)] else []) ++ (if t.2.1 = i then [(t.1, t.2.2)] else []) ++ nearOf r i).length ≤ _
    rw [List.length_append, List.length_append, List.length_cons]
    split <;> split <;> simp <;> omega
theorem nbD_noL (l : List (Nat × Int)) : noLA (l.map nbD) = true := noLA_all fun d hd => by
  obtain ⟨q, _, rfl⟩ := List.mem_map.mp hd
  rfl
theorem near_turn {ts : List Tie} {t : Tie} (j : Nat) (ne : t.1 ≠ t.2.1) : (if j = t.2.1 then (nearOf ts t.2.1).map nbD ++ [nbD (t.1, t.2.2)] else if j = t.1 then (nearOf ts t.1).map nbD ++ [nbD (t.2.1, t.2.2)] else (nearOf ts j).map nbD) = (nearOf (ts ++ [t]) j).map nbD := by
  rw [nearOf_app, List.map_append]
  by_cases h1 : j = t.2.1
  · subst h1
    rw [if_pos rfl, if_neg ne, if_pos rfl]
    rfl
  · have h1' : ¬ t.2.1 = j := fun z => h1 z.symm
    by_cases h2 : j = t.1
    · subst h2
      rw [if_neg h1, if_pos rfl, if_pos rfl, if_neg h1']
      rfl
    · have h2' : ¬ t.1 = j := fun z => h2 z.symm
      rw [if_neg h1, if_neg h2, if_neg h2', if_neg h1']
      exact (List.append_nil _).symm
def nearsD (W : Web) : PyData := .list ((List.range W.1).map fun i => .list ((nearOf W.2 i).map nbD))
def RNear (ds : List PyData) (d : PyData) : Prop := ∃ W, Good W ∧ ds = [webD W] ∧ d = nearsD W
def nNear : List Str := ["web", "found", "one", "other", "length", "place"]
theorem scNear : FnScope nNear ["web"] (defScope sNear) := ⟨rfl, rfl, rfl, by decide +kernel, rfl, by decide +kernel, by decide +kernel⟩
section
variable {P : Program} {w : World} {K : PySem.W.Frag} {mg : Str → Option Value} {base : Heap}
theorem ok_near {f : Addr} {fd : FuncData} {k : Nat} (F : Fun K "near_lists" "near_lists" sNear f fd) (mr : mg "range" = none) : FnOk P w K mg base CX0 (k + 1) f fd ["web"] (spP K RNear) := by
  refine F.ok scNear (spP_len fun ds d ⟨W, _, e, _⟩ => by rw [e]; rfl) (fun cdv A outer s H vs Q E hr h => ?_)
  obtain ⟨ds, d, hds, ⟨W, G, rfl, rfl⟩, q⟩ := h
  obtain ⟨v, rfl, hv⟩ := dpA_1 hds
  obtain ⟨w0, a, xs, Wa⟩ := web_at hv
  have nd := scNear.nd
  refine ⟨_, (pss_cons (ps_setLc (i := 1) (own := [("place", 5)]) (g := gName 5) (tt := tYes) rfl nd rfl rfl (sw_true rfl rfl rfl (by decide +kernel)) (pi_range1 rfl mr (pa_cons (pe_ix ix_tup (pv 0) pe_int (fun _ _ => rfl)) pa_nil)) (blkOk_by (own := [("place", 5)]) (N := nNear) (sc := defScope sNear) (by decide +kernel)) (fun _ _ _ _ _ => (pg_name (i := 5) nd rfl (Or.inl rfl))) (fun _ _ _ _ _ => pts_nil) (fun _ _ _ _ _ => (pe_lst pa_nil)))
      (pss_cons (ps_for PassesOwn.never rfl (pi_tup (pe_ix ix_tup (pv 0) pe_int (fun _ _ => rfl))) (pg_tup rfl (pgs_cons (pg_name (i := 2) nd rfl (Or.inl rfl)) (pgs_cons (pg_name (i := 3) nd rfl (Or.inl rfl)) (pgs_cons (pg_name (i := 4) nd rfl (Or.inl rfl)) pgs_nil))))
      (pss_cons (ps_expr (pe_bm PySem.F.plainAttrs_list PySem.F.slot_list_append PySem.F.type_list_append mt_append (pe_ix ix_list (pv 1) (pv 2) (fun _ _ => rfl)) (pa_cons (pe_tup (pa_cons (pv 3) (pa_cons (pv 4) pa_nil))) pa_nil)))
      (pss_one (ps_expr (pe_bm PySem.F.plainAttrs_list PySem.F.slot_list_append PySem.F.type_list_append mt_append (pe_ix ix_list (pv 1) (pv 3) (fun _ _ => rfl)) (pa_cons (pe_tup (pa_cons (pv 2) (pa_cons (pv 4) pa_nil))) pa_nil))))))
      (pss_one (ps_ret (pv 1))))), ?_⟩
  refine qd_asgT (mat_lc (n := W.1) (f := fun _ => []) (eda_cons (ed_ix0 (ed_var rfl hv)) eda_nil) (by have := G.small; omega) (fun _ => rfl) (fun i _ => en_lst eda_nil) (fun _ _ => rfl) fun L ps H1 m => ?_)
  refine q_forT3 (ts := W.2) Wa.ties Wa.each (ev_ix1 rfl (Wa.ex m.ex))
    (fun i σ' H' => (∃ y2 y3 y4 y5, σ' = [some v, some (.ref L), y2, y3, y4, y5]) ∧ Mat K H H' L ps W.1 fun j => (nearOf (W.2.take i) j).map nbD) (fun i σ' H' p => p.2.ex) (fun H2 e => ⟨⟨_, _, _, _, rfl⟩, m.mono e⟩) ?_ ?_
  · rintro i t σ' H' hi ⟨⟨y2, y3, y4, y5, rfl⟩, m⟩
    have hm : t ∈ W.2 := List.mem_of_getElem? hi
    obtain ⟨g1, g2, _⟩ := G.tie t hm
    have hil : i < W.2.length := (List.getElem?_eq_some_iff.mp hi).1
    have hlen : ∀ j, ((nearOf (W.2.take i) j).map nbD).length ≤ 100 := fun j => by
      have h1 := nearOf_len j (W.2.take i)
      have h2 := G.few
      rw [List.length_take] at h1
      rw [List.length_map]
      omega
    obtain ⟨p, xs1, hp, h1, h2, h3, h4⟩ := m.at (i := t.1) (by omega)
    have l1 := dpAll_len h2
    have := hlen t.1
    refine sd_app h1 (ev_row m hp rfl rfl) (ed_tup (eda_cons (ed_var rfl (.int _)) (eda_cons (ed_var rfl (.int _)) eda_nil))) (by omega) fun x H2 e2 hx => ?_
    have m2 := (m.mono e2).put hp (e2 _ _ h1) (dpA_app (ex_dpA e2 h2) hx) (r := (nearOf (W.2.take i) t.1).map nbD ++ [nbD (t.2.1, t.2.2)]) (by
      rw [show [nbD (t.2.1, t.2.2)] = [(t.2.1, t.2.2)].map nbD from rfl, ← List.map_append]
      exact nbD_noL _)
    obtain ⟨p', xs2, hp', k1, k2, k3, k4⟩ := m2.at (i := t.2.1) g2
    rw [if_neg (by omega)] at k2
    have l2 := dpAll_len k2
    have := hlen t.2.1
    refine sd_app k1 (ev_row m2 hp' rfl rfl) (ed_tup (eda_cons (ed_var rfl (.int _)) (eda_cons (ed_var rfl (.int _)) eda_nil))) (by omega) fun y H3 e3 hy => ?_
    have m3 := (m2.mono e3).put hp' (e3 _ _ k1) (dpA_app (ex_dpA e3 k2) hy) (r := (nearOf (W.2.take i) t.2.1).map nbD ++ [nbD (t.1, t.2.2)]) (by
      rw [show [nbD (t.1, t.2.2)] = [(t.1, t.2.2)].map nbD from rfl, ← List.map_append]
      exact nbD_noL _)
    refine ⟨⟨_, _, _, _, rfl⟩, m3.same fun j hj => ?_⟩
    have et : W.2.take (i + 1) = W.2.take i ++ [t] := by rw [List.take_add_one, hi]; rfl
    rw [et]
    exact near_turn j (by omega)
  · rintro σ' H' ⟨⟨y2, y3, y4, y5, rfl⟩, m⟩
    rw [List.take_length] at m
    exact sd_ret (ed_var rfl m.dp) fun u H2 e2 hu => q u H2 (m.ex.trans e2) hu
end
end Lt

set_option maxRecDepth 100000
set_option maxHeartbeats 4000000
/-! Comprehensions by data; nearest_open. -/
namespace Lt
open PySem PySem.Spec L2 Evl

/-- a def that may be called by its name -/
structure Cal (P : Program) (w : World) (K : PySem.W.Frag) (mg : Str → Option Value) (base : Heap) (nm : Str) (ps : List Str) (k : Nat) (sp : Sp) : Prop where
  ex : ∃ f fd, FnOk P w K mg base CX0 k f fd ps sp ∧ mg nm = some (.ref f) ∧ PySem.W.keepIn K (.ref f) = true ∧ Binds K fd ps []
/-- what the built-in names are -/
structure Bt (mg : Str → Option Value) : Prop where
  range : mg "range" = none
  len : mg "len" = none
  min : mg "min" = none
  max : mg "max" = none
  sorted : mg "sorted" = none
  list : mg "list" = none
  tuple : mg "tuple" = none
  isinstance : mg "isinstance" = none
  int : mg "int" = none
  bool : mg "bool" = none
  all : mg "all" = none
  any : mg "any" = none
  zip : mg "zip" = none
  abs : mg "abs" = none
  sum : mg "sum" = none
  enumerate : mg "enumerate" = none

section
variable {K : PySem.W.Frag} {σ : L2.St} {H H' : Hp} {ta tb te tc ts : TE} {tl : TA} {t u : TT} {D : Ends} {tz tw : TS}
/-- a step of a comprehension whose new list lies at L -/
def Lcw (K : PySem.W.Frag) (H1 : Hp) (L : Addr) (es : List PyData) (H' : Hp) : Prop := H1 L = none ∧ Ex H1 H' ∧ ∃ acc, H' L = some (.lst acc) ∧ DpAll K H' acc es
theorem lcw_turn {H1 H2 : Hp} {L : Addr} {es nx : List PyData} {b : Bool} {z : PyData} {σ2 : L2.St} (p : Lcw K H1 L es H2) (hl : es.length < 50000) (hn : noLA es = true) (ht : EvT t σ2 H1 b) (he : b = true → EvD K te σ2 H1 z) (hz : noL z = true) (hx : nx = if b = true then es ++ [z] else es) :
    t σ2 H2 fun b H3 => if b = true then te σ2 H3 fun y H4 => ∃ acc, H4 L = some (.lst acc) ∧ acc.length < sizeLine ∧ Lcw K H1 L nx (upd H4 L (.lst (acc ++ [y]))) else Lcw K H1 L nx H3 := by
  obtain ⟨p1, p2, acc, p3, p4⟩ := p
  refine ht H2 p2 _ fun H3 e3 => ?_
  cases b with
  | true =>
    rw [if_pos rfl] at hx
    subst hx
    show te σ2 H3 fun y H4 => ∃ acc, H4 L = some (.lst acc) ∧ acc.length < sizeLine ∧ Lcw K H1 L (es ++ [z]) (upd H4 L (.lst (acc ++ [y])))
    refine he rfl H3 (p2.trans e3) _ fun y H4 e4 hy => ⟨acc, e4 _ _ (e3 _ _ p3), ?_, p1, Ex.mut ((p2.trans e3).trans e4) p1, acc ++ [y], upd_same, ?_⟩
    · rw [dpAll_len p4]
      exact sz_lt (by omega)
    · have h4 : H4 L = some (.lst acc) := e4 _ _ (e3 _ _ p3)
      exact dpA_app (tu_dpA (Tu.put h4) hn (ex_dpA (e3.trans e4) p4)) (tu_dp (Tu.put h4) hz hy)
  | false =>
    rw [if_neg Bool.false_ne_true] at hx
    subst hx
    show Lcw K H1 L nx H3
    exact ⟨p1, p2.trans e3, acc, e3 _ _ p3, ex_dpA e3 p4⟩
theorem lcw_start {H1 : Hp} {L : Addr} (h : H1 L = none) : Lcw K H1 L [] (upd H1 L (.lst [])) := ⟨h, Ex.new h, [], upd_same, .nil⟩
theorem lcw_end {H0 H1 H' : Hp} {L : Addr} {es : List PyData} {Q : VK} (e : Ex H0 H1) (p : Lcw K H1 L es H') (q : ∀ p xs H2, H0 p = none → Ex H0 H2 → H2 p = some (.lst xs) → DpAll K H2 xs es → Q (.ref p) H2) : Q (.ref L) H' := by
  obtain ⟨p1, p2, acc, p3, p4⟩ := p
  exact q L acc H' (fresh_back e p1) (e.trans p2) p3 p4
/-- [.. for j in range(n) if ..] -/
theorem en_lcR {ta : TA} {j : Nat} {vs : List Nat} {n : Nat} (f : Nat → Bool) (g : Nat → PyData) (h : EvDA K ta σ H [.int (n : Int)]) (hn : n ≤ 40000) (hw : ∀ x, wipe ((wipe σ vs).set j (some x)) vs = wipe σ vs)
    (ht : ∀ i, i < n → EvT t ((wipe σ vs).set j (some (.int (i : Int)))) H (f i)) (he : ∀ i, i < n → f i = true → EvD K te ((wipe σ vs).set j (some (.int (i : Int)))) H (g i)) (hz : ∀ i, i < n → noL (g i) = true) :
    EvN K (tLc (iRng1 ta) (gName j) t te vs) σ H (((List.range n).filter f).map g) := fun H0 a Q q => by
  refine h H0 a _ fun xs H1 e1 hd => ?_
  obtain ⟨x, rfl, hx⟩ := dpA_1 hd
  rw [dp_int hx]
  refine ⟨(n : Int), rfl, by omega, by omega, fun L hL => ?_⟩
  rw [show ((n : Int)).toNat = n from Int.toNat_natCast n]
  refine lc_range (lo := 0) (n := n) (fun i H' => Lcw K H1 L (((List.range i).filter f).map g) H') (lcw_start hL) (fun i H' hi p => ?_) fun H' p => lcw_end e1 p q
  have e0 : (0 : Int) + (i : Int) = (i : Int) := Int.zero_add _
  show wipe ((wipe σ vs).set j (some (.int ((0 : Int) + (i : Int))))) vs = wipe σ vs ∧ t ((wipe σ vs).set j (some (.int ((0 : Int) + (i : Int))))) H' fun b H3 => if b = true then te ((wipe σ vs).set j (some (.int ((0 : Int) + (i : Int))))) H3 fun y H4 => ∃ acc, H4 L = some (.lst acc) ∧ acc.length < sizeLine ∧ Lcw K H1 L (((List.range (i + 1)).filter f).map g) (upd H4 L (.lst (acc ++ [y]))) else Lcw K H1 L (((List.range (i + 1)).filter f).map g) H3
  rw [e0]
  refine ⟨hw _, ?_⟩
  have hlen : (((List.range i).filter f).map g).length < 50000 := by
    have := List.length_filter_le f (List.range i)
    rw [List.length_range] at this
    rw [List.length_map]
    omega
  have hno : noLA (((List.range i).filter f).map g) = true := noLA_all fun d hd => by
    obtain ⟨k, hk, rfl⟩ := List.mem_map.mp hd
    have := List.mem_range.mp (List.mem_filter.mp hk).1
    exact hz k (by omega)
  refine lcw_turn p hlen hno ((ht i hi).mono (a.trans e1)) (fun hf => (he i hi hf).mono (a.trans e1)) (hz i hi) ?_
  rw [List.range_succ, List.filter_append, List.map_append, List.filter_cons]
  split
  · rfl
  · exact List.append_nil _
/-- [.. for j in a list of data] -/
theorem en_lcL {α : Type} {j : Nat} {vs : List Nat} (as : List α) (en : α → PyData) (f : α → Bool) (g : α → PyData) (h : EvD K ts σ H (.list (as.map en))) (hn : as.length ≤ 40000) (hw : ∀ x, wipe ((wipe σ vs).set j (some x)) vs = wipe σ vs)
    (ht : ∀ a ∈ as, ∀ x H1, Ex H H1 → Dp K H1 x (en a) → EvT t ((wipe σ vs).set j (some x)) H1 (f a)) (he : ∀ a ∈ as, f a = true → ∀ x H1, Ex H H1 → Dp K H1 x (en a) → EvD K te ((wipe σ vs).set j (some x)) H1 (g a)) (hz : ∀ a ∈ as, noL (g a) = true) :
    EvN K (tLc (iList K ts) (gName j) t te vs) σ H ((as.filter f).map g) := fun H0 a Q q => by
  refine h H0 a _ fun v H1 e1 hd => ?_
  obtain ⟨l, xs, rfl, hs, hx⟩ := dp_lst hd
  have hlx : xs.length = as.length := by rw [dpAll_len hx, List.length_map]
  refine ⟨l, rfl, ⟨xs, hs⟩, fun L hL => ?_⟩
  refine lc_list (xs := xs) (fun i H' => Lcw K H1 L (((as.take i).filter f).map g) H') (lcw_start hL) (fun i H' _ p => ex_l p.2.1 hs) (fun i x H' hi p => ?_) fun H' p => lcw_end e1 (by rw [hlx, List.take_length] at p; exact p) q
  obtain ⟨d, hd', hxd⟩ := dpAll_at hx hi
  rw [List.getElem?_map, Option.map_eq_some_iff] at hd'
  obtain ⟨b, hb, rfl⟩ := hd'
  have hm : b ∈ as := List.mem_of_getElem? hb
  refine ⟨hw x, ?_⟩
  have hlen : (((as.take i).filter f).map g).length < 50000 := by
    have h1 := List.length_filter_le f (as.take i)
    rw [List.length_take] at h1
    rw [List.length_map]
    omega
  have hno : noLA (((as.take i).filter f).map g) = true := noLA_all fun d hd => by
    obtain ⟨k, hk, rfl⟩ := List.mem_map.mp hd
    exact hz k (List.mem_of_mem_take (List.mem_filter.mp hk).1)
  refine lcw_turn p hlen hno (ht b hm x H1 (a.trans e1) hxd) (fun hf => he b hm hf x H1 (a.trans e1) hxd) (hz b hm) ?_
  rw [List.take_add_one, hb, Option.toList_some, List.filter_append, List.map_append, List.filter_cons]
  split
  · rfl
  · exact List.append_nil _
/-- the target: a pair's or a tie's parts in slots -/
def EvG (g : TG) (x : V) (σ : L2.St) (H : Hp) (σ2 : L2.St) : Prop := ∀ Q : L2.St → Hp → Prop, Q σ2 H → g x σ H Q
/-- [.. for a, b, c in a tuple of data] -/
theorem en_lcT {α : Type} {g0 : TG} {vs : List Nat} (as : List α) (en : α → PyData) (f : α → Bool) (g : α → PyData) (σf : α → L2.St) (h : EvD K ts σ H (.tuple (as.map en))) (hn : as.length ≤ 40000)
    (hg : ∀ a ∈ as, ∀ x H1, Ex H H1 → Dp K H1 x (en a) → EvG g0 x (wipe σ vs) H1 (σf a)) (hw : ∀ a ∈ as, wipe (σf a) vs = wipe σ vs)
    (ht : ∀ a ∈ as, EvT t (σf a) H (f a)) (he : ∀ a ∈ as, f a = true → EvD K te (σf a) H (g a)) (hz : ∀ a ∈ as, noL (g a) = true) :
    EvN K (tLc (iTup K ts) g0 t te vs) σ H ((as.filter f).map g) := fun H0 a Q q => by
  refine h H0 a _ fun v H1 e1 hd => ?_
  obtain ⟨l, xs, rfl, hs, hx⟩ := dp_tup hd
  have hlx : xs.length = as.length := by rw [dpAll_len hx, List.length_map]
  refine ⟨l, rfl, ⟨xs, hs⟩, fun L hL => ?_⟩
  refine lc_tup (xs := xs) (fun i H' => Lcw K H1 L (((as.take i).filter f).map g) H') (lcw_start hL) (fun i H' _ p => ex_t p.2.1 hs) (fun i x H' hi p => ?_) fun H' p => lcw_end e1 (by rw [hlx, List.take_length] at p; exact p) q
  obtain ⟨d, hd', hxd⟩ := dpAll_at hx hi
  rw [List.getElem?_map, Option.map_eq_some_iff] at hd'
  obtain ⟨b, hb, rfl⟩ := hd'
  have hm : b ∈ as := List.mem_of_getElem? hb
  refine hg b hm x H' ((a.trans e1).trans p.2.1) (ex_dp p.2.1 hxd) _ ⟨hw b hm, ?_⟩
  have hlen : (((as.take i).filter f).map g).length < 50000 := by
    have h1 := List.length_filter_le f (as.take i)
    rw [List.length_take] at h1
    rw [List.length_map]
    omega
  have hno : noLA (((as.take i).filter f).map g) = true := noLA_all fun d hd => by
    obtain ⟨k, hk, rfl⟩ := List.mem_map.mp hd
    exact hz k (List.mem_of_mem_take (List.mem_filter.mp hk).1)
  refine lcw_turn p hlen hno ((ht b hm).mono (a.trans e1)) (fun hf => (he b hm hf).mono (a.trans e1)) (hz b hm) ?_
  rw [List.take_add_one, hb, Option.toList_some, List.filter_append, List.map_append, List.filter_cons]
  split
  · rfl
  · exact List.append_nil _
theorem eg_3 {j1 j2 j3 n : Nat} {x : V} {a b : Int} {c : Int} (h : Dp K H x (.tuple [.int a, .int b, .int c])) (hn : 3 = n := by rfl) : EvG (gTup K n (gCons (gName j1) (gCons (gName j2) (gCons (gName j3) gNil)))) x σ H (((σ.set j1 (some (.int a))).set j2 (some (.int b))).set j3 (some (.int c))) := fun Q q => by
  obtain ⟨b, ys, rfl, h1, h2⟩ := dp_tup h
  obtain ⟨u, v, w, rfl, g1, g2, g3⟩ := dpA_3 h2
  rw [dp_int g1, dp_int g2, dp_int g3] at h1
  exact ⟨b, _, rfl, h1, hn, _, _, rfl, _, _, rfl, _, _, rfl, rfl, q⟩
theorem eg_2 {j1 j2 n : Nat} {x : V} {a b : Int} (h : Dp K H x (.tuple [.int a, .int b])) (hn : 2 = n := by rfl) : EvG (gTup K n (gCons (gName j1) (gCons (gName j2) gNil))) x σ H ((σ.set j1 (some (.int a))).set j2 (some (.int b))) := fun Q q => by
  obtain ⟨b, ys, rfl, h1, h2⟩ := dp_tup h
  obtain ⟨u, v, rfl, g1, g2⟩ := dpA_2 h2
  rw [dp_int g1, dp_int g2] at h1
  exact ⟨b, _, rfl, h1, hn, _, _, rfl, _, _, rfl, rfl, q⟩
theorem et_yes : EvT tYes σ H true := fun H1 _ _ q => q H1 (Ex.refl H1)
/-- the least of pairs of ints -/
def prD (p : Int × Int) : PyData := .tuple [.int p.1, .int p.2]
theorem min_prs (p : Int × Int) : ∀ ps : List (Int × Int), ∃ m, PySem.W.minD (prD p) (ps.map prD) = prD m ∧ m ∈ p :: ps ∧ ∀ q ∈ p :: ps, m.1 ≤ q.1 := by
  intro ps
  unfold PySem.W.minD
  induction ps generalizing p with
  | nil => exact ⟨p, rfl, List.mem_cons_self, fun q hq => by rw [List.mem_singleton] at hq; rw [hq]; exact Int.le_refl _⟩
  | cons a r ih =>
    rw [List.map_cons, List.foldl_cons]
    have e : PySem.W.dataLt (prD a) (prD p) = decide (a.1 < p.1 ∨ (a.1 = p.1 ∧ a.2 < p.2)) := PySem.W.dataLt_ii _ _ _ _
    rw [e]
    by_cases h : a.1 < p.1 ∨ (a.1 = p.1 ∧ a.2 < p.2)
    · rw [if_pos (decide_eq_true h)]
      obtain ⟨m, h1, h2, h3⟩ := ih a
      refine ⟨m, h1, List.mem_cons_of_mem _ h2, fun q hq => ?_⟩
      rcases List.mem_cons.mp hq with w | hq
      · have := h3 a List.mem_cons_self
        rw [w]
        omega
      · exact h3 q hq
    · rw [if_neg (by simpa using h)]
      obtain ⟨m, h1, h2, h3⟩ := ih p
      refine ⟨m, h1, ?_, fun q hq => ?_⟩
      · rcases List.mem_cons.mp h2 with w | h2
        · rw [w]
          exact List.mem_cons_self
        · exact List.mem_cons_of_mem _ (List.mem_cons_of_mem _ h2)
      · have hp := h3 p List.mem_cons_self
        rcases List.mem_cons.mp hq with w | hq
        · rw [w]
          exact hp
        · rcases List.mem_cons.mp hq with w | hq
          · rw [w]
            omega
          · exact h3 q (List.mem_cons_of_mem _ hq)
theorem prs_ok (ps : List (Int × Int)) : PySem.W.AlikeAll (ps.map prD) ∧ PyData.depthAll (ps.map prD) ≤ 60 ∧ PyData.canLayAll0 (ps.map prD) = true := by
  refine ⟨⟨fun x hx y hy => ?_, fun x hx => ?_⟩, ?_, ?_⟩
  · obtain ⟨a, _, rfl⟩ := List.mem_map.mp hx
    obtain ⟨b, _, rfl⟩ := List.mem_map.mp hy
    simp [prD, PySem.W.alike, PySem.W.alikeAll]
  · obtain ⟨a, _, rfl⟩ := List.mem_map.mp hx
    exact fun w => nomatch w
  · suffices PyData.depthAll (ps.map prD) ≤ 1 by omega
    induction ps with
    | nil => simp [PyData.depthAll]
    | cons a r ih =>
      rw [List.map_cons]
      simp only [PyData.depthAll]
      have : (prD a).depth = 1 := by simp [prD, PyData.depth, PyData.depthAll]
      omega
  · induction ps with
    | nil => simp [PyData.canLayAll0]
    | cons a r ih =>
      rw [List.map_cons]
      simp only [PyData.canLayAll0, Bool.and_eq_true]
      exact ⟨by simp [prD, PyData.canLay0, PyData.canLayAll0], ih⟩
end

/-! ### nearest_open -/
def optD : Option Int → PyData
  | .none => .none
  | .some x => .int x
def spOpen (K : PySem.W.Frag) : Sp := fun vs H Q _ => ∃ (f : Fars) (d : List Bool), DpAll K H vs [.list (f.map optD), .list (d.map PyData.bool)] ∧ f.length = d.length ∧ f.length ≤ 1000 ∧ (∃ j x, nth f j = some x ∧ isDone d j = false) ∧
  ∀ (h : Nat) H', Nearest f d h → Ex H H' → Q (.int (h : Int)) H'
def nOpen : List Str := ["fars", "done", "open_ones", "place"]
theorem scOpen : FnScope nOpen ["fars", "done"] (defScope sOpen) := ⟨rfl, rfl, rfl, by decide +kernel, rfl, by decide +kernel, by decide +kernel⟩
theorem nth_opt {f : Fars} {j : Nat} (h : j < f.length) : (f.map optD)[j]? = some (optD (nth f j)) := by
  unfold nth
  rw [List.getElem?_map, List.getElem?_eq_getElem h, Option.join_some]
  rfl
theorem done_at {d : List Bool} {j : Nat} (h : j < d.length) : (d.map PyData.bool)[j]? = some (.bool (isDone d j)) := by
  unfold isDone
  rw [List.getElem?_map, List.getElem?_eq_getElem h]
  rfl
theorem nth_lt {f : Fars} {j : Nat} {x : Int} (h : nth f j = some x) : j < f.length := by
  unfold nth at h
  cases e : f[j]? with
  | none =>
    rw [e] at h
    cases h
  | some o => exact (List.getElem?_eq_some_iff.mp e).1
section
variable {P : Program} {w : World} {K : PySem.W.Frag} {mg : Str → Option Value} {base : Heap}
theorem ok_open {f : Addr} {fd : FuncData} {k : Nat} (F : Fun K "nearest_open" "nearest_open" sOpen f fd) (T : Bt mg) : FnOk P w K mg base CX0 (k + 1) f fd ["fars", "done"] (spOpen K) := by
  refine F.ok scOpen (fun vs H Q E ⟨_, _, h, _⟩ => dpAll_len h) (fun cdv A outer s H vs Q E hr h => ?_)
  obtain ⟨f, d, hds, hl, hle, ⟨j0, x0, hj0, hd0⟩, q⟩ := h
  obtain ⟨v1, v2, rfl, hv1, hv2⟩ := dpA_2 hds
  have nd := scOpen.nd
  have hu := hr.units
  refine ⟨_, (pss_cons (ps_setLc (i := 2) (own := [("place", 3)]) (g := gName 3) (tt := _) rfl nd rfl rfl (sw_true rfl rfl rfl (by decide +kernel)) (pi_range1 rfl T.range (pa_cons (pe_callB call_len_seq (by rfl) T.len PySem.boot_len (pa_cons (pv 0) pa_nil)) pa_nil)) (blkOk_by (own := [("place", 3)]) (N := nOpen) (sc := defScope sOpen) (by decide +kernel)) (fun _ _ _ _ _ => (pg_name (i := 3) nd rfl (Or.inl rfl))) (fun _ _ _ _ _ => (pts_one (PW.pt (pw_and (pt_cmpR op_notN (pe_ix (r := rIxL K) ix_list (pv 0) (pv 3) (fun _ _ => rfl)) pe_non (nomark _)) (pw_and1 (pt_not (pt_val (pe_ix (r := rIxL K) ix_list (pv 1) (pv 3) (fun _ _ => rfl))))))))) (fun _ _ _ _ _ => (pv 3)))
      (pss_one (ps_ret (pe_ix (r := rIxT K) ix_tup (pe_callB (cr_minD rfl hu) (by rfl) T.min (by decide +kernel) (pa_cons (pe_lc (own := [("place", 3)]) (g := gName 3) (tt := tYes) rfl nd (pi_list (pv 2)) (blkOk_by (own := [("place", 3)]) (N := nOpen) (sc := defScope sOpen) (by decide +kernel)) (fun _ _ _ _ _ => (pg_name (i := 3) nd rfl (Or.inl rfl))) (fun _ _ _ _ _ => pts_nil) (fun _ _ _ _ _ => (pe_tup (pa_cons (pe_ix (r := rIxL K) ix_list (pv 0) (pv 3) (fun _ _ => rfl)) (pa_cons (pv 3) pa_nil))))) pa_nil)) pe_int (fun _ _ => rfl))))), ?_⟩
  have hn : ((f.map optD).length : Int) = (f.length : Int) := by rw [List.length_map]
  refine qd_asgN (en_lcR (n := f.length) (fun i => !isN (optD (nth f i)) && !isDone d i) (fun i => .int (i : Int)) (eda_cons ((ed_cb (eda_cons (ed_var rfl hv1) eda_nil) rdc_lenL).is (by rw [hn])) eda_nil) (by omega) (fun _ => rfl)
    (fun i hi => et_and (dt_test (ed_op (ed_ixL (ed_var rfl hv1) (ed_var rfl (.int _)) (atI_nat (nth_opt hi))) ed_non rd_notN)) fun _ => et_not (dt_B (ed_ixL (ed_var rfl hv2) (ed_var rfl (.int _)) (atI_nat (done_at (by omega)))))) (fun i hi _ => ed_var rfl (.int _)) (fun _ _ => rfl)) fun p xs H1 hp e1 h1 hd1 => ?_
  generalize hops : (List.range f.length).filter (fun i => !isN (optD (nth f i)) && !isDone d i) = ops at hd1
  have mem : ∀ i, i ∈ ops ↔ ∃ x, nth f i = some x ∧ isDone d i = false := fun i => by
    rw [← hops, List.mem_filter, List.mem_range, Bool.and_eq_true]
    constructor
    · rintro ⟨h1, h2, h3⟩
      cases e : nth f i with
      | none =>
        rw [e] at h2
        cases h2
      | some x => exact ⟨x, rfl, by simpa using h3⟩
    · rintro ⟨x, h2, h3⟩
      rw [h2, h3]
      exact ⟨nth_lt h2, rfl, rfl⟩
  have hops0 : j0 ∈ ops := (mem j0).mpr ⟨x0, hj0, hd0⟩
  have hol : ops.length ≤ 1000 := by
    rw [← hops]
    have := List.length_filter_le (fun i => !isN (optD (nth f i)) && !isDone d i) (List.range f.length)
    rw [List.length_range] at this
    omega
  let pr : Nat → Int × Int := fun i => ((nth f i).getD 0, (i : Int))
  have hpr : ∀ i ∈ ops, PyData.tuple [optD (nth f i), .int (i : Int)] = prD (pr i) := fun i hi => by
    obtain ⟨x, hx, _⟩ := (mem i).mp hi
    show PyData.tuple [optD (nth f i), .int (i : Int)] = .tuple [.int ((nth f i).getD 0), .int (i : Int)]
    rw [hx]
    rfl
  have eops : (ops.filter fun _ => true).map (fun i => PyData.tuple [optD (nth f i), .int (i : Int)]) = (ops.map pr).map prD := by
    rw [List.filter_eq_self.mpr (fun _ _ => rfl), List.map_map]
    exact List.map_congr_left fun i hi => hpr i hi
  have hpre : ∃ i0 r, ops = i0 :: r := by
    cases ops with
    | nil => cases hops0
    | cons a b => exact ⟨a, b, rfl⟩
  obtain ⟨i0, r, hir⟩ := hpre
  obtain ⟨m, hm1, hm2, hm3⟩ := min_prs (pr i0) (r.map pr)
  have hcons : (pr i0 :: r.map pr) = ops.map pr := by rw [hir]; rfl
  rw [hcons] at hm2 hm3
  obtain ⟨h, hh, rfl⟩ := List.mem_map.mp hm2
  have near : Nearest f d h := by
    obtain ⟨x, hx, hdn⟩ := (mem h).mp hh
    refine ⟨nth_lt hx, hdn, x, hx, fun j y hj hdj => ?_⟩
    have := hm3 (pr j) (List.mem_map.mpr ⟨j, (mem j).mpr ⟨y, hj, hdj⟩, rfl⟩)
    show x ≤ y
    have e1 : (pr h).1 = x := by show (nth f h).getD 0 = x; rw [hx]; rfl
    have e2 : (pr j).1 = y := by show (nth f j).getD 0 = y; rw [hj]; rfl
    omega
  have hlist : EvN K _ [some v1, some v2, some (.ref p), none] H1 _ := en_lcL (K := K) (H := H1) (j := 3) (vs := [3]) (ts := tVar 2) (t := tYes) (te := tTup (tCons (tOp (rIxL K) (tVar 0) (tVar 3)) (tCons (tVar 3) tNil))) (σ := [some v1, some v2, some (.ref p), none]) ops (fun i => PyData.int (i : Int)) (fun _ => true) (fun i => .tuple [optD (nth f i), .int (i : Int)]) (ed_ref rfl h1 hd1) (by omega) (fun _ => rfl)
    (fun _ _ _ _ _ _ => et_yes) (fun i hi _ x H2 e2 hx => ed_tup (eda_cons (ed_ixL (ed_var rfl (ex_dp (e1.trans e2) hv1)) (ed_var rfl hx) (atI_nat (nth_opt (by
      obtain ⟨x, hx, _⟩ := (mem i).mp hi
      exact nth_lt hx)))) (eda_cons (ed_var rfl hx) eda_nil))) (fun i hi => by rw [hpr i hi]; rfl)
  rw [eops, ← hcons] at hlist
  have ok := prs_ok (pr i0 :: r.map pr)
  have hmin : RDC K (rMinD K) [.list ((pr i0 :: r.map pr).map prD)] H1 (prD (pr h)) := fun H2 e2 ys hys Q' q' => by
    obtain ⟨y, rfl, hy⟩ := dpA_1 hys
    exact ⟨y, prD (pr i0), (r.map pr).map prD, rfl, .inl hy, ok.1, ok.2.1, ok.2.2, fun v hv => q' v H2 (Ex.refl H2) (by rw [hm1] at hv; exact hv)⟩
  refine sd_ret (d := .int (h : Int)) (ed_ixT (ed_cb (eda_cons (evn_d hlist) eda_nil) hmin) ed_int rfl) fun v H2 e2 hv => ?_
  rw [dp_int hv]
  exact q h H2 near (e1.trans e2)
end
end Lt

set_option maxRecDepth 100000
set_option maxHeartbeats 4000000
/-! The looks at a place; fars_from. -/
namespace Lt
open PySem PySem.Spec L2 Evl

section
variable {K : PySem.W.Frag} {σ : L2.St} {H H' : Hp} {ta tb te tc ts : TE} {tl : TA} {t u : TT} {D : Ends} {tz tw : TS}
/-- for .. in a list of data -/
theorem s_forD {α : Type} (as : List α) (en : α → PyData) {g0 : TG} {B : Hp} {a : Addr} {xs : List V} (hx : SqL K B a xs) (he : DpAll K B xs (as.map en)) (h : Ev ts σ H (.ref a)) (Pv : Nat → L2.St → Hp → Prop) (ht : ∀ i σ' H', Pv i σ' H' → Ex B H') (h0 : ∀ H1, Ex H H1 → Pv 0 σ H1)
    (hs : ∀ i x σ' H' v, as[i]? = some x → Pv i σ' H' → Dp K H' v (en x) → g0 v σ' H' fun σ2 H2 => tw { D with nx := Pv (i + 1), ct := Pv (i + 1), bk := D.nx } σ2 H2)
    (hd : ∀ σ' H', Pv as.length σ' H' → D.nx σ' H') : tFor (iList K ts) g0 tw D σ H := by
  have hl : xs.length = as.length := by rw [dpAll_len he, List.length_map]
  refine h H (Ex.refl H) _ fun H1 e => ⟨a, rfl, ⟨xs, ex_l (ht _ _ _ (h0 H1 e)) hx⟩, for_list Pv (h0 H1 e) (fun i σ' H' _ p => ex_l (ht i σ' H' p) hx) (fun i x σ' H' hi p => ?_) (by rw [hl]; exact hd)⟩
  obtain ⟨d, hd', hv⟩ := dpAll_at he hi
  rw [List.getElem?_map, Option.map_eq_some_iff] at hd'
  obtain ⟨y, hy, rfl⟩ := hd'
  exact hs i y σ' H' x hy p (ex_dp (ht i σ' H' p) hv)
theorem q_forD {α : Type} (as : List α) (en : α → PyData) {g0 : TG} {B : Hp} {a : Addr} {xs : List V} (hx : SqL K B a xs) (he : DpAll K B xs (as.map en)) (h : Ev ts σ H (.ref a)) (Pv : Nat → L2.St → Hp → Prop) (ht : ∀ i σ' H', Pv i σ' H' → Ex B H') (h0 : ∀ H1, Ex H H1 → Pv 0 σ H1)
    (hs : ∀ i x σ' H' v, as[i]? = some x → Pv i σ' H' → Dp K H' v (en x) → g0 v σ' H' fun σ2 H2 => tw { D with nx := Pv (i + 1), ct := Pv (i + 1), bk := tz D } σ2 H2)
    (hd : ∀ σ' H', Pv as.length σ' H' → tz D σ' H') : tSeq (tFor (iList K ts) g0 tw) tz D σ H := s_forD (D := { D with nx := tz D }) as en hx he h Pv ht h0 hs hd
/-- for j in range(n) -/
theorem s_forN {ta : TA} {j n : Nat} (h : EvDA K ta σ H [.int (n : Int)]) (hn : n ≤ 100000) (Pv : Nat → L2.St → Hp → Prop) (h0 : ∀ H1, Ex H H1 → Pv 0 σ H1)
    (hs : ∀ (i : Nat) σ' H', i < n → Pv i σ' H' → tw { D with nx := Pv (i + 1), ct := Pv (i + 1), bk := D.nx } (σ'.set j (some (.int (i : Int)))) H') (hd : ∀ σ' H', Pv n σ' H' → D.nx σ' H') : tFor (iRng1 ta) (gName j) tw D σ H := by
  have h' : EvA ta σ H [.int (n : Int)] := fun H1 a Q q => h H1 a Q fun vs H2 e2 hd => by
    obtain ⟨x, rfl, hx⟩ := dpA_1 hd
    rw [dp_int hx]
    exact q H2 e2
  exact s_forR1 h' (by omega) Pv h0 (fun i σ' H' hi p => hs i σ' H' (by omega) p) (by rw [show ((n : Int)).toNat = n from Int.toNat_natCast n]; exact hd)
theorem q_forN {ta : TA} {j n : Nat} (h : EvDA K ta σ H [.int (n : Int)]) (hn : n ≤ 100000) (Pv : Nat → L2.St → Hp → Prop) (h0 : ∀ H1, Ex H H1 → Pv 0 σ H1)
    (hs : ∀ (i : Nat) σ' H', i < n → Pv i σ' H' → tw { D with nx := Pv (i + 1), ct := Pv (i + 1), bk := tz D } (σ'.set j (some (.int (i : Int)))) H') (hd : ∀ σ' H', Pv n σ' H' → tz D σ' H') : tSeq (tFor (iRng1 ta) (gName j) tw) tz D σ H :=
  s_forN (D := { D with nx := tz D }) h hn Pv h0 hs hd
theorem dpA_cat {xs ys : List V} {ds es : List PyData} (h : DpAll K H xs ds) (k : DpAll K H ys es) : DpAll K H (xs ++ ys) (ds ++ es) := by
  induction xs generalizing ds with
  | nil =>
    cases h
    exact k
  | cons x r ih =>
    cases h with
    | cons h1 h2 => exact .cons h1 (ih h2)
theorem dpA_rep {xs : List V} {ds : List PyData} (h : DpAll K H xs ds) : ∀ n, DpAll K H (List.replicate n xs).flatten (List.replicate n ds).flatten
  | 0 => .nil
  | n + 1 => by
    rw [List.replicate_succ, List.replicate_succ, List.flatten_cons, List.flatten_cons]
    exact dpA_cat h (dpA_rep h n)
theorem en_rep {ds : List PyData} {n : Nat} (ha : EvN K ta σ H ds) (hb : EvD K tb σ H (.int (n : Int))) (hn : n ≤ 1000) (hl : ds.length ≤ 10 := by simp) : EvN K (tOp rRep ta tb) σ H (List.replicate n ds).flatten := fun H1 a Q q =>
  ha H1 a _ fun l xs H2 hl2 e2 h2 hd => hb H2 (a.trans e2) _ fun y H3 e3 hy => by
    have hnn : ((n : Int)).toNat = n := Int.toNat_natCast n
    have l2 := dpAll_len hd
    have hm : xs.length * n ≤ 10 * 1000 := Nat.mul_le_mul (by omega) hn
    refine ⟨l, (n : Int), xs, rfl, dp_int hy, e3 _ _ h2, by omega, by omega, by rw [hnn, sizeLine_eq]; omega, fun p hp => ?_⟩
    rw [hnn]
    exact q p _ _ (fresh_back (e2.trans e3) hp) ((e2.trans e3).trans (Ex.new hp)) upd_same (dpA_rep (ex_dpA (e3.trans (Ex.new hp)) hd) n)
theorem flat_rep (d : PyData) : ∀ n, (List.replicate n [d]).flatten = List.replicate n d
  | 0 => rfl
  | n + 1 => by
    rw [List.replicate_succ, List.flatten_cons, flat_rep d n]
    rfl
theorem q_callAsg {sp : Sp} {i : Nat} {E : XK} {ds : List PyData} (h : EvDA K tl σ H ds) (k : ∀ vs H1, Ex H H1 → DpAll K H1 vs ds → sp vs H1 (fun v H2 => tz D (σ.set i (some v)) H2) E) : tSeq (tAsg (tCall sp [] E tl) (gName i)) tz D σ H :=
  h H (Ex.refl H) _ fun vs H1 e1 hd => by
    rw [List.append_nil]
    exact k vs H1 e1 hd
def optV : Option Int → V
  | .none => .non
  | .some x => .int x
theorem dp_opt {v : V} {o : Option Int} (h : Dp K H v (optD o)) : v = optV o := by
  cases o with
  | none => exact dp_none h
  | some x => exact dp_int h
theorem opt_dp (o : Option Int) : Dp K H (optV o) (optD o) := by
  cases o with
  | none => exact .non
  | some x => exact .int x
theorem opts_dpA : ∀ f : Fars, DpAll K H (f.map optV) (f.map optD)
  | [] => .nil
  | o :: r => .cons (opt_dp o) (opts_dpA r)
theorem dpA_opts : ∀ {xs : List V} {f : Fars}, DpAll K H xs (f.map optD) → xs = f.map optV
  | _, [], .nil => rfl
  | _, o :: r, .cons h a => by
    rw [dp_opt h, dpA_opts a]
    rfl
theorem bools_dpA : ∀ f : List Bool, DpAll K H (f.map V.bl) (f.map PyData.bool)
  | [] => .nil
  | o :: r => .cons (.bl o) (bools_dpA r)
theorem dpA_bools : ∀ {xs : List V} {f : List Bool}, DpAll K H xs (f.map PyData.bool) → xs = f.map V.bl
  | _, [], .nil => rfl
  | _, o :: r, .cons h a => by
    rw [dp_bool h, dpA_bools a]
    rfl
end

/-! ### the looks -/
def RLook (ds : List PyData) (d : PyData) : Prop := ∃ (W : Web) (p : Nat), p < W.1 ∧ ds = [webD W, .int (p : Int)] ∧ d = .none
def nLook : List Str := ["web", "place"]
theorem scLookF : FnScope nLook ["web", "place"] (defScope sLookF) := ⟨rfl, rfl, rfl, by decide +kernel, rfl, by decide +kernel, by decide +kernel⟩
theorem scLook : FnScope nLook ["web", "place"] (defScope sLook) := ⟨rfl, rfl, rfl, by decide +kernel, rfl, by decide +kernel, by decide +kernel⟩
section
variable {P : Program} {w : World} {K : PySem.W.Frag} {mg : Str → Option Value} {base : Heap}
theorem ok_lookF {f : Addr} {fd : FuncData} {k : Nat} (F : Fun K "look_at_far_place" "look_at_far_place" sLookF f fd) : FnOk P w K mg base CX0 (k + 1) f fd ["web", "place"] (spP K RLook) := by
  refine F.ok scLookF (spP_len fun ds d ⟨W, p, _, e, _⟩ => by rw [e]; rfl) (fun cdv A outer s H vs Q E hr h => ?_)
  obtain ⟨ds, d, hds, ⟨W, p, hp, rfl, rfl⟩, q⟩ := h
  obtain ⟨v1, v2, rfl, hv1, hv2⟩ := dpA_2 hds
  refine ⟨_, (pss_one (ps_if (pt_not (pt_chain op_le op_lt pe_int (pv 1) (pe_ix (r := rIxT K) ix_tup (pv 0) pe_int (fun _ _ => rfl)))) (pss_one ps_never) pss_nil)), ?_⟩
  refine s_when (et_not (dt_test (ed_chain ed_int (ed_var rfl hv2) (ed_ix0 (ed_var rfl hv1)) rd_bl rd_bl))) (fun h => ?_) fun _ H1 e1 => q _ H1 e1 .non
  have h1 : decide ((0 : Int) ≤ (p : Int)) = true := decide_eq_true (by omega)
  have h2 : decide ((p : Int) < (W.1 : Int)) = true := decide_eq_true (by omega)
  rw [h1, h2] at h
  cases h
theorem ok_look {f : Addr} {fd : FuncData} {k : Nat} (F : Fun K "look_at_place" "look_at_place" sLook f fd) : FnOk P w K mg base CX0 (k + 1) f fd ["web", "place"] (spP K RLook) := by
  refine F.ok scLook (spP_len fun ds d ⟨W, p, _, e, _⟩ => by rw [e]; rfl) (fun cdv A outer s H vs Q E hr h => ?_)
  obtain ⟨ds, d, hds, ⟨W, p, hp, rfl, rfl⟩, q⟩ := h
  obtain ⟨v1, v2, rfl, hv1, hv2⟩ := dpA_2 hds
  refine ⟨_, (pss_one (ps_if (pt_not (pt_chain op_le op_lt pe_int (pv 1) (pe_ix (r := rIxT K) ix_tup (pv 0) pe_int (fun _ _ => rfl)))) (pss_one ps_never) pss_nil)), ?_⟩
  refine s_when (et_not (dt_test (ed_chain ed_int (ed_var rfl hv2) (ed_ix0 (ed_var rfl hv1)) rd_bl rd_bl))) (fun h => ?_) fun _ H1 e1 => q _ H1 e1 .non
  have h1 : decide ((0 : Int) ≤ (p : Int)) = true := decide_eq_true (by omega)
  have h2 : decide ((p : Int) < (W.1 : Int)) = true := decide_eq_true (by omega)
  rw [h1, h2] at h
  cases h

/-! ### fars_from -/
noncomputable def rowF (W : Web) (p : Nat) : List PyData := (List.range W.1).map fun b => .int (far W p b)
def RFars (ds : List PyData) (es : List PyData) : Prop := ∃ (W : Web) (p : Nat), Good W ∧ p < W.1 ∧ ds = [webD W, .int (p : Int)] ∧ es = rowF W p
def nFars : List Str := ["web", "place", "near", "fars", "done", "turn", "here", "other", "length"]
theorem scFars : FnScope nFars ["web", "place"] (defScope sFars) := ⟨rfl, rfl, rfl, by decide +kernel, rfl, by decide +kernel, by decide +kernel⟩
theorem opts_set (f : Fars) (i : Nat) (v : Option Int) : (f.map optV).set i (optV v) = (f.set i v).map optV := by rw [List.map_set]
theorem bools_set (d : List Bool) (i : Nat) : (d.map V.bl).set i (.bl true) = (d.set i true).map V.bl := by rw [List.map_set]
theorem rep_opts (n : Nat) : List.replicate n PyData.none = (List.replicate n (Option.none : Option Int)).map optD := by rw [List.map_replicate]; rfl
theorem rep_bools (n : Nat) : List.replicate n (PyData.bool false) = (List.replicate n false).map PyData.bool := by rw [List.map_replicate]
theorem ok_fars {f : Addr} {fd : FuncData} (F : Fun K "fars_from" "fars_from" sFars f fd) (T : Bt mg) (C1 : Cal P w K mg base "look_at_far_place" ["web", "place"] 1 (spP K RLook)) (C2 : Cal P w K mg base "near_lists" ["web"] 1 (spP K RNear)) (C3 : Cal P w K mg base "nearest_open" ["fars", "done"] 1 (spOpen K)) : FnOk P w K mg base CX0 2 f fd ["web", "place"] (spN K RFars) := by
  obtain ⟨f1, fd1, G1, g1, kp1, b1⟩ := C1.ex
  obtain ⟨f2, fd2, G2, g2, kp2, b2⟩ := C2.ex
  obtain ⟨f3, fd3, G3, g3, kp3, b3⟩ := C3.ex
  refine F.ok scFars (spN_len fun ds d ⟨W, p, _, _, e, _⟩ => by rw [e]; rfl) (fun cdv A outer s H vs Q E hr h => ?_)
  obtain ⟨ds, es, hds, ⟨W, p, G, hp, rfl, rfl⟩, q⟩ := h
  obtain ⟨v1, v2, rfl, hv1, hv2⟩ := dpA_2 hds
  have nd := scFars.nd
  refine ⟨_, (pss_cons (ps_expr (pe_call G1 (hr.mono (by decide)) (by rfl) g1 kp1 b1 .nil pass0 (pa_cons (pv 0) (pa_cons (pv 1) pa_nil))))
      (pss_cons (ps_set (i := 2) nd rfl (Or.inl rfl) (pe_call G2 (hr.mono (by decide)) (by rfl) g2 kp2 b2 .nil pass0 (pa_cons (pv 0) pa_nil)))
      (pss_cons (ps_set (i := 3) nd rfl (Or.inl rfl) (pe_op op_rep (pe_lst (pa_cons pe_non pa_nil)) (pe_ix (r := rIxT K) ix_tup (pv 0) pe_int (fun _ _ => rfl))))
      (pss_cons (ps_set (i := 4) nd rfl (Or.inl rfl) (pe_op op_rep (pe_lst (pa_cons pe_bl pa_nil)) (pe_ix (r := rIxT K) ix_tup (pv 0) pe_int (fun _ _ => rfl))))
      (pss_cons (ps_asg pe_int (pg_sub (pv 3) (pv 1) set_list))
      (pss_cons (ps_for PassesOwn.never rfl (pi_range1 rfl T.range (pa_cons (pe_ix (r := rIxT K) ix_tup (pv 0) pe_int (fun _ _ => rfl)) pa_nil)) (pg_name (i := 5) nd rfl (Or.inl rfl))
      (pss_cons (ps_set (i := 6) nd rfl (Or.inl rfl) (pe_call G3 (hr.mono (by decide)) (by rfl) g3 kp3 b3 .nil pass0 (pa_cons (pv 3) (pa_cons (pv 4) pa_nil))))
      (pss_cons (ps_asg pe_bl (pg_sub (pv 4) (pv 6) set_list))
      (pss_one (ps_for PassesOwn.never rfl (pi_list (pe_ix (r := rIxL K) ix_list (pv 2) (pv 6) (fun _ _ => rfl))) (pg_tup rfl (pgs_cons (pg_name (i := 7) nd rfl (Or.inl rfl)) (pgs_cons (pg_name (i := 8) nd rfl (Or.inl rfl)) pgs_nil)))
      (pss_one (ps_if (PW.pt (pw_or (pt_cmpR op_isN (pe_ix (r := rIxL K) ix_list (pv 3) (pv 7) (fun _ _ => rfl)) pe_non (nomark _)) (pw_or1 (pt_cmpR op_lt (pe_op op_add (pe_ix (r := rIxL K) ix_list (pv 3) (pv 6) (fun _ _ => rfl)) (pv 8)) (pe_ix (r := rIxL K) ix_list (pv 3) (pv 7) (fun _ _ => rfl)) (nomark _))))) (pss_one (ps_asg (pe_op op_add (pe_ix (r := rIxL K) ix_list (pv 3) (pv 6) (fun _ _ => rfl)) (pv 8)) (pg_sub (pv 3) (pv 7) set_list))) pss_nil)))))))
      (pss_one (ps_ret (pv 3))))))))), ?_⟩
  -- look_at_far_place(web, place); near = near_lists(web)
  refine qd_drop (ed_call (eda_cons (ed_var rfl hv1) (eda_cons (ed_var rfl hv2) eda_nil)) ⟨W, p, hp, rfl, rfl⟩) fun H1 e1 => ?_
  refine qd_asg (ed_call (eda_cons (ed_var rfl (ex_dp e1 hv1)) eda_nil) ⟨W, G, rfl, rfl⟩) fun vN H2 e2 hvN => ?_
  have hv1' := ex_dp (e1.trans e2) hv1
  -- fars, done
  refine qd_asgN (en_rep (n := W.1) (en_lst (eda_cons ed_non eda_nil)) (ed_ix0 (ed_var rfl hv1')) (by have := G.small; omega)) fun a xa H3 ha e3 h3 hda => ?_
  rw [flat_rep, rep_opts] at hda
  have hxa := dpA_opts hda
  subst hxa
  refine qd_asgN (en_rep (n := W.1) (en_lst (eda_cons ed_bl eda_nil)) (ed_ix0 (ed_var rfl (ex_dp e3 hv1'))) (by have := G.small; omega)) fun b xb H4 hb e4 h4 hdb => ?_
  rw [flat_rep, rep_bools] at hdb
  have hxb := dpA_bools hdb
  subst hxb
  have hab : a ≠ b := fun z => by
    rw [← z, h3] at hb
    cases hb
  -- fars[place] = 0
  refine qd_set (j := p) (e4 _ _ h3) ed_int (ev_var rfl) (ed_var rfl (ex_dp ((e1.trans e2).trans (e3.trans e4)) hv2)) (by rw [List.length_map, List.length_replicate]; exact hp) fun u H5 e5 hu => ?_
  rw [dp_int hu]
  obtain ⟨ln, rowsV, rfl, hs, hrows⟩ := dp_lst hvN
  have hb5 : H5 b = some (.lst ((List.replicate W.1 false).map V.bl)) := e5 _ _ h4
  have eB5 : Ex H2 H5 := (e3.trans e4).trans e5
  have hW := G.small
  refine q_forN (n := W.1) (eda_cons (ed_ix0 (ed_var rfl (ex_dp (eB5.mut ha) hv1'))) eda_nil) (by omega)
    (fun i σ' H' => ∃ y5 y6 y7 y8 fr dn, σ' = [some v1, some v2, some (.ref ln), some (.ref a), some (.ref b), y5, y6, y7, y8] ∧ Ex H2 H' ∧ H' a = some (.lst (fr.map optV)) ∧ H' b = some (.lst (dn.map V.bl)) ∧ Dij W p fr dn ∧ doneN dn = i)
    (fun H6 e6 => ⟨_, _, _, _, (List.replicate W.1 none).set p (some 0), List.replicate W.1 false, rfl, (eB5.mut ha).trans e6, e6 _ _ (by rw [upd_same]; exact congrArg (fun l => some (HO.lst l)) (opts_set _ p (some 0))), e6 _ _ (by rw [upd_ne hab.symm]; exact hb5), dij_start G hp, doneN_zero _⟩) ?_ ?_
  · rintro i σ' H' hi ⟨y5, y6, y7, y8, fr, dn, rfl, eB, hfa, hdb, J, hdn⟩
    -- here = nearest_open(fars, done)
    obtain ⟨j0, x0, _, q0, q1⟩ := dij_some G hp J (by omega)
    have args : EvDA K (tCons (tVar 3) (tCons (tVar 4) tNil)) [some v1, some v2, some (.ref ln), some (.ref a), some (.ref b), some (.int (i : Int)), y6, y7, y8] H' [.list (fr.map optD), .list (dn.map PyData.bool)] :=
      eda_cons (ed_ref rfl hfa (opts_dpA fr)) (eda_cons (ed_ref rfl hdb (bools_dpA dn)) eda_nil)
    refine q_callAsg args fun vs H6 e6 hd => ⟨fr, dn, hd, by rw [J.lf, J.ld], by rw [J.lf]; omega, ⟨j0, x0, q0, q1⟩, fun here H7 hnear e7 => ?_⟩
    obtain ⟨n1, n2, x, n3, n4⟩ := id hnear
    have hlt : here < W.1 := by rw [← J.lf]; exact n1
    -- done[here] = True
    refine qd_set (K := K) (j := here) (e7 _ _ (e6 _ _ hdb)) ed_bl (ev_var rfl) (ed_var rfl (.int _)) (by rw [List.length_map, J.ld]; exact hlt) fun u H8 e8 hu => ?_
    rw [dp_bool hu, bools_set]
    have e68 : Ex H' H8 := (e6.trans e7).trans e8
    have hb0 : H2 b = none := fresh_back e3 hb
    -- for other, length in near[here]
    obtain ⟨vr, hvr, hr'⟩ := dpA_get hrows (i := here) (d := .list ((nearOf W.2 here).map nbD)) (by rw [List.getElem?_map, List.getElem?_range hlt]; rfl)
    obtain ⟨lr, xr, rfl, hsr, hxr⟩ := dp_lst hr'
    have nbs : ∀ q ∈ nearOf W.2 here, q.1 < fr.length ∧ q.1 ≠ here := fun q hq => by
      have e : Edge W here q.1 q.2 := mem_nearOf.mp hq
      obtain ⟨w1, _, w2, _⟩ := G.edge e
      exact ⟨by rw [J.lf]; exact w2, fun z => w1 z.symm⟩
    refine s_forD (B := H2) (nearOf W.2 here) nbD hsr hxr (ev_op (ev_var rfl) (ev_var rfl) (rv_ixL (ex_l ((eB.trans e68).mut hb0) hs) (atI_nat hvr)))
      (fun j σ' H' => ∃ y7 y8, σ' = [some v1, some v2, some (.ref ln), some (.ref a), some (.ref b), some (.int (i : Int)), some (.int (here : Int)), y7, y8] ∧ Ex H2 H' ∧ H' a = some (.lst ((((nearOf W.2 here).take j).foldl (relax x) fr).map optV)) ∧ H' b = some (.lst ((dn.set here true).map V.bl)))
      (fun _ _ _ ⟨_, _, _, e, _⟩ => e) (fun H9 e9 => ⟨y7, y8, rfl, ((eB.trans e68).mut hb0).trans e9, e9 _ _ (by rw [upd_ne hab]; exact e68 _ _ hfa), e9 _ _ upd_same⟩) ?_ ?_
    · rintro j qq σ' H9 v hj ⟨z7, z8, rfl, eB9, hfa9, hdb9⟩ hv
      obtain ⟨o, l⟩ := qq
      refine eg_2 hv rfl _ ?_
      have hm : (o, l) ∈ nearOf W.2 here := List.mem_of_getElem? hj
      have htk : ∀ q ∈ (nearOf W.2 here).take j, q.1 < fr.length ∧ q.1 ≠ here := fun q hq => nbs q (List.mem_of_mem_take hq)
      have hsx : nth (((nearOf W.2 here).take j).foldl (relax x) fr) here = some x := by rw [relaxes_same htk]; exact n3
      have hFl : (((nearOf W.2 here).take j).foldl (relax x) fr).length = W.1 := by rw [relaxes_len, J.lf]
      have hnx : ((nearOf W.2 here).take (j + 1)).foldl (relax x) fr = relax x (((nearOf W.2 here).take j).foldl (relax x) fr) (o, l) := by
        rw [List.take_add_one, hj, Option.toList_some, List.foldl_append]
        rfl
      generalize ((nearOf W.2 here).take j).foldl (relax x) fr = FF at hfa9 hsx hFl hnx
      have ho : o < W.1 := by rw [← J.lf]; exact (nbs _ hm).1
      have r3 : EvD K (tVar 3) [some v1, some v2, some (.ref ln), some (.ref a), some (.ref b), some (.int (i : Int)), some (.int (here : Int)), some (.int (o : Int)), some (.int l)] H9 (.list (FF.map optD)) := ed_ref rfl hfa9 (opts_dpA FF)
      have r7 := ed_ixL r3 (ed_var (i := 7) rfl (.int (o : Int))) (atI_nat (nth_opt (by rw [hFl]; exact ho)))
      have r6 := ed_ixL r3 (ed_var (i := 6) rfl (.int (here : Int))) (atI_nat (nth_opt (by rw [hFl]; exact hlt)))
      rw [hsx] at r6
      have rs := ed_op r6 (ed_var (i := 8) rfl (.int l)) (rd_int (g := fun i j => i + j))
      refine s_when (b := better (nth FF o) (x + l)) (et_is (et_or (b := match nth FF o with | none => false | some y => decide (x + l < y)) (dt_test (ed_op r7 ed_non rd_isN)) fun hq => ?_) ?_) (fun hb' H10 e10 => ?_) fun hb' H10 e10 => ?_
      · cases e : nth FF o with
        | none =>
          rw [e] at hq
          cases hq
        | some y =>
          rw [e] at r7
          exact dt_test (ed_op rs r7 (rd_bl (g := fun i j => decide (i < j))))
      · cases e : nth FF o with
        | none => rfl
        | some y => rfl
      · refine sd_set (j := o) (e10 _ _ hfa9) (rs.mono e10) (ev_var rfl) (ed_var rfl (.int _)) (by rw [List.length_map, hFl]; exact ho) fun u H11 e11 hu => ?_
        rw [dp_int hu]
        refine ⟨_, _, rfl, ((eB9.trans e10).trans e11).mut ha, ?_, by rw [upd_ne hab.symm]; exact e11 _ _ (e10 _ _ hdb9)⟩
        rw [upd_same, hnx]
        show some (HO.lst ((FF.map optV).set o (optV (some (x + l))))) = _
        rw [opts_set]
        unfold relax
        rw [if_pos hb']
      · refine ⟨_, _, rfl, eB9.trans e10, ?_, e10 _ _ hdb9⟩
        rw [hnx]
        unfold relax
        rw [if_neg (by rw [hb']; exact Bool.false_ne_true)]
        exact e10 _ _ hfa9
    · rintro σ' H9 ⟨z7, z8, rfl, eB9, hfa9, hdb9⟩
      rw [List.take_length] at hfa9
      exact ⟨_, _, _, _, _, _, rfl, eB9, hfa9, hdb9, dij_turn G hp J hnear n3 (fun q => mem_nearOf), by rw [doneN_set (by rw [J.ld]; exact hlt) n2, hdn]⟩
  · rintro σ' H' ⟨y5, y6, y7, y8, fr, dn, rfl, eB, hfa, hdb, J, hdn⟩
    have he := dij_end G hp J hdn
    refine ev_var (v := .ref a) rfl H' (Ex.refl H') _ fun H6 e6 => ?_
    refine q a (fr.map optV) H6 (fresh_back (e1.trans e2) ha) (((e1.trans e2).trans eB).trans e6) (e6 _ _ hfa) ?_
    have := opts_dpA (K := K) (H := H6) fr
    have e2 : rowF W p = fr.map optD := by
      rw [he, List.map_map]
      rfl
    rw [e2]
    exact this
end
end Lt

set_option maxRecDepth 100000
set_option maxHeartbeats 4000000
/-! neighbours_of, length_between, tie_length, table_of, ties_about. -/
namespace Lt
open PySem PySem.Spec L2 Evl

section
variable {K : PySem.W.Frag} {σ : L2.St} {H H' : Hp} {ta tb te tc ts : TE} {tl : TA} {t u : TT} {D : Ends} {tz tw : TS}
/-- a new list of which P is true -/
def EvS (K : PySem.W.Frag) (te : TE) (σ : L2.St) (H : Hp) (P : List PyData → Prop) : Prop := ∀ H1, Ex H H1 → ∀ Q : VK, (∀ p xs ds H2, P ds → H1 p = none → Ex H1 H2 → H2 p = some (.lst xs) → DpAll K H2 xs ds → Q (.ref p) H2) → te σ H1 Q
def lcGo (g : TG) (t : TT) (te : TE) (vs : List Nat) (σ : L2.St) (Q : VK) (J : It) (H1 : Hp) : Prop := tLc (fun _ H0 R => R J H0) g t te vs σ H1 Q
theorem lc_go {wi : TI} {g : TG} {vs : List Nat} {Q : VK} (h : wi σ H (lcGo g t te vs σ Q)) : tLc wi g t te vs σ H Q := h
theorem lcL_go {α : Type} {j : Nat} {vs : List Nat} (as : List α) (en : α → PyData) (f : α → Bool) (g : α → PyData) {l : Addr} {xs : List V} {Q : VK} (hs : SqL K H l xs) (hx : DpAll K H xs (as.map en)) (hn : as.length ≤ 40000) (hw : ∀ x, wipe ((wipe σ vs).set j (some x)) vs = wipe σ vs)
    (ht : ∀ a ∈ as, ∀ x, Dp K H x (en a) → EvT t ((wipe σ vs).set j (some x)) H (f a)) (he : ∀ a ∈ as, f a = true → ∀ x, Dp K H x (en a) → EvD K te ((wipe σ vs).set j (some x)) H (g a)) (hz : ∀ a ∈ as, noL (g a) = true)
    (q : ∀ p xs H2, H p = none → Ex H H2 → H2 p = some (.lst xs) → DpAll K H2 xs ((as.filter f).map g) → Q (.ref p) H2) : lcGo (gName j) t te vs σ Q (Itl K l) H := by
  intro L hL
  have hlx : xs.length = as.length := by rw [dpAll_len hx, List.length_map]
  refine lc_list (xs := xs) (fun i H' => Lcw K H L (((as.take i).filter f).map g) H') (lcw_start hL) (fun i H' _ p => ex_l p.2.1 hs) (fun i x H' hi p => ?_) fun H' p => lcw_end (Ex.refl H) (by rw [hlx, List.take_length] at p; exact p) q
  obtain ⟨d, hd', hxd⟩ := dpAll_at hx hi
  rw [List.getElem?_map, Option.map_eq_some_iff] at hd'
  obtain ⟨b, hb, rfl⟩ := hd'
  have hm : b ∈ as := List.mem_of_getElem? hb
  refine ⟨hw x, ?_⟩
  have hlen : (((as.take i).filter f).map g).length < 50000 := by
    have h1 := List.length_filter_le f (as.take i)
    rw [List.length_take] at h1
    rw [List.length_map]
    omega
  have hno : noLA (((as.take i).filter f).map g) = true := noLA_all fun d hd => by
    obtain ⟨k, hk, rfl⟩ := List.mem_map.mp hd
    exact hz k (List.mem_of_mem_take (List.mem_filter.mp hk).1)
  refine lcw_turn p hlen hno (ht b hm x hxd) (fun hf => he b hm hf x hxd) (hz b hm) ?_
  rw [List.take_add_one, hb, Option.toList_some, List.filter_append, List.map_append, List.filter_cons]
  split
  · rfl
  · exact List.append_nil _
theorem il_call {sp : Sp} {E : XK} {R : It → Hp → Prop} {ds : List PyData} (h : EvDA K tl σ H ds) (k : ∀ vs H1, Ex H H1 → DpAll K H1 vs ds → sp vs H1 (fun x H2 => ∃ a, x = .ref a ∧ (∃ xs, SqL K H2 a xs) ∧ R (Itl K a) H2) E) : iList K (tCall sp [] E tl) σ H R :=
  h H (Ex.refl H) _ fun vs H1 e1 hd => by
    rw [List.append_nil]
    exact k vs H1 e1 hd
theorem sd_retT (h : te σ H D.rt) : tRet te D σ H := h
theorem sd_appS {l : Addr} {xs : List V} {P : List PyData → Prop} (hl : H l = some (.lst xs)) (ha : Ev ta σ H (.ref l)) (h : EvS K te σ H P) (hz : xs.length < 100000) (k : ∀ p ys ds H1, P ds → H p = none → Ex H H1 → H1 p = some (.lst ys) → DpAll K H1 ys ds → D.nx σ (upd H1 l (.lst (xs ++ [.ref p])))) :
    tDrop (tBM K "list" rAppend ta (tCons te tNil)) D σ H := ha H (Ex.refl H) _ fun H1 e1 =>
  ⟨Or.inl ⟨rfl, xs, sq_of (e1 l _ hl)⟩, h H1 e1 _ fun p ys ds H2 hP hp e2 h2 hd => ⟨l, xs, .ref p, rfl, rfl, e2 l _ (e1 l _ hl), sz_lt hz, k p ys ds H2 hP (fresh_back e1 hp) (e1.trans e2) h2 hd⟩⟩
theorem qd_ext {l : Addr} {xs : List V} {ds : List PyData} (hl : H l = some (.lst xs)) (ha : Ev ta σ H (.ref l)) (h : EvN K te σ H ds) (hz : xs.length + ds.length ≤ 100000) (k : ∀ ys H1, Ex H H1 → DpAll K H1 ys ds → tz D σ (upd H1 l (.lst (xs ++ ys)))) :
    tSeq (tDrop (tBM K "list" rExtend ta (tCons te tNil))) tz D σ H := ha H (Ex.refl H) _ fun H1 e1 =>
  ⟨Or.inl ⟨rfl, xs, sq_of (e1 l _ hl)⟩, h H1 e1 _ fun p ys H2 hp e2 h2 hd => ⟨l, p, xs, ys, rfl, rfl, e2 l _ (e1 l _ hl), h2, by rw [dpAll_len hd]; exact sz_of hz, k ys H2 (e1.trans e2) hd⟩⟩
end

/-! ### neighbours_of -/
def natV (c : Nat) : V := .int (c : Int)
def natD (c : Nat) : PyData := .int (c : Int)
def spNbs (K : PySem.W.Frag) : Sp := fun vs H Q _ => ∃ (W : Web) (p : Nat), Good W ∧ p < W.1 ∧ DpAll K H vs [webD W, .int (p : Int)] ∧
  ∀ (a : Addr) H' (cs : List Nat), cs.Perm ((adj W p).map (·.1)) → H a = none → Ex H H' → H' a = some (.lst (cs.map natV)) → Q (.ref a) H'
def nNbs : List Str := ["web", "place", "found", "one", "other", "length"]
theorem scNbs : FnScope nNbs ["web", "place"] (defScope sNbs) := ⟨rfl, rfl, rfl, by decide +kernel, rfl, by decide +kernel, by decide +kernel⟩
theorem perm_nats {ns : List Int} {cs : List Nat} (h : ns.Perm (cs.map fun (c : Nat) => (c : Int))) : ∃ ds : List Nat, ns = ds.map (fun (c : Nat) => (c : Int)) ∧ ds.Perm cs := by
  refine ⟨ns.map Int.toNat, ?_, ?_⟩
  · rw [List.map_map]
    have : ∀ n ∈ ns, ((fun c : Nat => (c : Int)) ∘ Int.toNat) n = n := fun n hn => by
      obtain ⟨c, _, rfl⟩ := List.mem_map.mp (h.mem_iff.mp hn)
      simp
    conv => lhs; rw [← List.map_id ns]
    exact List.map_congr_left fun n hn => (this n hn).symm
  · have := h.map Int.toNat
    rw [List.map_map] at this
    have e : (cs.map (Int.toNat ∘ fun c : Nat => (c : Int))) = cs := by
      conv => rhs; rw [← List.map_id cs]
      exact List.map_congr_left fun c _ => by simp
    rwa [e] at this
section
variable {P : Program} {w : World} {K : PySem.W.Frag} {mg : Str → Option Value} {base : Heap}
theorem ok_nbs {f : Addr} {fd : FuncData} (F : Fun K "neighbours_of" "neighbours_of" sNbs f fd) (T : Bt mg) (C1 : Cal P w K mg base "look_at_place" ["web", "place"] 1 (spP K RLook)) : FnOk P w K mg base CX0 2 f fd ["web", "place"] (spNbs K) := by
  obtain ⟨f1, fd1, G1, g1, kp1, b1⟩ := C1.ex
  refine F.ok scNbs (fun vs H Q E ⟨W, p, _, _, h, _⟩ => dpAll_len h) (fun cdv A outer s H vs Q E hr h => ?_)
  obtain ⟨W, p, G, hp, hds, q⟩ := h
  obtain ⟨v1, v2, rfl, hv1, hv2⟩ := dpA_2 hds
  have nd := scNbs.nd
  refine ⟨_, (pss_cons (ps_expr (pe_call G1 (hr.mono (by decide)) (by rfl) g1 kp1 b1 .nil pass0 (pa_cons (pv 0) (pa_cons (pv 1) pa_nil))))
      (pss_cons (ps_setLc (i := 2) (own := [("one", 3), ("other", 4), ("length", 5)]) (g := gTup K 3 (gCons (gName 3) (gCons (gName 4) (gCons (gName 5) gNil)))) (tt := _) rfl nd rfl rfl (sw_true rfl rfl rfl (by decide +kernel)) (pi_tup (pe_ix (r := rIxT K) ix_tup (pv 0) pe_int (fun _ _ => rfl))) (blkOk_by (own := [("one", 3), ("other", 4), ("length", 5)]) (N := nNbs) (sc := defScope sNbs) (by decide +kernel)) (fun _ _ _ _ _ => (pg_tup rfl (pgs_cons (pg_name (i := 3) nd rfl (Or.inl rfl)) (pgs_cons (pg_name (i := 4) nd rfl (Or.inl rfl)) (pgs_cons (pg_name (i := 5) nd rfl (Or.inl rfl)) pgs_nil))))) (fun _ _ _ _ _ => (pts_one (pt_cmpR op_eq (pv 3) (pv 1) (nomark _)))) (fun _ _ _ _ _ => (pv 4)))
      (pss_cons (ps_expr (pe_bm PySem.F.plainAttrs_list PySem.F.slot_list_extend PySem.F.type_list_extend mt_extend (pv 2) (pa_cons (pe_lc (own := [("one", 3), ("other", 4), ("length", 5)]) (g := gTup K 3 (gCons (gName 3) (gCons (gName 4) (gCons (gName 5) gNil)))) (tt := _) rfl nd (pi_tup (pe_ix (r := rIxT K) ix_tup (pv 0) pe_int (fun _ _ => rfl))) (blkOk_by (own := [("one", 3), ("other", 4), ("length", 5)]) (N := nNbs) (sc := defScope sNbs) (by decide +kernel)) (fun _ _ _ _ _ => (pg_tup rfl (pgs_cons (pg_name (i := 3) nd rfl (Or.inl rfl)) (pgs_cons (pg_name (i := 4) nd rfl (Or.inl rfl)) (pgs_cons (pg_name (i := 5) nd rfl (Or.inl rfl)) pgs_nil))))) (fun _ _ _ _ _ => (pts_one (pt_cmpR op_eq (pv 4) (pv 1) (nomark _)))) (fun _ _ _ _ _ => (pv 3))) pa_nil)))
      (pss_one (ps_ret (pe_callB cr_sortedI (by rfl) T.sorted (by decide +kernel) (pa_cons (pv 2) pa_nil))))))), ?_⟩
  refine qd_drop (ed_call (eda_cons (ed_var rfl hv1) (eda_cons (ed_var rfl hv2) eda_nil)) ⟨W, p, hp, rfl, rfl⟩) fun H1 e1 => ?_
  have small := G.few
  have tie : ∀ {H2 : Hp} {v : V}, Dp K H2 v (webD W) → ∀ {σ : L2.St}, σ[0]? = some (some v) → EvD K (tOp (rIxT K) (tVar 0) (tC (.int 1))) σ H2 (.tuple (W.2.map tieD)) := fun hv σ h => ed_ixT (ed_var h hv) ed_int rfl
  refine qd_asgN (en_lcT W.2 tieD (fun t => decide (t.1 = p)) (fun t => .int (t.2.1 : Int)) (fun t => [some v1, some v2, none, some (.int (t.1 : Int)), some (.int (t.2.1 : Int)), some (.int t.2.2)]) (tie (ex_dp e1 hv1) rfl) (by omega)
    (fun t _ x H2 _ hx => eg_3 hx) (fun _ _ => rfl) (fun t _ => et_is (dt_test (ed_op (ed_var rfl (.int _)) (ed_var rfl (ex_dp e1 hv2)) rd_eqI)) (by simp only [Int.natCast_inj])) (fun t _ _ => ed_var rfl (.int _)) (fun _ _ => rfl)) fun a xa H2 ha e2 h2 hda => ?_
  refine qd_ext h2 (ev_var rfl) (en_lcT W.2 tieD (fun t => decide (t.2.1 = p)) (fun t => .int (t.1 : Int)) (fun t => [some v1, some v2, some (.ref a), some (.int (t.1 : Int)), some (.int (t.2.1 : Int)), some (.int t.2.2)]) (tie (ex_dp (e1.trans e2) hv1) rfl) (by omega)
    (fun t _ x H2 _ hx => eg_3 hx) (fun _ _ => rfl) (fun t _ => et_is (dt_test (ed_op (ed_var rfl (.int _)) (ed_var rfl (ex_dp (e1.trans e2) hv2)) rd_eqI)) (by simp only [Int.natCast_inj])) (fun t _ _ => ed_var rfl (.int _)) (fun _ _ => rfl)) ?_ fun ys H3 e3 hys => ?_
  · have l1 := dpAll_len hda
    have l2 := List.length_filter_le (fun t : Tie => decide (t.1 = p)) W.2
    have l3 := List.length_filter_le (fun t : Tie => decide (t.2.1 = p)) W.2
    rw [List.length_map] at l1 ⊢
    omega
  · have e5 : xa ++ ys = ((adj W p).map fun q => ((q.1 : Nat) : Int)).map V.int := by
      have h1 : DpAll K H3 (xa ++ ys) (((adj W p).map fun q => ((q.1 : Nat) : Int)).map PyData.int) := by
        have := dpA_cat (ex_dpA e3 hda) hys
        unfold adj adjL adjR
        rw [List.map_append, List.map_append, List.map_map, List.map_map, List.map_map, List.map_map]
        exact this
      exact ints_dpA h1
    rw [e5]
    refine ev_var (v := .ref a) rfl _ (Ex.refl _) _ fun H4 e4 => ?_
    refine ⟨a, (adj W p).map (fun q => ((q.1 : Nat) : Int)), rfl, sq_of (e4 _ _ upd_same), fun ns p' hpm hsrt hp' => ?_⟩
    have hpm' : ns.Perm (((adj W p).map (·.1)).map fun (c : Nat) => (c : Int)) := by
      rw [List.map_map]
      exact hpm
    obtain ⟨cs, rfl, hcs⟩ := perm_nats hpm'
    have eH : Ex H H4 := ((e1.trans (e2.trans e3)).mut (fresh_back e1 ha)).trans e4
    refine q p' _ cs hcs (fresh_back eH hp') (eH.trans (Ex.new hp')) ?_
    rw [upd_same, List.map_map]
    rfl

/-! ### length_between, tie_length -/
def RLenB (ds : List PyData) (d : PyData) : Prop := ∃ (W : Web) (a b : Nat) (l : Int), Good W ∧ Edge W a b l ∧ ds = [webD W, .int (a : Int), .int (b : Int)] ∧ d = .int l
def nLenB : List Str := ["web", "one", "other", "low", "high", "length"]
theorem scLenB : FnScope nLenB ["web", "one", "other"] (defScope sLenB) := ⟨rfl, rfl, rfl, by decide +kernel, rfl, by decide +kernel, by decide +kernel⟩
theorem room65 {k : Nat} {A : Around} (r : Room k A) : A.units + 65 < cLine := by
  have := r.un
  omega
theorem pr_eqv (a b c d : Int) : PyData.eqv (prD (a, b)) (prD (c, d)) = (decide (a = c) && decide (b = d)) := by
  simp [prD, PyData.eqv, PyData.eqvAll]
  by_cases h1 : a = c <;> by_cases h2 : b = d <;> simp [h1, h2]
theorem ok_lenB {f : Addr} {fd : FuncData} {k : Nat} (F : Fun K "length_between" "length_between" sLenB f fd) : FnOk P w K mg base CX0 (k + 1) f fd ["web", "one", "other"] (spP K RLenB) := by
  refine F.ok scLenB (spP_len fun ds d ⟨W, a, b, l, _, _, e, _⟩ => by rw [e]; rfl) (fun cdv A outer s H vs Q E hr h => ?_)
  obtain ⟨ds, d, hds, ⟨W, a, b, l, G, he, rfl, rfl⟩, q⟩ := h
  obtain ⟨v1, v2, v3, rfl, hv1, hv2, hv3⟩ := dpA_3 hds
  obtain ⟨w0, at0, xs, Wa⟩ := web_at hv1
  rw [dp_int hv2, dp_int hv3]
  have nd := scLenB.nd
  have hu := room65 hr
  refine ⟨_, (pss_cons (ps_for PassesOwn.never rfl (pi_tup (pe_ix (r := rIxT K) ix_tup (pv 0) pe_int (fun _ _ => rfl))) (pg_tup rfl (pgs_cons (pg_name (i := 3) nd rfl (Or.inl rfl)) (pgs_cons (pg_name (i := 4) nd rfl (Or.inl rfl)) (pgs_cons (pg_name (i := 5) nd rfl (Or.inl rfl)) pgs_nil))))
      (pss_one (ps_if (pt_cmpR (op_inTD hu) (pe_tup (pa_cons (pv 3) (pa_cons (pv 4) pa_nil))) (pe_tup (pa_cons (pe_tup (pa_cons (pv 1) (pa_cons (pv 2) pa_nil))) (pa_cons (pe_tup (pa_cons (pv 2) (pa_cons (pv 1) pa_nil))) pa_nil))) (by rfl)) (pss_one (ps_ret (pv 5))) pss_nil)))
      (pss_one (ps_ret pe_non))), ?_⟩
  refine q_forT3 (ts := W.2) Wa.ties Wa.each (ev_ix1 rfl Wa) (fun i σ' H' => (∃ y3 y4 y5, σ' = [some v1, some (.int (a : Int)), some (.int (b : Int)), y3, y4, y5]) ∧ Ex H H' ∧ ∀ (j : Nat) t, j < i → W.2[j]? = some t → ¬ ((t.1 = a ∧ t.2.1 = b) ∨ (t.1 = b ∧ t.2.1 = a)))
    (fun _ _ _ p => p.2.1) (fun H1 e1 => ⟨⟨_, _, _, rfl⟩, e1, fun j t hj => by omega⟩) ?_ ?_
  · rintro i t σ' H' hi ⟨⟨y3, y4, y5, rfl⟩, e1, no⟩
    have hm : t ∈ W.2 := List.mem_of_getElem? hi
    have two : ∀ {x y : Nat} {ta tb : TE} {σ : L2.St} {H2 : Hp}, EvD K ta σ H2 (.int (x : Int)) → EvD K tb σ H2 (.int (y : Int)) → EvD K (tTup (tCons ta (tCons tb tNil))) σ H2 (prD ((x : Int), (y : Int))) := fun h1 h2 => ed_tup (eda_cons h1 (eda_cons h2 eda_nil))
    refine s_when (b := decide ((t.1 = a ∧ t.2.1 = b) ∨ (t.1 = b ∧ t.2.1 = a))) (dt_test (K := K) ?_) (fun hb H2 e2 => ?_) fun hb H2 e2 => ⟨⟨_, _, _, rfl⟩, e1.trans e2, fun j u hj hu => ?_⟩
    · refine ed_op (two (ed_var rfl (.int _)) (ed_var rfl (.int _))) (ed_tup (eda_cons (two (ed_var rfl (.int _)) (ed_var rfl (.int _))) (eda_cons (two (ed_var rfl (.int _)) (ed_var rfl (.int _))) eda_nil))) fun H2 e2 x y hx hy Q' q' => ?_
      refine ⟨_, _, hx, hy, by simp [SeqAt.shaped, prD, PyData.canLay0, PyData.canLayAll0, PyData.depth, PyData.depthAll], by simp [SeqAt.shaped, prD, PyData.canLay0, PyData.canLayAll0, PyData.depth, PyData.depthAll], q' _ H2 (Ex.refl H2) ?_⟩
      have ev : ([prD ((a : Int), (b : Int)), prD ((b : Int), (a : Int))].any fun z => PyData.eqv z (prD ((t.1 : Int), (t.2.1 : Int)))) = decide ((t.1 = a ∧ t.2.1 = b) ∨ (t.1 = b ∧ t.2.1 = a)) := by
        rw [List.any_cons, List.any_cons, List.any_nil, pr_eqv, pr_eqv, Bool.or_false, ← Bool.decide_and, ← Bool.decide_and, ← Bool.decide_or]
        congr 1
        apply propext
        constructor <;> intro h <;> omega
      rw [ev]
      exact .bl _
    · have hb := of_decide_eq_true hb
      have el : t.2.2 = l := by
        rcases hb with ⟨h1, h2⟩ | ⟨h1, h2⟩
        · refine G.edge_one (a := a) (b := b) (.inl ?_) he
          rw [← h1, ← h2]
          exact hm
        · refine G.edge_one (a := a) (b := b) (.inr ?_) he
          rw [← h1, ← h2]
          exact hm
      refine sd_ret (K := K) (ed_var rfl (.int _)) fun v H3 e3 hv => q v H3 ((e1.trans e2).trans e3) ?_
      rw [← el]
      exact hv
    · have hb := of_decide_eq_false hb
      by_cases hji : j = i
      · subst hji
        rw [hi] at hu
        injection hu with hu
        rw [← hu]
        exact hb
      · exact no j u (by omega) hu
  · rintro σ' H' ⟨_, _, no⟩
    exfalso
    rcases he with he | he
    · obtain ⟨j, hj⟩ := List.getElem?_of_mem he
      exact no j _ (List.getElem?_eq_some_iff.mp hj).1 hj (.inl ⟨rfl, rfl⟩)
    · obtain ⟨j, hj⟩ := List.getElem?_of_mem he
      exact no j _ (List.getElem?_eq_some_iff.mp hj).1 hj (.inr ⟨rfl, rfl⟩)
def nTieL : List Str := ["web", "one", "other"]
theorem scTieL : FnScope nTieL ["web", "one", "other"] (defScope sTieL) := ⟨rfl, rfl, rfl, by decide +kernel, rfl, by decide +kernel, by decide +kernel⟩
theorem ok_tieL {f : Addr} {fd : FuncData} (F : Fun K "tie_length" "tie_length" sTieL f fd) (C1 : Cal P w K mg base "look_at_place" ["web", "place"] 1 (spP K RLook)) (C2 : Cal P w K mg base "length_between" ["web", "one", "other"] 1 (spP K RLenB)) : FnOk P w K mg base CX0 2 f fd ["web", "one", "other"] (spP K RLenB) := by
  obtain ⟨f1, fd1, G1, g1, kp1, b1⟩ := C1.ex
  obtain ⟨f2, fd2, G2, g2, kp2, b2⟩ := C2.ex
  refine F.ok scTieL (spP_len fun ds d ⟨W, a, b, l, _, _, e, _⟩ => by rw [e]; rfl) (fun cdv A outer s H vs Q E hr h => ?_)
  obtain ⟨ds, d, hds, ⟨W, a, b, l, G, he, rfl, rfl⟩, q⟩ := h
  obtain ⟨v1, v2, v3, rfl, hv1, hv2, hv3⟩ := dpA_3 hds
  obtain ⟨_, ha, hb, _⟩ := G.edge he
  refine ⟨_, (pss_cons (ps_expr (pe_call G1 (hr.mono (by decide)) (by rfl) g1 kp1 b1 .nil pass0 (pa_cons (pv 0) (pa_cons (pv 1) pa_nil))))
      (pss_cons (ps_expr (pe_call G1 (hr.mono (by decide)) (by rfl) g1 kp1 b1 .nil pass0 (pa_cons (pv 0) (pa_cons (pv 2) pa_nil))))
      (pss_one (ps_ret (pe_call G2 (hr.mono (by decide)) (by rfl) g2 kp2 b2 .nil pass0 (pa_cons (pv 0) (pa_cons (pv 1) (pa_cons (pv 2) pa_nil)))))))), ?_⟩
  refine qd_drop (ed_call (eda_cons (ed_var rfl hv1) (eda_cons (ed_var rfl hv2) eda_nil)) ⟨W, a, ha, rfl, rfl⟩) fun H1 e1 => ?_
  refine qd_drop (ed_call (eda_cons (ed_var rfl (ex_dp e1 hv1)) (eda_cons (ed_var rfl (ex_dp e1 hv3)) eda_nil)) ⟨W, b, hb, rfl, rfl⟩) fun H2 e2 => ?_
  have e12 := e1.trans e2
  exact sd_ret (ed_call (eda_cons (ed_var rfl (ex_dp e12 hv1)) (eda_cons (ed_var rfl (ex_dp e12 hv2)) (eda_cons (ed_var rfl (ex_dp e12 hv3)) eda_nil))) ⟨W, a, b, l, G, he, rfl, rfl⟩) fun v H3 e3 hv => q v H3 (e12.trans e3) hv

/-! ### table_of, ties_about -/
noncomputable def tableD (W : Web) : PyData := .list ((List.range W.1).map fun a => .list (rowF W a))
def RTable (ds : List PyData) (d : PyData) : Prop := ∃ W, Good W ∧ ds = [webD W] ∧ d = tableD W
def nTable : List Str := ["web", "place"]
theorem scTable : FnScope nTable ["web"] (defScope sTable) := ⟨rfl, rfl, rfl, by decide +kernel, rfl, by decide +kernel, by decide +kernel⟩
theorem rowF_noL (W : Web) (p : Nat) : noLA (rowF W p) = true := noLA_all fun d hd => by
  obtain ⟨b, _, rfl⟩ := List.mem_map.mp hd
  rfl
theorem ok_table {f : Addr} {fd : FuncData} (F : Fun K "table_of" "table_of" sTable f fd) (T : Bt mg) (C1 : Cal P w K mg base "fars_from" ["web", "place"] 2 (spN K RFars)) : FnOk P w K mg base CX0 3 f fd ["web"] (spP K RTable) := by
  obtain ⟨f1, fd1, G1, g1, kp1, b1⟩ := C1.ex
  refine F.ok scTable (spP_len fun ds d ⟨W, _, e, _⟩ => by rw [e]; rfl) (fun cdv A outer s H vs Q E hr h => ?_)
  obtain ⟨ds, d, hds, ⟨W, G, rfl, rfl⟩, q⟩ := h
  obtain ⟨v1, rfl, hv1⟩ := dpA_1 hds
  have nd := scTable.nd
  refine ⟨_, (pss_one (ps_ret (pe_lc (own := [("place", 1)]) (g := gName 1) (tt := tYes) rfl nd (pi_range1 rfl T.range (pa_cons (pe_ix (r := rIxT K) ix_tup (pv 0) pe_int (fun _ _ => rfl)) pa_nil)) (blkOk_by (own := [("place", 1)]) (N := nTable) (sc := defScope sTable) (by decide +kernel)) (fun _ _ _ _ _ => (pg_name (i := 1) nd rfl (Or.inl rfl))) (fun _ _ _ _ _ => pts_nil) (fun _ _ _ _ _ => (pe_call G1 (hr.mono (by decide)) (by rfl) g1 kp1 b1 .nil pass0 (pa_cons (pv 0) (pa_cons (pv 1) pa_nil))))))), ?_⟩
  have := G.small
  refine sd_retT ?_
  refine mat_lc (n := W.1) (f := rowF W) (eda_cons (ed_ix0 (ed_var rfl hv1)) eda_nil) (by omega) (fun _ => rfl) (fun i hi => ?_) (fun i _ => rowF_noL W i) fun L ps H1 m => q _ H1 m.ex m.dp
  refine en_call (ds := [webD W, .int (i : Int)]) ?_ ⟨W, i, G, hi, rfl, rfl⟩
  exact eda_cons (ed_var rfl hv1) (eda_cons (ed_var rfl (.int _)) eda_nil)
def aboutD (n : Nat) (AB : Nat → List (Nat × Int)) : PyData := .list ((List.range n).map fun i => .list ((AB i).map nbD))
def spAbout (K : PySem.W.Frag) : Sp := fun vs H Q _ => ∃ (W : Web), Good W ∧ DpAll K H vs [webD W] ∧ ∀ (AB : Nat → List (Nat × Int)) v H', (∀ i, i < W.1 → (AB i).Perm (adj W i)) → Ex H H' → Dp K H' v (aboutD W.1 AB) → Q v H'
def nAbout : List Str := ["web", "found", "place", "near"]
theorem scAbout : FnScope nAbout ["web"] (defScope sAbout) := ⟨rfl, rfl, rfl, by decide +kernel, rfl, by decide +kernel, by decide +kernel⟩
/-- the length of the tie to c -/
def lenTo (W : Web) (p c : Nat) : Int := (((adj W p).find? fun q => decide (q.1 = c)).map (·.2)).getD 0
theorem lenTo_of {W : Web} (G : Good W) {p c : Nat} {l : Int} (e : Edge W p c l) : lenTo W p c = l := by
  unfold lenTo
  cases h : (adj W p).find? fun q => decide (q.1 = c) with
  | none =>
    have := List.find?_eq_none.mp h (c, l) (mem_adj.mpr e)
    simp at this
  | some q =>
    have h1 := List.mem_of_find?_eq_some h
    have h2 := List.find?_some h
    have h2 := of_decide_eq_true h2
    have e' : Edge W p q.1 q.2 := mem_adj.mp h1
    rw [h2] at e'
    exact G.edge_one e' e
theorem perm_len {W : Web} (G : Good W) {p : Nat} {cs : List Nat} (h : cs.Perm ((adj W p).map (·.1))) : (cs.map fun c => (c, lenTo W p c)).Perm (adj W p) := by
  have h1 := h.map fun c => (c, lenTo W p c)
  rw [List.map_map] at h1
  have e : (adj W p).map ((fun c => (c, lenTo W p c)) ∘ fun q => q.1) = adj W p := by
    conv => rhs; rw [← List.map_id (adj W p)]
    refine List.map_congr_left fun q hq => ?_
    show (q.1, lenTo W p q.1) = q
    rw [lenTo_of G (mem_adj.mp hq)]
  rwa [e] at h1
theorem ok_about {f : Addr} {fd : FuncData} (F : Fun K "ties_about" "ties_about" sAbout f fd) (T : Bt mg) (C1 : Cal P w K mg base "neighbours_of" ["web", "place"] 2 (spNbs K)) (C2 : Cal P w K mg base "tie_length" ["web", "one", "other"] 2 (spP K RLenB)) : FnOk P w K mg base CX0 3 f fd ["web"] (spAbout K) := by
  obtain ⟨f1, fd1, G1, g1, kp1, b1⟩ := C1.ex
  obtain ⟨f2, fd2, G2, g2, kp2, b2⟩ := C2.ex
  refine F.ok scAbout (fun vs H Q E ⟨W, _, h, _⟩ => dpAll_len h) (fun cdv A outer s H vs Q E hr h => ?_)
  obtain ⟨W, G, hds, q⟩ := h
  obtain ⟨v1, rfl, hv1⟩ := dpA_1 hds
  have nd := scAbout.nd
  refine ⟨_, (pss_cons (ps_set (i := 1) nd rfl (Or.inl rfl) (pe_lst pa_nil))
      (pss_cons (ps_for PassesOwn.never rfl (pi_range1 rfl T.range (pa_cons (pe_ix (r := rIxT K) ix_tup (pv 0) pe_int (fun _ _ => rfl)) pa_nil)) (pg_name (i := 2) nd rfl (Or.inr rfl))
      (pss_one (ps_expr (pe_bm PySem.F.plainAttrs_list PySem.F.slot_list_append PySem.F.type_list_append mt_append (pv 1) (pa_cons (pe_lc (own := [("near", 3)]) (g := gName 3) (tt := tYes) rfl nd (pi_list (pe_call G1 (hr.mono (by decide)) (by rfl) g1 kp1 b1 .nil pass0 (pa_cons (pv 0) (pa_cons (pv 2) pa_nil)))) (blkOk_by (own := [("near", 3)]) (N := nAbout) (sc := defScope sAbout) (by decide +kernel)) (fun _ _ _ _ _ => (pg_name (i := 3) nd rfl (Or.inl rfl))) (fun _ _ _ _ _ => pts_nil) (fun _ _ _ _ _ => (pe_tup (pa_cons (pv 3) (pa_cons (pe_call G2 (hr.mono (by decide)) (by rfl) g2 kp2 b2 .nil pass0 (pa_cons (pv 0) (pa_cons (pv 2) (pa_cons (pv 3) pa_nil)))) pa_nil))))) pa_nil)))))
      (pss_one (ps_ret (pv 1))))), ?_⟩
  have small := G.small
  have few := G.few
  refine qd_asgT ?_
  refine ⟨Nat.zero_le _, fun L hL => ?_⟩
  refine q_forN (n := W.1) (eda_cons (ed_ix0 (ed_var rfl (ex_dp (Ex.new hL) hv1))) eda_nil) (by omega) (fun i σ' H' => ∃ y2 y3 ps AB, σ' = [some v1, some (.ref L), y2, y3] ∧ Mat K H H' L ps i (fun j => (AB j).map nbD) ∧ ∀ j, j < i → (AB j).Perm (adj W j))
    (fun H1 e1 => ⟨_, _, [], fun _ => [], rfl, (Mat.start (Ex.refl H) hL).mono e1, fun j hj => by omega⟩) ?_ ?_
  · rintro i σ' H' hi ⟨y2, y3, ps, AB, rfl, m, hAB⟩
    have hv1' := ex_dp m.ex hv1
    refine sd_appS (P := fun ds => ∃ cs : List Nat, cs.Perm ((adj W i).map (·.1)) ∧ ds = (cs.map fun c => (c, lenTo W i c)).map nbD) m.top (ev_var rfl) (fun H1 e1 Q' q' => ?_) (by rw [List.length_map, m.len]; omega) fun p xs ds H2 hP hp e2 h2 hd => ?_
    · refine lc_go ?_
      refine il_call (eda_cons (ed_var rfl (ex_dp e1 hv1')) (eda_cons (ed_var rfl (.int _)) eda_nil)) fun vs H2 e2 hd => ?_
      refine ⟨W, i, G, hi, hd, fun a H3 cs hcs ha e3 h3 => ⟨a, rfl, ⟨_, sq_of h3⟩, ?_⟩⟩
      have hv3 := ex_dp (e1.trans (e2.trans e3)) hv1'
      have hlen : cs.length ≤ 80 := by
        rw [hcs.length_eq, List.length_map]
        unfold adj adjL adjR
        rw [List.length_append, List.length_map, List.length_map]
        have l2 := List.length_filter_le (fun t : Tie => decide (t.1 = i)) W.2
        have l3 := List.length_filter_le (fun t : Tie => decide (t.2.1 = i)) W.2
        omega
      have hxs : DpAll K H3 (cs.map natV) (cs.map natD) := by
        have := dpA_ints (K := K) (H := H3) (cs.map fun (c : Nat) => (c : Int))
        rw [List.map_map, List.map_map] at this
        exact this
      refine lcL_go cs natD (fun _ => true) (fun c => nbD (c, lenTo W i c)) (sq_of h3) hxs (by omega) (fun _ => rfl) (fun _ _ _ _ => et_yes) (fun c hc _ x hx => ?_) (fun _ _ => rfl) fun p xs H4 hp e4 h4 hd4 => ?_
      · rw [dp_int hx]
        obtain ⟨q1, hq1, hq2⟩ := List.mem_map.mp (hcs.mem_iff.mp hc)
        have ed : Edge W i c (lenTo W i c) := by
          have e0 : Edge W i q1.1 q1.2 := mem_adj.mp hq1
          rw [hq2] at e0
          rw [lenTo_of G e0]
          exact e0
        exact ed_tup (eda_cons (ed_var rfl (.int _)) (eda_cons (ed_call (eda_cons (ed_var rfl hv3) (eda_cons (ed_var rfl (.int _)) (eda_cons (ed_var rfl (.int _)) eda_nil))) ⟨W, i, c, _, G, ed, rfl, rfl⟩) eda_nil))
      · have e24 := e2.trans (e3.trans e4)
        rw [List.filter_eq_self.mpr (fun _ _ => rfl)] at hd4
        exact q' p xs _ H4 ⟨cs, hcs, rfl⟩ (fresh_back (e2.trans e3) hp) e24 h4 (by rw [List.map_map]; exact hd4)
    · obtain ⟨cs, hcs, rfl⟩ := hP
      have m1 : Mat K H H' L ps i (fun j => ((fun j => if j = i then (cs.map fun c => (c, lenTo W i c)) else AB j) j).map nbD) := m.same fun j hj => by
        show _ = (if j = i then _ else AB j).map nbD
        rw [if_neg (by omega)]
      refine ⟨_, _, _, fun j => if j = i then (cs.map fun c => (c, lenTo W i c)) else AB j, rfl, m1.more hp e2 h2 (by dsimp only; rw [if_pos rfl]; exact hd) (nbD_noL _), fun j hj => ?_⟩
      dsimp only
      by_cases e : j = i
      · subst e
        rw [if_pos rfl]
        exact perm_len G hcs
      · rw [if_neg e]
        exact hAB j (by omega)
  · rintro σ' H' ⟨y2, y3, ps, AB, rfl, m, hAB⟩
    exact ev_var (v := .ref L) rfl H' (Ex.refl H') _ fun H6 e6 => q AB _ H6 hAB (m.ex.trans e6) (m.mono e6).dp
end
end Lt

set_option maxRecDepth 100000
set_option maxHeartbeats 4000000
/-! steps_to, way_by. -/
namespace Lt
open PySem PySem.Spec L2 Evl

section
variable {K : PySem.W.Frag} {σ : L2.St} {H H' : Hp} {ta tb te tc ts : TE} {tl : TA} {t u : TT} {D : Ends} {tz tw : TS}
/-- [.. for a, b in a list of data] -/
theorem en_lcP {α : Type} {g0 : TG} {vs : List Nat} (as : List α) (en : α → PyData) (f : α → Bool) (g : α → PyData) (σf : α → L2.St) (h : EvD K ts σ H (.list (as.map en))) (hn : as.length ≤ 40000)
    (hg : ∀ a ∈ as, ∀ x H1, Ex H H1 → Dp K H1 x (en a) → EvG g0 x (wipe σ vs) H1 (σf a)) (hw : ∀ a ∈ as, wipe (σf a) vs = wipe σ vs)
    (ht : ∀ a ∈ as, EvT t (σf a) H (f a)) (he : ∀ a ∈ as, f a = true → EvD K te (σf a) H (g a)) (hz : ∀ a ∈ as, noL (g a) = true) :
    EvN K (tLc (iList K ts) g0 t te vs) σ H ((as.filter f).map g) := fun H0 a Q q => by
  refine h H0 a _ fun v H1 e1 hd => ?_
  obtain ⟨l, xs, rfl, hs, hx⟩ := dp_lst hd
  have hlx : xs.length = as.length := by rw [dpAll_len hx, List.length_map]
  refine ⟨l, rfl, ⟨xs, hs⟩, fun L hL => ?_⟩
  refine lc_list (xs := xs) (fun i H' => Lcw K H1 L (((as.take i).filter f).map g) H') (lcw_start hL) (fun i H' _ p => ex_l p.2.1 hs) (fun i x H' hi p => ?_) fun H' p => lcw_end e1 (by rw [hlx, List.take_length] at p; exact p) q
  obtain ⟨d, hd', hxd⟩ := dpAll_at hx hi
  rw [List.getElem?_map, Option.map_eq_some_iff] at hd'
  obtain ⟨b, hb, rfl⟩ := hd'
  have hm : b ∈ as := List.mem_of_getElem? hb
  refine hg b hm x H' ((a.trans e1).trans p.2.1) (ex_dp p.2.1 hxd) _ ⟨hw b hm, ?_⟩
  have hlen : (((as.take i).filter f).map g).length < 50000 := by
    have h1 := List.length_filter_le f (as.take i)
    rw [List.length_take] at h1
    rw [List.length_map]
    omega
  have hno : noLA (((as.take i).filter f).map g) = true := noLA_all fun d hd => by
    obtain ⟨k, hk, rfl⟩ := List.mem_map.mp hd
    exact hz k (List.mem_of_mem_take (List.mem_filter.mp hk).1)
  refine lcw_turn p hlen hno ((ht b hm).mono (a.trans e1)) (fun hf => (he b hm hf).mono (a.trans e1)) (hz b hm) ?_
  rw [List.take_add_one, hb, Option.toList_some, List.filter_append, List.map_append, List.filter_cons]
  split
  · rfl
  · exact List.append_nil _
theorem en_list {ds : List PyData} (h : EvD K ta σ H (.list ds)) : EvN K (tCB (fun xs H Q => ∃ p ys, xs = [.ref p] ∧ (SqL K H p ys ∨ SqT K H p ys) ∧ ∀ l, H l = none → Q (.ref l) (upd H l (.lst ys))) (tCons ta tNil)) σ H ds := fun H1 a Q q =>
  h H1 a _ fun v H2 e2 hv => by
    obtain ⟨p, ys, rfl, hs, hd⟩ := dp_lst hv
    exact ⟨p, ys, rfl, .inl hs, fun l hl => q l ys _ (fresh_back e2 hl) (e2.trans (Ex.new hl)) upd_same (ex_dpA (Ex.new hl) hd)⟩
theorem last_natD (pre : List Nat) (c : Nat) : atI ((pre ++ [c]).map natD) (-1) = some (natD c) := by
  rw [List.map_append]
  exact atI_last _ _
theorem table_at {W : Web} {a : Nat} (h : a < W.1) : ((List.range W.1).map fun a => PyData.list (rowF W a))[a]? = some (.list (rowF W a)) := by
  rw [List.getElem?_map, List.getElem?_range h]
  rfl
theorem row_at {W : Web} {a b : Nat} (h : b < W.1) : (rowF W a)[b]? = some (.int (far W a b)) := by
  unfold rowF
  rw [List.getElem?_map, List.getElem?_range h]
  rfl
theorem about_at {n : Nat} {AB : Nat → List (Nat × Int)} {a : Nat} (h : a < n) : ((List.range n).map fun i => PyData.list ((AB i).map nbD))[a]? = some (.list ((AB a).map nbD)) := by
  rw [List.getElem?_map, List.getElem?_range h]
  rfl
/-- fars[a][b] -/
theorem ed_far {W : Web} {a b : Nat} (ha : a < W.1) (hb : b < W.1) (h : EvD K ta σ H (tableD W)) (h1 : EvD K tb σ H (.int (a : Int))) (h2 : EvD K tc σ H (.int (b : Int))) : EvD K (tOp (rIxL K) (tOp (rIxL K) ta tb) tc) σ H (.int (far W a b)) :=
  ed_ixL (ed_ixL h h1 (atI_nat (table_at ha))) h2 (atI_nat (row_at hb))
end

/-! ### steps_to -/
noncomputable def stepsOf (W : Web) (AB : Nat → List (Nat × Int)) (a b : Nat) : List Nat := ((AB a).filter (isStep W a b)).map (·.1)
structure Abt (W : Web) (AB : Nat → List (Nat × Int)) : Prop where
  good : Good W
  perm : ∀ i, i < W.1 → (AB i).Perm (adj W i)
theorem Abt.edge {W : Web} {AB : Nat → List (Nat × Int)} (A : Abt W AB) {a : Nat} (ha : a < W.1) {q : Nat × Int} (h : q ∈ AB a) : Edge W a q.1 q.2 := mem_adj.mp ((A.perm a ha).mem_iff.mp h)
theorem Abt.len {W : Web} {AB : Nat → List (Nat × Int)} (A : Abt W AB) {a : Nat} (ha : a < W.1) : (AB a).length ≤ 80 := by
  rw [(A.perm a ha).length_eq]
  unfold adj adjL adjR
  rw [List.length_append, List.length_map, List.length_map]
  have l2 := List.length_filter_le (fun t : Tie => decide (t.1 = a)) W.2
  have l3 := List.length_filter_le (fun t : Tie => decide (t.2.1 = a)) W.2
  have := A.good.few
  omega
theorem Abt.cnt {W : Web} {AB : Nat → List (Nat × Int)} (A : Abt W AB) {a b : Nat} (ha : a < W.1) : (stepsOf W AB a b).length = cnt W a b := by
  unfold stepsOf Lt.cnt
  rw [List.length_map]
  exact ((A.perm a ha).filter _).length_eq
theorem Abt.step {W : Web} {AB : Nat → List (Nat × Int)} (A : Abt W AB) {a b c : Nat} (ha : a < W.1) (h : c ∈ stepsOf W AB a b) : ∃ l, Edge W a c l ∧ l + far W c b = far W a b := by
  unfold stepsOf at h
  obtain ⟨q, hq, rfl⟩ := List.mem_map.mp h
  obtain ⟨h1, h2⟩ := List.mem_filter.mp hq
  exact ⟨q.2, A.edge ha h1, of_decide_eq_true h2⟩
def RSteps (ds : List PyData) (es : List PyData) : Prop := ∃ (W : Web) (AB : Nat → List (Nat × Int)) (a b : Nat), Abt W AB ∧ a < W.1 ∧ b < W.1 ∧ ds = [aboutD W.1 AB, tableD W, .int (a : Int), .int (b : Int)] ∧ es = (stepsOf W AB a b).map natD
def nSteps : List Str := ["about", "fars", "one", "other", "near", "length"]
theorem scSteps : FnScope nSteps ["about", "fars", "one", "other"] (defScope sSteps) := ⟨rfl, rfl, rfl, by decide +kernel, rfl, by decide +kernel, by decide +kernel⟩
section
variable {P : Program} {w : World} {K : PySem.W.Frag} {mg : Str → Option Value} {base : Heap}
theorem ok_steps {f : Addr} {fd : FuncData} {k : Nat} (F : Fun K "steps_to" "steps_to" sSteps f fd) : FnOk P w K mg base CX0 (k + 1) f fd ["about", "fars", "one", "other"] (spN K RSteps) := by
  refine F.ok scSteps (spN_len fun ds d ⟨W, AB, a, b, _, _, _, e, _⟩ => by rw [e]; rfl) (fun cdv A outer s H vs Q E hr h => ?_)
  obtain ⟨ds, es, hds, ⟨W, AB, a, b, B, ha, hb, rfl, rfl⟩, q⟩ := h
  obtain ⟨v1, v2, v3, v4, rfl, hv1, hv2, hv3, hv4⟩ := dpA_4 hds
  have nd := scSteps.nd
  have G := B.good
  refine ⟨_, (pss_one (ps_ret (pe_lc (own := [("near", 4), ("length", 5)]) (g := gTup K 2 (gCons (gName 4) (gCons (gName 5) gNil))) (tt := _) rfl nd (pi_list (pe_ix (r := rIxL K) ix_list (pv 0) (pv 2) (fun _ _ => rfl))) (blkOk_by (own := [("near", 4), ("length", 5)]) (N := nSteps) (sc := defScope sSteps) (by decide +kernel)) (fun _ _ _ _ _ => (pg_tup rfl (pgs_cons (pg_name (i := 4) nd rfl (Or.inl rfl)) (pgs_cons (pg_name (i := 5) nd rfl (Or.inl rfl)) pgs_nil)))) (fun _ _ _ _ _ => (pts_one (pt_cmpR op_eq (pe_op op_add (pv 5) (pe_ix (r := rIxL K) ix_list (pe_ix (r := rIxL K) ix_list (pv 1) (pv 4) (fun _ _ => rfl)) (pv 3) (fun _ _ => rfl))) (pe_ix (r := rIxL K) ix_list (pe_ix (r := rIxL K) ix_list (pv 1) (pv 2) (fun _ _ => rfl)) (pv 3) (fun _ _ => rfl)) (nomark _)))) (fun _ _ _ _ _ => (pv 4))))), ?_⟩
  have hlen := B.len ha
  refine sd_retN (en_lcP (AB a) nbD (isStep W a b) (fun q => natD q.1) (fun q => [some v1, some v2, some v3, some v4, some (.int (q.1 : Int)), some (.int q.2)]) (ed_ixL (ed_var rfl hv1) (ed_var rfl hv3) (atI_nat (about_at ha))) (by omega) (fun q hq x H1 _ hx => eg_2 hx) (fun _ _ => rfl) (fun q hq => ?_) (fun q _ _ => ed_var rfl (.int _)) (fun _ _ => rfl)) fun p xs H1 hp e1 h1 hd => ?_
  · have hc := (G.edge (B.edge ha hq)).2.2.1
    exact dt_test (ed_op (ed_op (ed_var rfl (.int _)) (ed_far hc hb (ed_var rfl hv2) (ed_var rfl (.int _)) (ed_var rfl hv4)) (rd_int (g := fun i j => i + j))) (ed_far ha hb (ed_var rfl hv2) (ed_var rfl hv3) (ed_var rfl hv4)) rd_eqI)
  · refine q p xs H1 hp e1 h1 ?_
    unfold stepsOf
    rw [List.map_map]
    exact hd

/-! ### way_by -/
noncomputable def below (W : Web) (b c : Nat) : Nat := (List.range W.1).countP fun v => decide (far W v b < far W c b)
theorem countP_lt {α : Type} {p q : α → Bool} : ∀ {l : List α}, (∀ x, p x = true → q x = true) → ∀ {y : α}, y ∈ l → q y = true → p y = false → l.countP p < l.countP q
  | [], _, y, h, _, _ => nomatch h
  | z :: r, hpq, y, h, h1, h2 => by
    rw [List.countP_cons, List.countP_cons]
    have hle : r.countP p ≤ r.countP q := List.countP_mono_left fun x _ => hpq x
    rcases List.mem_cons.mp h with e | h
    · subst e
      rw [if_pos h1, if_neg (by rw [h2]; exact Bool.false_ne_true)]
      omega
    · have := countP_lt hpq h h1 h2
      have : (if p z = true then 1 else 0) ≤ (if q z = true then 1 else 0) := by
        by_cases hz : p z = true
        · rw [if_pos hz, if_pos (hpq z hz)]
          exact Nat.le_refl _
        · rw [if_neg hz]
          exact Nat.zero_le _
      omega
theorem below_lt {W : Web} (G : Good W) {b c c' : Nat} {l : Int} (hb : b < W.1) (e : Edge W c c' l) (h : l + far W c' b = far W c b) : below W b c' < below W b c := by
  obtain ⟨_, hc, hc', hl, _⟩ := G.edge e
  refine countP_lt (fun x hx => decide_eq_true (by have := of_decide_eq_true hx; omega)) (y := c') (List.mem_range.mpr hc') (decide_eq_true (by omega)) (decide_eq_false (by omega))
theorem below_le (W : Web) (b c : Nat) : below W b c ≤ W.1 := by
  have := List.countP_le_length (p := fun v => decide (far W v b < far W c b)) (l := List.range W.1)
  rwa [List.length_range] at this
def spWay (K : PySem.W.Frag) : Sp := fun vs H Q _ => ∃ (W : Web) (AB : Nat → List (Nat × Int)) (ini : List Nat) (c b : Nat), Abt W AB ∧ c < W.1 ∧ b < W.1 ∧ ini.length ≤ 10 ∧ DpAll K H vs [aboutD W.1 AB, tableD W, .list ((ini ++ [c]).map natD), .int (b : Int)] ∧
  ∀ (p : Addr) H' (ws : List Nat), (∃ more, more ≠ [] ∧ ws = ini ++ more) → ws.getLast? = some b → ws.length ≤ 30 → H p = none → Ex H H' → H' p = some (.lst (ws.map natV)) → Q (.ref p) H'
def nWay : List Str := ["about", "fars", "begun", "other", "way"]
theorem scWay : FnScope nWay ["about", "fars", "begun", "other"] (defScope sWay) := ⟨rfl, rfl, rfl, by decide +kernel, rfl, by decide +kernel, by decide +kernel⟩
theorem nats_dpA {H : Hp} : ∀ cs : List Nat, DpAll K H (cs.map natV) (cs.map natD)
  | [] => .nil
  | c :: r => .cons (.int _) (nats_dpA r)
theorem dpA_nats {H : Hp} : ∀ {xs : List V} {cs : List Nat}, DpAll K H xs (cs.map natD) → xs = cs.map natV
  | _, [], .nil => rfl
  | _, c :: r, .cons h a => by
    rw [dp_int h, dpA_nats a]
    rfl
theorem ok_way {f : Addr} {fd : FuncData} (F : Fun K "way_by" "way_by" sWay f fd) (T : Bt mg) (C1 : Cal P w K mg base "steps_to" ["about", "fars", "one", "other"] 1 (spN K RSteps)) : FnOk P w K mg base CX0 2 f fd ["about", "fars", "begun", "other"] (spWay K) := by
  obtain ⟨f1, fd1, G1, g1, kp1, b1⟩ := C1.ex
  refine F.ok scWay (fun vs H Q E ⟨_, _, _, _, _, _, _, _, _, h, _⟩ => dpAll_len h) (fun cdv A outer s H vs Q E hr h => ?_)
  obtain ⟨W, AB, ini, c, b, B, hc, hb, hi, hds, q⟩ := h
  obtain ⟨v1, v2, v3, v4, rfl, hv1, hv2, hv3, hv4⟩ := dpA_4 hds
  have nd := scWay.nd
  have G := B.good
  refine ⟨_, (pss_cons (ps_set (i := 4) nd rfl (Or.inl rfl) (pe_callTy call_list_of (by rfl) T.list (by decide +kernel) (pa_cons (pv 2) pa_nil)))
      (pss_cons (ps_while PassesOwn.never (pt_cmpR op_ne (pe_ix (r := rIxL K) ix_list (pv 4) (pe_un un_neg pe_int) (fun _ _ => rfl)) (pv 3) (nomark _)) (pss_one (ps_expr (pe_bm PySem.F.plainAttrs_list PySem.F.slot_list_append PySem.F.type_list_append mt_append (pv 4) (pa_cons (pe_ix (r := rIxL K) ix_list (pe_call G1 (hr.mono (by decide)) (by rfl) g1 kp1 b1 .nil pass0 (pa_cons (pv 0) (pa_cons (pv 1) (pa_cons (pe_ix (r := rIxL K) ix_list (pv 4) (pe_un un_neg pe_int) (fun _ _ => rfl)) (pa_cons (pv 3) pa_nil))))) pe_int (fun _ _ => rfl)) pa_nil)))))
      (pss_one (ps_ret (pv 4))))), ?_⟩
  refine qd_asgN (en_list (ed_var rfl hv3)) fun p xs H1 hp e1 h1 hd => ?_
  have hxs := dpA_nats hd
  subst hxs
  refine q_while (fun m σ' H' => ∃ more c', σ' = [some v1, some v2, some v3, some v4, some (.ref p)] ∧ Ex H H' ∧ H' p = some (.lst ((ini ++ more ++ [c']).map natV)) ∧ c' < W.1 ∧ m = below W b c' ∧ more.length + m ≤ W.1) (below W b c) ⟨[], c, rfl, e1, by rw [List.append_nil]; exact h1, hc, rfl, by have := below_le W b c; simp; exact this⟩ ?_
  rintro m σ' H' ⟨more, c', rfl, eH, hl, hc', rfl, hm⟩
  have rl : EvD K (tVar 4) [some v1, some v2, some v3, some v4, some (.ref p)] H' (.list ((ini ++ more ++ [c']).map natD)) := ed_ref rfl hl (nats_dpA _)
  have rlast := ed_ixL rl (ed_neg ed_int) (last_natD (ini ++ more) c')
  refine ⟨!decide ((c' : Int) = (b : Int)), dt_test (ed_op rlast (ed_var rfl (ex_dp eH hv4)) rd_neI), fun hbr H2 e2 => ?_, fun hbr H2 e2 => ?_⟩
  · have hne : c' ≠ b := fun z => by
      subst z
      simp at hbr
    have hcnt := cnt_pos G hc' hb hne
    rw [← B.cnt hc'] at hcnt
    obtain ⟨s0, rest, hs⟩ : ∃ s0 rest, stepsOf W AB c' b = s0 :: rest := by
      cases h : stepsOf W AB c' b with
      | nil =>
        rw [h] at hcnt
        simp at hcnt
      | cons x y => exact ⟨x, y, rfl⟩
    obtain ⟨l, ed, hst⟩ := B.step hc' (show s0 ∈ stepsOf W AB c' b by rw [hs]; exact List.mem_cons_self)
    have hlt := below_lt G hb ed hst
    refine ⟨fun σ2 H3 => ∃ m', m' < below W b c' ∧ ∃ more c'', σ2 = [some v1, some v2, some v3, some v4, some (.ref p)] ∧ Ex H H3 ∧ H3 p = some (.lst ((ini ++ more ++ [c'']).map natV)) ∧ c'' < W.1 ∧ m' = below W b c'' ∧ more.length + m' ≤ W.1, fun _ _ h => h, ?_⟩
    have hsm := G.small
    refine sd_app (K := K) (d := natD s0) (e2 _ _ hl) (ev_var rfl) (ed_ixL (ds := (stepsOf W AB c' b).map natD) (evn_d (en_call (ds := [aboutD W.1 AB, tableD W, .int (c' : Int), .int (b : Int)]) (eda_cons (ed_var rfl (ex_dp (eH.trans e2) hv1)) (eda_cons (ed_var rfl (ex_dp (eH.trans e2) hv2)) (eda_cons (rlast.mono e2) (eda_cons (ed_var rfl (ex_dp (eH.trans e2) hv4)) eda_nil)))) ⟨W, AB, c', b, B, hc', hb, rfl, rfl⟩)) ed_int (by rw [hs]; exact atI_nat (j := 0) rfl)) ?_ fun u H3 e3 hu => ?_
    · rw [List.length_map, List.length_append, List.length_append]
      simp
      omega
    · rw [dp_int hu]
      refine ⟨_, hlt, more ++ [c'], s0, rfl, (eH.trans (e2.trans e3)).mut hp, ?_, (G.edge ed).2.2.1, rfl, ?_⟩
      · rw [upd_same, List.map_append, List.map_append, List.map_append, List.map_append, List.map_append]
        simp only [List.append_assoc]
        rfl
      · rw [List.length_append]
        simp
        omega
  · have hcb : c' = b := by
      have hq : (c' : Int) = (b : Int) := by simpa using hbr
      omega
    subst hcb
    refine ev_var (v := .ref p) rfl H2 (Ex.refl H2) _ fun H3 e3 => ?_
    refine q p H3 (ini ++ more ++ [c']) ⟨more ++ [c'], by simp, by rw [List.append_assoc]⟩ (by simp) ?_ hp (eH.trans (e2.trans e3)) (e3 _ _ (e2 _ _ hl))
    rw [List.length_append, List.length_append]
    have hsm := G.small
    simp
    omega
end
end Lt

set_option maxRecDepth 100000
set_option maxHeartbeats 4000000
/-! bar_between, verdict. -/
namespace Lt
open PySem PySem.Spec L2 Evl

section
variable {K : PySem.W.Frag} {σ : L2.St} {H H' : Hp} {ta tb te tc ts : TE} {tl : TA} {t u : TT} {D : Ends} {tz tw : TS} {lo hi : TO}
def cutA {α : Type} (xs : List α) (lo hi : Option Int) : List α := (xs.drop (HT.sIx xs.length 0 lo)).take (HT.sIx xs.length xs.length hi - HT.sIx xs.length 0 lo)
theorem cutA_map {α β : Type} (f : α → β) (xs : List α) (l h : Option Int) : cutA (xs.map f) l h = (cutA xs l h).map f := by
  unfold cutA
  rw [List.length_map, List.map_take, List.map_drop]
theorem cutA_le {α : Type} (xs : List α) (l h : Option Int) : (cutA xs l h).length ≤ xs.length := by
  unfold cutA
  rw [List.length_take, List.length_drop]
  omega
theorem cut_1 {α : Type} (xs : List α) : cutA xs (some 1) none = xs.drop 1 := by
  unfold cutA
  rw [show HT.sIx xs.length 0 (some 1) = min 1 xs.length from HT.sIx_nat xs.length 0 1, HT.sIx_none]
  cases xs with
  | nil => rfl
  | cons x r =>
    rw [show min 1 (x :: r).length = 1 by rw [List.length_cons]; omega]
    exact List.take_of_length_le (by simp)
theorem en_sl {ws : List Nat} {l h : Option Int} (ha : EvD K ta σ H (.list (ws.map natD))) (hl : EvO lo σ H l) (hh : EvO hi σ H h) : EvN K (tSl (rSlL K) ta lo hi) σ H ((cutA ws l h).map natD) := fun H1 a Q q =>
  ha H1 a _ fun v H2 e2 hv => hl H2 (a.trans e2) _ fun H3 e3 => hh H3 ((a.trans e2).trans e3) _ fun H4 e4 => by
    obtain ⟨p, xs, rfl, hs, hd⟩ := dp_lst (ex_dp (e3.trans e4) hv)
    have hx := dpA_nats hd
    subst hx
    refine ⟨p, _, rfl, hs, fun r hr => q r _ _ (fresh_back (e2.trans (e3.trans e4)) hr) ((e2.trans (e3.trans e4)).trans (Ex.new hr)) upd_same ?_⟩
    rw [show cutV (ws.map natV) l h = cutA (ws.map natV) l h from rfl, cutA_map]
    exact nats_dpA _
theorem inV_nats (c : Nat) : ∀ ws : List Nat, inV (natV c) (ws.map natV) = decide (c ∈ ws)
  | [] => rfl
  | w :: r => by
    have ih := inV_nats c r
    unfold inV at ih ⊢
    rw [List.map_cons, List.any_cons, ih]
    show ((w : Int) == (c : Int) || decide (c ∈ r)) = decide (c ∈ w :: r)
    by_cases e : c = w
    · subst e
      simp
    · have h1 : ((w : Int) == (c : Int)) = false := by
        rw [beq_eq_false_iff_ne]
        omega
      rw [h1, Bool.false_or]
      by_cases h : c ∈ r
      · simp [h]
      · simp [h, e]
theorem flat_nats (ws : List Nat) : (ws.map natV).all flatV = true := by
  rw [List.all_eq_true]
  intro v hv
  obtain ⟨c, _, rfl⟩ := List.mem_map.mp hv
  rfl
theorem rd_inNats {c : Nat} {ws : List Nat} : RD2 K (rIn K false) (natD c) (.list (ws.map natD)) H (.bool (decide (c ∈ ws))) := fun H1 a x y hx hy Q q => by
  obtain ⟨p, xs, rfl, hs, hd⟩ := dp_lst hy
  have he := dpA_nats hd
  subst he
  rw [dp_int hx]
  refine ⟨p, _, rfl, .inl hs, rfl, flat_nats ws, q _ H1 (Ex.refl H1) ?_⟩
  show Dp K H1 (.bl (inV (natV c) (ws.map natV))) _
  rw [inV_nats]
  exact .bl _
/-- the first place of c in ws -/
def place (c : Nat) : List Nat → Nat
  | [] => 0
  | w :: r => if w = c then 0 else place c r + 1
theorem place_ok {c : Nat} : ∀ {ws : List Nat}, c ∈ ws → ws[place c ws]? = some c ∧ ∀ m, m < place c ws → ∀ z, ws[m]? = some z → z ≠ c
  | [], h => nomatch h
  | w :: r, h => by
    unfold place
    by_cases e : w = c
    · rw [if_pos e]
      exact ⟨by rw [e]; rfl, fun m hm => by omega⟩
    · rw [if_neg e]
      have hr : c ∈ r := by
        rcases List.mem_cons.mp h with q | q
        · exact absurd q.symm e
        · exact q
      obtain ⟨h1, h2⟩ := place_ok hr
      refine ⟨by simpa using h1, fun m hm z hz => ?_⟩
      cases m with
      | zero =>
        injection hz with hz
        rw [← hz]
        exact e
      | succ m => exact h2 m (by omega) z (by simpa using hz)
theorem ed_index {c : Nat} {ws : List Nat} (ha : EvD K ta σ H (.list (ws.map natD))) (hb : EvD K tb σ H (natD c)) (hc : c ∈ ws) : EvD K (tBM K "list" (rIndex K) ta (tCons tb tNil)) σ H (natD (place c ws)) := fun H1 a Q q =>
  ha H1 a _ fun v H2 e2 hv => by
    obtain ⟨p, xs, rfl, hs, hd⟩ := dp_lst hv
    have hx := dpA_nats hd
    subst hx
    refine ⟨.inl ⟨rfl, _, hs⟩, hb H2 (a.trans e2) _ fun y H3 e3 hy => ?_⟩
    rw [dp_int hy]
    obtain ⟨h1, h2⟩ := place_ok hc
    refine ⟨p, ws.map natV, _, place c ws, natV c, rfl, rfl, ex_l e3 hs, rfl, flat_nats ws, by rw [List.getElem?_map, h1]; rfl, ?_, fun m z' hm hz => ?_, q _ H3 (e2.trans e3) (.int _)⟩
    · show ((c : Int) == (c : Int)) = true
      simp
    · rw [List.getElem?_map, Option.map_eq_some_iff] at hz
      obtain ⟨w, hw, rfl⟩ := hz
      have := h2 m hm w hw
      show ((w : Int) == (c : Int)) = false
      rw [beq_eq_false_iff_ne]
      omega
theorem ed_tupleOf {ds : List PyData} (ha : EvN K ta σ H ds) : EvD K (tCB (fun xs H Q => ∃ p ys, xs = [.ref p] ∧ ((SqL K H p ys ∧ ∀ l, H l = none → Q (.ref l) (upd H l (.tup ys))) ∨ (SqT K H p ys ∧ Q (.ref p) H))) (tCons ta tNil)) σ H (.tuple ds) := fun H1 a Q q =>
  ha H1 a _ fun p xs H2 hp e2 h2 hd => ⟨p, xs, rfl, .inl ⟨sq_of h2, fun l hl => q _ _ (e2.trans (Ex.new hl)) (.tup (st_of upd_same) (ex_dpA (Ex.new hl) hd))⟩⟩
/-- the least, the greatest of two tuples of numbers -/
theorem nats_alike (xs ys : List Nat) : PySem.W.alikeAll (xs.map natD) (ys.map natD) = true := by
  have := PySem.W.alike_ints (xs.map fun (c : Nat) => (c : Int)) (ys.map fun (c : Nat) => (c : Int))
  rw [List.map_map, List.map_map] at this
  exact this
theorem nats_depth : ∀ xs : List Nat, PyData.depthAll (xs.map natD) = 0
  | [] => by simp [PyData.depthAll]
  | x :: r => by
    have := nats_depth r
    simp only [List.map_cons, PyData.depthAll, this]
    simp [natD, PyData.depth]
theorem nats_lay : ∀ xs : List Nat, PyData.canLayAll0 (xs.map natD) = true
  | [] => by simp [PyData.canLayAll0]
  | x :: r => by
    have := nats_lay r
    simp only [List.map_cons, PyData.canLayAll0, this]
    simp [natD, PyData.canLay0]
theorem two_ok (x y : List Nat) : PySem.W.AlikeAll [.tuple (x.map natD), .tuple (y.map natD)] ∧ PyData.depthAll [.tuple (x.map natD), .tuple (y.map natD)] ≤ 60 ∧ PyData.canLayAll0 [.tuple (x.map natD), .tuple (y.map natD)] = true := by
  refine ⟨⟨fun a ha b hb => ?_, fun a ha => ?_⟩, ?_, ?_⟩
  · have h1 : ∃ z, a = .tuple (List.map natD z) := by
      rcases List.mem_cons.mp ha with e | ha
      · exact ⟨x, e⟩
      · rcases List.mem_cons.mp ha with e | ha
        · exact ⟨y, e⟩
        · cases ha
    have h2 : ∃ z, b = .tuple (List.map natD z) := by
      rcases List.mem_cons.mp hb with e | hb
      · exact ⟨x, e⟩
      · rcases List.mem_cons.mp hb with e | hb
        · exact ⟨y, e⟩
        · cases hb
    obtain ⟨z, rfl⟩ := h1
    obtain ⟨z', rfl⟩ := h2
    simp only [PySem.W.alike]
    exact nats_alike z z'
  · rcases List.mem_cons.mp ha with e | ha
    · rw [e]
      exact fun z => nomatch z
    · rcases List.mem_cons.mp ha with e | ha
      · rw [e]
        exact fun z => nomatch z
      · cases ha
  · simp [PyData.depthAll, PyData.depth, nats_depth]
  · simp [PyData.canLayAll0, PyData.canLay0, nats_lay]
theorem rdc_min2 {x y : List Nat} : RDC K (rMinD K) [.list [.tuple (x.map natD), .tuple (y.map natD)]] H (PySem.W.minD (.tuple (x.map natD)) [.tuple (y.map natD)]) := fun H1 a xs hx Q q => by
  obtain ⟨z, rfl, hz⟩ := dpA_1 hx
  have ok := two_ok x y
  exact ⟨z, _, _, rfl, .inl hz, ok.1, ok.2.1, ok.2.2, fun v hv => q v H1 (Ex.refl H1) hv⟩
theorem rdc_max2 {x y : List Nat} : RDC K (rMaxD K) [.list [.tuple (x.map natD), .tuple (y.map natD)]] H (PySem.W.maxD (.tuple (x.map natD)) [.tuple (y.map natD)]) := fun H1 a xs hx Q q => by
  obtain ⟨z, rfl, hz⟩ := dpA_1 hx
  have ok := two_ok x y
  exact ⟨z, _, _, rfl, .inl hz, ok.1, ok.2.1, ok.2.2, fun v hv => q v H1 (Ex.refl H1) hv⟩
end

/-! ### bar_between -/
def spBar (K : PySem.W.Frag) : Sp := fun vs H Q _ => ∃ (W : Web) (AB : Nat → List (Nat × Int)) (a b : Nat) (s0 s1 : Nat) (rest : List Nat), Abt W AB ∧ a < W.1 ∧ b < W.1 ∧ s0 < W.1 ∧ s1 < W.1 ∧
  (∃ v1 v2 v3 v4 v5, vs = [v1, v2, v3, v4, v5] ∧ Dp K H v1 (aboutD W.1 AB) ∧ Dp K H v2 (tableD W) ∧ Dp K H v3 (.int (a : Int)) ∧ Dp K H v4 (.int (b : Int)) ∧ Dp K H v5 (.list ((s0 :: s1 :: rest).map natD))) ∧
  ∀ v H' ds, Ex H H' → Dp K H' v (.tuple (.str "barred" :: ds)) → Q v H'
def nBar : List Str := ["about", "fars", "one", "other", "steps", "first", "second", "meet", "both", "place"]
theorem scBar : FnScope nBar ["about", "fars", "one", "other", "steps"] (defScope sBar) := ⟨rfl, rfl, rfl, by decide +kernel, rfl, by decide +kernel, by decide +kernel⟩
section
variable {P : Program} {w : World} {K : PySem.W.Frag} {mg : Str → Option Value} {base : Heap}
theorem ok_bar {f : Addr} {fd : FuncData} (F : Fun K "bar_between" "bar_between" sBar f fd) (T : Bt mg) (C1 : Cal P w K mg base "way_by" ["about", "fars", "begun", "other"] 2 (spWay K)) : FnOk P w K mg base CX0 3 f fd ["about", "fars", "one", "other", "steps"] (spBar K) := by
  obtain ⟨f1, fd1, G1, g1, kp1, b1⟩ := C1.ex
  refine F.ok scBar (fun vs H Q E ⟨_, _, _, _, _, _, _, _, _, _, _, _, ⟨_, _, _, _, _, h, _⟩, _⟩ => by rw [h]; rfl) (fun cdv A outer s H vs Q E hr h => ?_)
  obtain ⟨W, AB, a, b, s0, s1, rest, B, ha, hb, h0, h1, ⟨v1, v2, v3, v4, v5, rfl, hv1, hv2, hv3, hv4, hv5⟩, q⟩ := h
  have nd := scBar.nd
  have hu := hr.units
  refine ⟨_, (pss_cons (ps_set (i := 5) nd rfl (Or.inl rfl) (pe_call G1 (hr.mono (by decide)) (by rfl) g1 kp1 b1 .nil pass0 (pa_cons (pv 0) (pa_cons (pv 1) (pa_cons (pe_lst (pa_cons (pv 2) (pa_cons (pe_ix (r := rIxL K) ix_list (pv 4) pe_int (fun _ _ => rfl)) pa_nil))) (pa_cons (pv 3) pa_nil))))))
      (pss_cons (ps_set (i := 6) nd rfl (Or.inr rfl) (pe_call G1 (hr.mono (by decide)) (by rfl) g1 kp1 b1 .nil pass0 (pa_cons (pv 0) (pa_cons (pv 1) (pa_cons (pe_lst (pa_cons (pv 2) (pa_cons (pe_ix (r := rIxL K) ix_list (pv 4) pe_int (fun _ _ => rfl)) pa_nil))) (pa_cons (pv 3) pa_nil))))))
      (pss_cons (ps_set (i := 7) nd rfl (Or.inl rfl) (pe_ix (r := rIxL K) ix_list (pe_lc (own := [("place", 9)]) (g := gName 9) (tt := _) rfl nd (pi_list (pe_slice sl_list (pv 5) (po_some pe_int) po_none)) (blkOk_by (own := [("place", 9)]) (N := nBar) (sc := defScope sBar) (by decide +kernel)) (fun _ _ _ _ _ => (pg_name (i := 9) nd rfl (Or.inl rfl))) (fun _ _ _ _ _ => (pts_one (pt_cmpR (r := rIn K false) op_in_seq (pv 9) (pv 6) (by rfl)))) (fun _ _ _ _ _ => (pv 9))) pe_int (fun _ _ => rfl)))
      (pss_cons (ps_set (i := 8) nd rfl (Or.inl rfl) (pe_lst (pa_cons (pe_callTy call_tuple_of (by rfl) T.tuple (by decide +kernel) (pa_cons (pe_slice sl_list (pv 5) po_none (po_some (pe_op op_add (pe_bm PySem.F.plainAttrs_list PySem.F.slot_list_index PySem.F.type_list_index mt_index (pv 5) (pa_cons (pv 7) pa_nil)) pe_int))) pa_nil)) (pa_cons (pe_callTy call_tuple_of (by rfl) T.tuple (by decide +kernel) (pa_cons (pe_slice sl_list (pv 6) po_none (po_some (pe_op op_add (pe_bm PySem.F.plainAttrs_list PySem.F.slot_list_index PySem.F.type_list_index mt_index (pv 6) (pa_cons (pv 7) pa_nil)) pe_int))) pa_nil)) pa_nil))))
      (pss_one (ps_ret (pe_tup (pa_cons pe_str (pa_cons (pe_callB (cr_minD rfl hu) (by rfl) T.min (by decide +kernel) (pa_cons (pv 8) pa_nil)) (pa_cons (pe_callB (cr_maxD rfl hu) (by rfl) T.max (by decide +kernel) (pa_cons (pv 8) pa_nil)) (pa_cons (pe_callTy call_list_of (by rfl) T.list (by decide +kernel) (pa_cons (pe_ix (r := rIxL K) ix_list (pv 1) (pv 2) (fun _ _ => rfl)) pa_nil)) pa_nil))))))))))), ?_⟩
  -- the two ways
  have arg : ∀ {σ : L2.St} {H2 : Hp} {x : Nat} {i : Nat}, Ex H H2 → σ[0]? = some (some v1) → σ[1]? = some (some v2) → σ[2]? = some (some v3) → σ[3]? = some (some v4) → σ[4]? = some (some v5) → ((s0 :: s1 :: rest).map natD)[i]? = some (natD x) →
      EvDA K (tCons (tVar 0) (tCons (tVar 1) (tCons (tLst (tCons (tVar 2) (tCons (tOp (rIxL K) (tVar 4) (tC (.int (i : Int)))) tNil))) (tCons (tVar 3) tNil)))) σ H2 [aboutD W.1 AB, tableD W, .list (([a] ++ [x]).map natD), .int (b : Int)] := fun e g0 g1 g2 g3 g4 hx =>
    eda_cons (ed_var g0 (ex_dp e hv1)) (eda_cons (ed_var g1 (ex_dp e hv2)) (eda_cons (evn_d (en_lst (eda_cons (ed_var g2 (ex_dp e hv3)) (eda_cons (ed_ixL (ed_var g4 (ex_dp e hv5)) ed_int (atI_nat hx)) eda_nil)))) (eda_cons (ed_var g3 (ex_dp e hv4)) eda_nil)))
  refine q_callAsg (arg (i := 0) (Ex.refl H) rfl rfl rfl rfl rfl rfl) fun vs H1 e1 hd1 => ⟨W, AB, [a], s0, b, B, h0, hb, by simp, hd1, fun p1 H2 ws1 hm1 hl1 hn1 hp1 e2 hf1 => ?_⟩
  have e12 := e1.trans e2
  refine q_callAsg (arg (i := 1) e12 rfl rfl rfl rfl rfl rfl) fun vs H3 e3 hd3 => ⟨W, AB, [a], s1, b, B, h1, hb, by simp, hd3, fun p2 H4 ws2 hm2 hl2 hn2 hp2 e4 hf2 => ?_⟩
  have e34 := e3.trans e4
  have hf1' := e34 _ _ hf1
  obtain ⟨more1, hne1, hws1⟩ := hm1
  have hd1' : ws1.drop 1 = more1 := by rw [hws1]; rfl
  have hb1 : b ∈ ws1.drop 1 := by
    rw [hd1']
    have hl : more1.getLast? = some b := by
      rw [hws1, List.getLast?_append] at hl1
      cases h : more1.getLast? with
      | none => exact absurd (List.getLast?_eq_none_iff.mp h) hne1
      | some z =>
        rw [h] at hl1
        exact hl1
    exact List.mem_of_getLast? hl
  have hb2 : b ∈ ws2 := List.mem_of_getLast? hl2
  have r5 : ∀ {y7 y8 y9 : Option V} {H5 : Hp}, Ex H4 H5 → EvD K (tVar 5) [some v1, some v2, some v3, some v4, some v5, some (.ref p1), some (.ref p2), y7, y8, y9] H5 (.list (ws1.map natD)) := fun e => ed_ref rfl (e _ _ hf1') (nats_dpA _)
  have r6 : ∀ {y7 y8 y9 : Option V} {H5 : Hp}, Ex H4 H5 → EvD K (tVar 6) [some v1, some v2, some v3, some v4, some v5, some (.ref p1), some (.ref p2), y7, y8, y9] H5 (.list (ws2.map natD)) := fun e => ed_ref rfl (e _ _ hf2) (nats_dpA _)
  -- meet
  obtain ⟨c0, r, hcr⟩ : ∃ c0 r, (ws1.drop 1).filter (fun c => decide (c ∈ ws2)) = c0 :: r := by
    cases h : (ws1.drop 1).filter (fun c => decide (c ∈ ws2)) with
    | nil =>
      have := List.filter_eq_nil_iff.mp h b hb1
      exact absurd (decide_eq_true hb2) this
    | cons x y => exact ⟨x, y, rfl⟩
  have hc0 : c0 ∈ (ws1.drop 1).filter (fun c => decide (c ∈ ws2)) := by
    rw [hcr]
    exact List.mem_cons_self
  obtain ⟨hc1, hc2⟩ := List.mem_filter.mp hc0
  have hc1 := List.mem_of_mem_drop hc1
  have hc2 := of_decide_eq_true hc2
  have hsl := en_sl (K := K) (l := some 1) (h := none) (r5 (y7 := none) (y8 := none) (y9 := none) (Ex.refl H4)) (eo_some ev_c) eo_none
  rw [cut_1] at hsl
  refine qd_asg (d := natD c0) (ed_ixL (ds := ((ws1.drop 1).filter (fun c => decide (c ∈ ws2))).map natD) (evn_d (en_lcL (ws1.drop 1) natD (fun c => decide (c ∈ ws2)) natD (evn_d hsl) (by rw [List.length_drop]; omega) (fun _ => rfl) (fun c _ x H5 e5 hx => dt_test (ed_op (ed_var rfl hx) (r6 e5) rd_inNats)) (fun c _ _ x H5 _ hx => ed_var rfl hx) (fun _ _ => rfl))) ed_int (by rw [hcr]; exact atI_nat (j := 0) rfl)) fun vm H5 e5 hvm => ?_
  rw [dp_int hvm]
  -- both
  have cut : ∀ {i : Nat} {ws : List Nat} {y8 y9 : Option V} {H6 : Hp}, c0 ∈ ws → EvD K (tVar i) [some v1, some v2, some v3, some v4, some v5, some (.ref p1), some (.ref p2), some (.int (c0 : Int)), y8, y9] H6 (.list (ws.map natD)) →
      EvD K (tCB _ (tCons (tSl (rSlL K) (tVar i) tNoPart (tPart (tOp (rI0 fun i j => .int (i + j)) (tBM K "list" (rIndex K) (tVar i) (tCons (tVar 7) tNil)) (tC (.int 1))))) tNil)) [some v1, some v2, some v3, some v4, some v5, some (.ref p1), some (.ref p2), some (.int (c0 : Int)), y8, y9] H6 (.tuple ((cutA ws none (some ((place c0 ws : Int) + 1))).map natD)) := fun hc hr' =>
    ed_tupleOf (en_sl hr' eo_none (eo_some (d_evI (ed_op (ed_index hr' (ed_var rfl (.int _)) hc) ed_int (rd_int (g := fun i j => i + j))))))
  refine qd_asg (d := .list [.tuple ((cutA ws1 none (some ((place c0 ws1 : Int) + 1))).map natD), .tuple ((cutA ws2 none (some ((place c0 ws2 : Int) + 1))).map natD)]) (evn_d (en_lst (eda_cons (cut hc1 (r5 e5)) (eda_cons (cut hc2 (r6 e5)) eda_nil)))) fun vb H6 e6 hvb => ?_
  have e16 := e12.trans (e34.trans (e5.trans e6))
  refine sd_ret (ed_tup (eda_cons ed_str (eda_cons (ed_cb (eda_cons (ed_var rfl hvb) eda_nil) rdc_min2) (eda_cons (ed_cb (eda_cons (ed_var rfl hvb) eda_nil) rdc_max2) (eda_cons (evn_d (en_list (ed_ixL (ed_var rfl (ex_dp e16 hv2)) (ed_var rfl (ex_dp e16 hv3)) (atI_nat (table_at ha))))) eda_nil))))) fun v H7 e7 hv => q v H7 _ (e16.trans e7) hv
end
end Lt

set_option maxRecDepth 100000
set_option maxHeartbeats 4000000
/-! verdict. -/
namespace Lt
open PySem PySem.Spec L2 Evl

section
variable {K : PySem.W.Frag} {σ : L2.St} {H H' : Hp} {ta tb te tc ts : TE} {tl : TA} {t u : TT} {D : Ends} {tz tw : TS}
theorem sd_retCall {sp : Sp} {E : XK} {ds : List PyData} (h : EvDA K tl σ H ds) (k : ∀ vs H1, Ex H H1 → DpAll K H1 vs ds → sp vs H1 D.rt E) : tRet (tCall sp [] E tl) D σ H :=
  h H (Ex.refl H) _ fun vs H1 e1 hd => by
    rw [List.append_nil]
    exact k vs H1 e1 hd
theorem dpA_5 {H : Hp} {vs : List V} {a b c d e : PyData} (h : DpAll K H vs [a, b, c, d, e]) : ∃ x y z w u, vs = [x, y, z, w, u] ∧ Dp K H x a ∧ Dp K H y b ∧ Dp K H z c ∧ Dp K H w d ∧ Dp K H u e := by
  cases h with
  | cons h1 h2 =>
    obtain ⟨y, z, w, u, rfl, h3, h4, h5, h6⟩ := dpA_4 h2
    exact ⟨_, y, z, w, u, rfl, h1, h3, h4, h5, h6⟩
end
def LoneAt (K : PySem.W.Frag) (H : Hp) (v : V) (W : Web) : Prop := ∃ t fv sv, v = .ref t ∧ SqT K H t [.str "lone", fv, sv] ∧ Dp K H fv (tableD W)
def BarAt (K : PySem.W.Frag) (H : Hp) (v : V) : Prop := ∃ ds, Dp K H v (.tuple (.str "barred" :: ds))
def spVer (K : PySem.W.Frag) : Sp := fun vs H Q _ => ∃ (W : Web), Good W ∧ DpAll K H vs [webD W] ∧ ∀ v H', Ex H H' → (Lone W ∧ LoneAt K H' v W ∨ ¬ Lone W ∧ BarAt K H' v) → Q v H'
def nVer : List Str := ["web", "fars", "about", "steps", "one", "row", "other", "found"]
theorem scVer : FnScope nVer ["web"] (defScope sVer) := ⟨rfl, rfl, rfl, by decide +kernel, rfl, by decide +kernel, by decide +kernel⟩
section
variable {P : Program} {w : World} {K : PySem.W.Frag} {mg : Str → Option Value} {base : Heap}
theorem ok_ver {f : Addr} {fd : FuncData} (F : Fun K "verdict" "verdict" sVer f fd) (T : Bt mg) (C1 : Cal P w K mg base "table_of" ["web"] 3 (spP K RTable)) (C2 : Cal P w K mg base "ties_about" ["web"] 3 (spAbout K)) (C3 : Cal P w K mg base "steps_to" ["about", "fars", "one", "other"] 1 (spN K RSteps)) (C4 : Cal P w K mg base "bar_between" ["about", "fars", "one", "other", "steps"] 3 (spBar K)) : FnOk P w K mg base CX0 4 f fd ["web"] (spVer K) := by
  obtain ⟨f1, fd1, G1, g1, kp1, b1⟩ := C1.ex
  obtain ⟨f2, fd2, G2, g2, kp2, b2⟩ := C2.ex
  obtain ⟨f3, fd3, G3, g3, kp3, b3⟩ := C3.ex
  obtain ⟨f4, fd4, G4, g4, kp4, b4⟩ := C4.ex
  refine F.ok scVer (fun vs H Q E ⟨_, _, h, _⟩ => dpAll_len h) (fun cdv A outer s H vs Q E hr h => ?_)
  obtain ⟨W, G, hds, q⟩ := h
  obtain ⟨v0, rfl, hv0⟩ := dpA_1 hds
  have nd := scVer.nd
  have small := G.small
  refine ⟨_, (pss_cons (ps_set (i := 1) nd rfl (Or.inl rfl) (pe_call G1 (hr.mono (by decide)) (by rfl) g1 kp1 b1 .nil pass0 (pa_cons (pv 0) pa_nil)))
      (pss_cons (ps_set (i := 2) nd rfl (Or.inl rfl) (pe_call G2 (hr.mono (by decide)) (by rfl) g2 kp2 b2 .nil pass0 (pa_cons (pv 0) pa_nil)))
      (pss_cons (ps_set (i := 3) nd rfl (Or.inl rfl) (pe_lst pa_nil))
      (pss_cons (ps_for PassesOwn.never rfl (pi_range1 rfl T.range (pa_cons (pe_ix (r := rIxT K) ix_tup (pv 0) pe_int (fun _ _ => rfl)) pa_nil)) (pg_name (i := 4) nd rfl (Or.inl rfl))
      (pss_cons (ps_set (i := 5) nd rfl (Or.inl rfl) (pe_lst pa_nil))
      (pss_cons (ps_for PassesOwn.never rfl (pi_range1 rfl T.range (pa_cons (pe_ix (r := rIxT K) ix_tup (pv 0) pe_int (fun _ _ => rfl)) pa_nil)) (pg_name (i := 6) nd rfl (Or.inl rfl))
      (pss_cons (ps_set (i := 7) nd rfl (Or.inl rfl) (pe_call G3 (hr.mono (by decide)) (by rfl) g3 kp3 b3 .nil pass0 (pa_cons (pv 2) (pa_cons (pv 1) (pa_cons (pv 4) (pa_cons (pv 6) pa_nil)))))) (Evl.pss_cut (ps_if (pt_cmpR op_eq (pv 4) (pv 6) (nomark _)) (pss_one (ps_set (i := 7) nd rfl (Or.inl rfl) (pe_lst (pa_cons pe_non pa_nil)))) pss_nil) (pss_cons (ps_if (pt_cmpR op_gt (pe_callB call_len_seq (by rfl) T.len PySem.boot_len (pa_cons (pv 7) pa_nil)) pe_int (nomark _)) (pss_one (ps_ret (pe_call G4 (hr.mono (by decide)) (by rfl) g4 kp4 b4 .nil pass0 (pa_cons (pv 2) (pa_cons (pv 1) (pa_cons (pv 4) (pa_cons (pv 6) (pa_cons (pv 7) pa_nil)))))))) pss_nil)
      (pss_one (ps_expr (pe_bm PySem.F.plainAttrs_list PySem.F.slot_list_append PySem.F.type_list_append mt_append (pv 5) (pa_cons (pe_ix (r := rIxL K) ix_list (pv 7) pe_int (fun _ _ => rfl)) pa_nil))))))))
      (pss_one (ps_expr (pe_bm PySem.F.plainAttrs_list PySem.F.slot_list_append PySem.F.type_list_append mt_append (pv 3) (pa_cons (pv 5) pa_nil)))))))
      (pss_one (ps_ret (pe_tup (pa_cons pe_str (pa_cons (pv 1) (pa_cons (pv 3) pa_nil)))))))))), ?_⟩
  refine qd_asg (ed_call (eda_cons (ed_var rfl hv0) eda_nil) ⟨W, G, rfl, rfl⟩) fun vF H1 e1 hvF => ?_
  refine q_callAsg (eda_cons (ed_var rfl (ex_dp e1 hv0)) eda_nil) fun vs H2 e2 hd2 => ⟨W, G, hd2, fun AB vA H3 hAB e3 hvA => ?_⟩
  have B : Abt W AB := ⟨G, hAB⟩
  have e13 := e1.trans (e2.trans e3)
  have hvF := ex_dp (e2.trans e3) hvF
  have hv0 := ex_dp e13 hv0
  refine qd_asgN (K := K) (en_lst eda_nil) fun S xs0 H4 hS e4 h4 hd4 => ?_
  cases hd4
  refine q_forN (n := W.1) (eda_cons (ed_ix0 (ed_var rfl (ex_dp e4 hv0))) eda_nil) (by omega)
    (fun i σ' H' => ∃ y4 y5 y6 y7 xs, σ' = [some v0, some vF, some vA, some (.ref S), y4, y5, y6, y7] ∧ Ex H3 H' ∧ H' S = some (.lst xs) ∧ xs.length = i ∧ ∀ a b, a < i → b < W.1 → a ≠ b → cnt W a b = 1)
    (fun H5 e5 => ⟨_, _, _, _, [], rfl, e4.trans e5, e5 _ _ h4, rfl, fun a b h => by omega⟩) ?_ ?_
  · rintro i σ' H' hi ⟨y4, y5, y6, y7, xs, rfl, eB, hSl, hxl, hcnt⟩
    refine qd_asgN (K := K) (en_lst eda_nil) fun R xr H5 hR e5 h5 hd5 => ?_
    cases hd5
    have hSR : S ≠ R := fun z => by
      rw [← z, hSl] at hR
      cases hR
    refine q_forN (n := W.1) (eda_cons (ed_ix0 (ed_var rfl (ex_dp (eB.trans e5) hv0))) eda_nil) (by omega)
      (fun j σ' H' => ∃ y6 y7 ys, σ' = [some v0, some vF, some vA, some (.ref S), some (.int (i : Int)), some (.ref R), y6, y7] ∧ Ex H3 H' ∧ H' S = some (.lst xs) ∧ H' R = some (.lst ys) ∧ ys.length = j ∧ ∀ b, b < j → i ≠ b → cnt W i b = 1)
      (fun H6 e6 => ⟨_, _, [], rfl, (eB.trans e5).trans e6, e6 _ _ (e5 _ _ hSl), e6 _ _ h5, rfl, fun b h => by omega⟩) ?_ ?_
    · rintro j σ' H6 hj ⟨y6, y7, ys, rfl, eB6, hS6, hR6, hyl, hcj⟩
      refine qd_asgN (en_call (ds := [aboutD W.1 AB, tableD W, .int (i : Int), .int (j : Int)]) (eda_cons (ed_var rfl (ex_dp eB6 hvA)) (eda_cons (ed_var rfl (ex_dp eB6 hvF)) (eda_cons (ed_var rfl (.int _)) (eda_cons (ed_var rfl (.int _)) eda_nil)))) ⟨W, AB, i, j, B, hi, hj, rfl, rfl⟩) fun p xp H7 hp e7 h7 hd7 => ?_
      refine q_cut (M := fun σ' H' => ∃ fv fs, σ' = [some v0, some vF, some vA, some (.ref S), some (.int (i : Int)), some (.ref R), some (.int (j : Int)), some fv] ∧ Ex H3 H' ∧ H' S = some (.lst xs) ∧ H' R = some (.lst ys) ∧ Dp K H' fv (.list fs) ∧ ((i = j ∧ fs = [.none]) ∨ (i ≠ j ∧ fs = (stepsOf W AB i j).map natD))) ?_ ?_
      · refine s_when (b := decide ((i : Int) = (j : Int))) (dt_test (K := K) (ed_op (ed_var rfl (.int _)) (ed_var rfl (.int _)) rd_eqI)) (fun hb H8 e8 => ?_) fun hb H8 e8 => ?_
        · have hb := of_decide_eq_true hb
          refine sd_asg (K := K) (evn_d (en_lst (eda_cons ed_non eda_nil))) fun fv H9 e9 hfv => ?_
          exact ⟨fv, _, rfl, (eB6.trans e7).trans (e8.trans e9), e9 _ _ (e8 _ _ (e7 _ _ hS6)), e9 _ _ (e8 _ _ (e7 _ _ hR6)), hfv, .inl ⟨by omega, rfl⟩⟩
        · have hb := of_decide_eq_false hb
          exact ⟨_, _, rfl, (eB6.trans e7).trans e8, e8 _ _ (e7 _ _ hS6), e8 _ _ (e7 _ _ hR6), ex_dp e8 (.lst (sq_of h7) hd7), .inr ⟨by omega, rfl⟩⟩
      · rintro σ' H8 ⟨fv, fs, rfl, eB8, hS8, hR8, hfv, hfs⟩
        have hlen1 : 1 ≤ fs.length := by
          rcases hfs with ⟨_, rfl⟩ | ⟨ne, rfl⟩
          · exact Nat.le_refl _
          · rw [List.length_map, B.cnt hi]
            exact cnt_pos G hi hj ne
        refine q_when (b := decide ((1 : Int) < (fs.length : Int))) (dt_test (ed_op (ed_cb (eda_cons (ed_var rfl hfv) eda_nil) rdc_lenL) ed_int (rd_bl (g := fun i j => decide (j < i))))) (fun hb H9 e9 => ?_) fun hb H9 e9 => ?_
        · have hb := of_decide_eq_true hb
          rcases hfs with ⟨_, rfl⟩ | ⟨ne, rfl⟩
          · simp at hb
          · obtain ⟨s0, s1, rest, hs⟩ : ∃ s0 s1 rest, stepsOf W AB i j = s0 :: s1 :: rest := by
              cases h : stepsOf W AB i j with
              | nil =>
                rw [h] at hb
                simp at hb
              | cons x y =>
                cases y with
                | nil =>
                  rw [h] at hb
                  simp at hb
                | cons y z => exact ⟨x, y, z, rfl⟩
            have hcn : cnt W i j ≠ 1 := by
              rw [← B.cnt hi, hs]
              simp
            obtain ⟨_, ed0, _⟩ := B.step hi (show s0 ∈ stepsOf W AB i j by rw [hs]; simp)
            obtain ⟨_, ed1, _⟩ := B.step hi (show s1 ∈ stepsOf W AB i j by rw [hs]; simp)
            refine sd_retCall (eda_cons (ed_var rfl (ex_dp (eB8.trans e9) hvA)) (eda_cons (ed_var rfl (ex_dp (eB8.trans e9) hvF)) (eda_cons (ed_var rfl (.int (i : Int))) (eda_cons (ed_var rfl (.int (j : Int))) (eda_cons (ed_var rfl (ex_dp e9 hfv)) eda_nil))))) fun vs H10 e10 hd10 => ?_
            obtain ⟨u1, u2, u3, u4, u5, hvs, k1, k2, k3, k4, k5⟩ := dpA_5 hd10
            rw [hs] at k5
            refine ⟨W, AB, i, j, s0, s1, rest, B, hi, hj, (G.edge ed0).2.2.1, (G.edge ed1).2.2.1, ⟨u1, u2, u3, u4, u5, hvs, k1, k2, k3, k4, k5⟩, fun v H11 ds e11 hv => ?_⟩
            exact q v H11 (e13.trans ((eB8.trans e9).trans (e10.trans e11))) (.inr ⟨fun hl => hcn (hl i j hi hj ne), ds, hv⟩)
        · have hb := of_decide_eq_false hb
          obtain ⟨d0, dr, hd0⟩ : ∃ d0 dr, fs = d0 :: dr := by
            cases fs with
            | nil => simp at hlen1
            | cons x y => exact ⟨x, y, rfl⟩
          subst hd0
          refine sd_app (K := K) (d := d0) (e9 _ _ hR8) (ev_var rfl) (ed_ixL (ed_var rfl (ex_dp e9 hfv)) ed_int (atI_nat (j := 0) rfl)) (by omega) fun u H10 e10 hu => ?_
          have hR3 : H3 R = none := fresh_back eB hR
          refine ⟨_, _, ys ++ [u], rfl, ((eB8.trans e9).trans e10).mut hR3, by rw [upd_ne hSR]; exact e10 _ _ (e9 _ _ hS8), upd_same, by rw [List.length_append, hyl]; rfl, fun b hbj ne => ?_⟩
          by_cases e : b = j
          · subst e
            rcases hfs with ⟨z, _⟩ | ⟨_, hz⟩
            · exact absurd z ne
            · have hz2 := congrArg List.length hz
              rw [List.length_map, B.cnt hi] at hz2
              simp only [List.length_cons] at hz2 hb hlen1
              omega
          · exact hcj b (by omega) ne
    · rintro σ' H6 ⟨y6, y7, ys, rfl, eB6, hS6, hR6, hyl, hcj⟩
      refine s_app hS6 (ev_var rfl) (ev_var (v := .ref R) rfl) (by omega) fun H8 e8 => ?_
      have hS3 : H3 S = none := hS
      refine ⟨_, _, _, _, xs ++ [.ref R], rfl, (eB6.trans e8).mut hS3, upd_same, by rw [List.length_append, hxl]; rfl, fun a b ha hb ne => ?_⟩
      by_cases e : a = i
      · subst e
        exact hcj b hb ne
      · exact hcnt a b (by omega) hb ne
  · rintro σ' H' ⟨y4, y5, y6, y7, xs, rfl, eB, hSl, hxl, hcnt⟩
    refine s_retU (eu_tup (vs := [.str "lone", vF, .ref S]) (ea_cons ev_c (ea_cons (ev_var rfl) (ea_cons (ev_var rfl) ea_nil))) (by simp)) fun p H5 hp e5 h5 => ?_
    exact q _ H5 (e13.trans (eB.trans e5)) (.inl ⟨fun a b ha hb ne => hcnt a b ha hb ne, p, vF, .ref S, rfl, st_of h5, ex_dp (eB.trans e5) hvF⟩)
end
end Lt

set_option maxRecDepth 100000
set_option maxHeartbeats 4000000
/-! is_length, with_lengths, sure_web. -/
namespace Lt
open PySem PySem.Spec L2 Evl

section
variable {K : PySem.W.Frag} {σ : L2.St} {H H' : Hp} {ta tb te tc ts : TE} {tl : TA} {t u : TT} {D : Ends} {tz tw : TS} {lo hi : TO}
theorem tyx_int {v : V} {i : Int} (h : Dp K H v (.int i)) : TyX K H v (.type "int") := by
  rw [dp_int h]
  exact .base (.int i)
theorem tyx_list {v : V} {ds : List PyData} (h : Dp K H v (.list ds)) : TyX K H v (.type "list") := by
  obtain ⟨a, xs, rfl, hs, _⟩ := dp_lst h
  rcases hs with (hs | ⟨o, hs⟩) | ⟨o, its, n, h1, h2, _⟩
  · exact .base (.lst hs)
  · exact .base (.frz hs)
  · exact .kList h1 h2
theorem ed_isInt {i : Int} {T : String} {b : Bool} (ha : EvD K ta σ H (.int i)) (hk : PySem.W.kitOne K (.type "int") (.type T) = some b) : EvD K (tCB (rIsi K) (tCons ta (tCons (tC (.ty T)) tNil))) σ H (.bool b) := fun H1 a Q q =>
  ha H1 a _ fun v H2 e2 hv => ⟨v, .ty T, .type "int", .type T, b, rfl, .ty T, tyx_int hv, hk, q _ H2 e2 (.bl b)⟩
theorem ed_isList {ds : List PyData} (ha : EvD K ta σ H (.list ds)) : EvD K (tCB (rIsiT K) (tCons ta (tCons (tTup (tCons (tC (.ty "list")) (tCons (tC (.ty "tuple")) tNil))) tNil))) σ H (.bool true) := fun H1 a Q q =>
  ha H1 a _ fun v H2 e2 hv => ⟨by show 2 ≤ sizeLine; decide, fun p hp => ⟨v, p, _, .type "list", [.type "list", .type "tuple"], true, rfl, upd_same, .cons (.ty _) (.cons (.ty _) .nil), tyx_list (ex_dp (Ex.new hp) hv), rfl, q _ _ (e2.trans (Ex.new hp)) (.bl true)⟩⟩
theorem rdc_all {bs : List Bool} : RDC K (rAll K) [.list (bs.map PyData.bool)] H (.bool (bs.all id)) := fun H1 a xs hx Q q => by
  obtain ⟨z, rfl, hz⟩ := dpA_1 hx
  obtain ⟨p, ys, rfl, hs, hd⟩ := dp_lst hz
  have := dpA_bools hd
  subst this
  exact ⟨p, bs, rfl, hs, q _ H1 (Ex.refl H1) (.bl _)⟩
theorem rdc_any {bs : List Bool} : RDC K (rAny K) [.list (bs.map PyData.bool)] H (.bool (bs.any id)) := fun H1 a xs hx Q q => by
  obtain ⟨z, rfl, hz⟩ := dpA_1 hx
  obtain ⟨p, ys, rfl, hs, hd⟩ := dp_lst hz
  have := dpA_bools hd
  subst this
  exact ⟨p, bs, rfl, hs, q _ H1 (Ex.refl H1) (.bl _)⟩
theorem en_slI {ws : List Int} {l h : Option Int} (ha : EvD K ta σ H (.list (ws.map PyData.int))) (hl : EvO lo σ H l) (hh : EvO hi σ H h) : EvN K (tSl (rSlL K) ta lo hi) σ H ((cutA ws l h).map PyData.int) := fun H1 a Q q =>
  ha H1 a _ fun v H2 e2 hv => hl H2 (a.trans e2) _ fun H3 e3 => hh H3 ((a.trans e2).trans e3) _ fun H4 e4 => by
    obtain ⟨p, xs, rfl, hs, hd⟩ := dp_lst (ex_dp (e3.trans e4) hv)
    have hx := ints_dpA hd
    subst hx
    refine ⟨p, _, rfl, hs, fun r hr => q r _ _ (fresh_back (e2.trans (e3.trans e4)) hr) ((e2.trans (e3.trans e4)).trans (Ex.new hr)) upd_same ?_⟩
    rw [show cutV (ws.map V.int) l h = cutA (ws.map V.int) l h from rfl, cutA_map]
    exact dpA_ints _
theorem en_cat {ds es : List PyData} (ha : EvN K ta σ H ds) (hb : EvN K tb σ H es) (hl : ds.length + es.length ≤ 100000) : EvN K (tOp rCat ta tb) σ H (ds ++ es) := fun H1 a Q q =>
  ha H1 a _ fun p xs H2 hp e2 h2 hd => hb H2 (a.trans e2) _ fun r ys H3 hr e3 h3 hd' =>
    ⟨p, r, xs, ys, rfl, rfl, e3 _ _ h2, h3, by rw [dpAll_len hd, dpAll_len hd']; exact sz_of hl, fun l hl => q l _ _ (fresh_back (e2.trans e3) hl) ((e2.trans e3).trans (Ex.new hl)) upd_same (dpA_cat (ex_dpA (e3.trans (Ex.new hl)) hd) (ex_dpA (Ex.new hl) hd'))⟩
/-- [.. for a, b in zip(tuple, list)] -/
theorem en_lcZ {α β : Type} {g0 : TG} {vs : List Nat} (as : List α) (bs : List β) (en : α → PyData) (en' : β → PyData) (g : α × β → PyData) (hl : as.length = bs.length) (hn : as.length ≤ 40000)
    (h : EvD K ta σ H (.tuple (as.map en))) (h' : EvD K tb σ H (.list (bs.map en')))
    (hg : ∀ a b x y p H1, (a, b) ∈ as.zip bs → Ex H H1 → Dp K H1 x (en a) → Dp K H1 y (en' b) → SqT K H1 p [x, y] → ∃ σ2, EvG g0 (.ref p) (wipe σ vs) H1 σ2 ∧ wipe σ2 vs = wipe σ vs ∧ EvD K te σ2 H1 (g (a, b)))
    (hz : ∀ p, noL (g p) = true) : EvN K (tLc (iZipM K (tCons ta (tCons tb tNil))) g0 tYes te vs) σ H ((as.zip bs).map g) := fun H0 a Q q => by
  refine h H0 a _ fun v H1 e1 hd => h' H1 (a.trans e1) _ fun v' H2 e2 hd' => ?_
  obtain ⟨l, xs, rfl, hs, hx⟩ := dp_tup (ex_dp e2 hd)
  obtain ⟨l', ys, rfl, hs', hy⟩ := dp_lst hd'
  have hlx : xs.length = as.length := by rw [dpAll_len hx, List.length_map]
  have hly : ys.length = bs.length := by rw [dpAll_len hy, List.length_map]
  refine ⟨l, l', xs, ys, rfl, hs, hs', fun L hL => ?_⟩
  refine lc_it (walk_zipM (by omega)) (fun i H' => Lcw K H2 L (((as.zip bs).take i).map g) H') (lcw_start hL) (fun i H' _ p => ⟨ex_t p.2.1 hs, ex_l p.2.1 hs'⟩) (fun i x H3 H4 hi p hY => ?_) fun H' p => ?_
  · obtain ⟨T, x1, y1, rfl, hT, rfl, f1, f2⟩ := hY
    obtain ⟨d1, hd1, hx1⟩ := dpAll_at hx f1
    obtain ⟨d2, hd2, hy1⟩ := dpAll_at hy f2
    rw [List.getElem?_map, Option.map_eq_some_iff] at hd1 hd2
    obtain ⟨b1, hb1, rfl⟩ := hd1
    obtain ⟨b2, hb2, rfl⟩ := hd2
    have hzip : (as.zip bs)[i]? = some (b1, b2) := List.getElem?_zip_eq_some.mpr ⟨hb1, hb2⟩
    have p' : Lcw K H2 L (((as.zip bs).take i).map g) (upd H3 T (.tup [x1, y1])) := by
      obtain ⟨p1, p2, acc, p3, p4⟩ := p
      exact ⟨p1, p2.trans (Ex.new hT), acc, Ex.new hT _ _ p3, ex_dpA (Ex.new hT) p4⟩
    obtain ⟨σ2, g1, g2, g3⟩ := hg b1 b2 x1 y1 T _ (List.mem_of_getElem? hzip) ((a.trans (e1.trans e2)).trans p'.2.1) (ex_dp p'.2.1 hx1) (ex_dp p'.2.1 hy1) (st_of upd_same)
    refine g1 _ ⟨g2, ?_⟩
    show te σ2 _ _
    obtain ⟨p1, p2, acc, p3, p4⟩ := p'
    refine g3 _ (Ex.refl _) _ fun y H5 e5 hyv => ⟨acc, e5 _ _ p3, ?_, p1, (p2.trans e5).mut p1, acc ++ [y], upd_same, ?_⟩
    · rw [dpAll_len p4, List.length_map, List.length_take, List.length_zip]
      exact sz_lt (by omega)
    · have h5 : H5 L = some (.lst acc) := e5 _ _ p3
      rw [List.take_add_one, hzip, Option.toList_some, List.map_append]
      refine dpA_app (tu_dpA (Tu.put h5) (noLA_all fun d hd => ?_) (ex_dpA e5 p4)) (tu_dp (Tu.put h5) (hz _) hyv)
      obtain ⟨k, _, rfl⟩ := List.mem_map.mp hd
      exact hz k
  · refine lcw_end (e1.trans e2) ?_ q
    rw [List.take_of_length_le (by rw [List.length_zip]; omega)] at p
    exact p
end

/-! ### is_length -/
def lenOk (l : Int) : Bool := decide (1 ≤ l) && decide (l ≤ 10 ^ 30)
def RIsLen (ds : List PyData) (d : PyData) : Prop := ∃ l : Int, ds = [.int l] ∧ d = .bool (lenOk l)
theorem scIsLen : FnScope ["thing"] ["thing"] (defScope sIsLen) := ⟨rfl, rfl, rfl, by decide +kernel, rfl, by decide +kernel, by decide +kernel⟩
section
variable {P : Program} {w : World} {K : PySem.W.Frag} {mg : Str → Option Value} {base : Heap}
theorem ok_isLen {f : Addr} {fd : FuncData} {k : Nat} {tk : Tok} (F : Fun K "is_length" "is_length" sIsLen f fd) (T : Bt mg) (gM : mg "MOST_LENGTH" = some (.int (10 ^ 30) tk)) : FnOk P w K mg base CX0 (k + 1) f fd ["thing"] (spP K RIsLen) := by
  refine F.ok scIsLen (spP_len fun ds d ⟨l, e, _⟩ => by rw [e]; rfl) (fun cdv A outer s H vs Q E hr h => ?_)
  obtain ⟨ds, d, hds, ⟨l, rfl, rfl⟩, q⟩ := h
  obtain ⟨v0, rfl, hv0⟩ := dpA_1 hds
  refine ⟨_, (pss_one (ps_ret (pe_and (pe_callB call_isi (by rfl) T.isinstance (by decide +kernel) (pa_cons (pv 0) (pa_cons (pe_bltn (v := .ty "int") (by rfl) T.int (by decide +kernel) rfl) pa_nil))) (pe_and (pe_not (pe_callB call_isi (by rfl) T.isinstance (by decide +kernel) (pa_cons (pv 0) (pa_cons (pe_bltn (v := .ty "bool") (by rfl) T.bool (by decide +kernel) rfl) pa_nil)))) (pe_one (pe_chain op_le op_le pe_int (pv 0) (pe_glob (v := .int (10 ^ 30)) (by rfl) gM ⟨_, rfl⟩))))))), ?_⟩
  have hv := ed_var (K := K) (σ := [some v0]) (i := 0) rfl hv0
  refine sd_ret (d := .bool (lenOk l)) (EvD.is (ed_andV (ed_isInt (b := true) hv (kit_ty (by decide +kernel))) fun _ => ed_andV (ed_notV (ed_isInt (b := false) hv (kit_ty (by decide +kernel)))) fun _ => ed_chain ed_int hv ed_int (rd_bl (g := fun i j => decide (i ≤ j))) (rd_bl (g := fun i j => decide (i ≤ j)))) ?_) q
  simp [lenOk]

/-! ### with_lengths -/
def RWith (ds : List PyData) (d : PyData) : Prop := ∃ (W : Web) (ls : List Int), Good W ∧ ls.length = W.2.length ∧ (∀ l ∈ ls, 1 ≤ l ∧ l ≤ 10 ^ 30) ∧ ds = [webD W, .list (ls.map PyData.int)] ∧ d = webD (withL W ls)
def nWithL : List Str := ["web", "lengths", "length", "tie"]
theorem scWithL : FnScope nWithL ["web", "lengths"] (defScope sWithL) := ⟨rfl, rfl, rfl, by decide +kernel, rfl, by decide +kernel, by decide +kernel⟩
theorem ok_withL {f : Addr} {fd : FuncData} (F : Fun K "with_lengths" "with_lengths" sWithL f fd) (T : Bt mg) (C1 : Cal P w K mg base "is_length" ["thing"] 1 (spP K RIsLen)) : FnOk P w K mg base CX0 2 f fd ["web", "lengths"] (spP K RWith) := by
  obtain ⟨f1, fd1, G1, g1, kp1, b1⟩ := C1.ex
  refine F.ok scWithL (spP_len fun ds d ⟨W, ls, _, _, _, e, _⟩ => by rw [e]; rfl) (fun cdv A outer s H vs Q E hr h => ?_)
  obtain ⟨ds, d, hds, ⟨W, ls, G, hl, hls, rfl, rfl⟩, q⟩ := h
  obtain ⟨v0, v1, rfl, hv0, hv1⟩ := dpA_2 hds
  have nd := scWithL.nd
  have few := G.few
  refine ⟨_, (pss_cons (ps_if (PW.pt (pw_or (pt_not (pt_val (pe_callB call_isiT (by rfl) T.isinstance (by decide +kernel) (pa_cons (pv 1) (pa_cons (pe_tup (pa_cons (pe_bltn (v := .ty "list") (by rfl) T.list (by decide +kernel) rfl) (pa_cons (pe_bltn (v := .ty "tuple") (by rfl) T.tuple (by decide +kernel) rfl) pa_nil))) pa_nil))))) (pw_or1 (pt_cmpR op_ne (pe_callB call_len_seq (by rfl) T.len PySem.boot_len (pa_cons (pv 1) pa_nil)) (pe_callB call_len_seq (by rfl) T.len PySem.boot_len (pa_cons (pe_ix (r := rIxT K) ix_tup (pv 0) pe_int (fun _ _ => rfl)) pa_nil)) (nomark _))))) (pss_one ps_never) pss_nil)
      (pss_cons (ps_if (pt_not (pt_val (pe_callB (cr_all rfl) (by rfl) T.all (by decide +kernel) (pa_cons (pe_lc (own := [("length", 2)]) (g := gName 2) (tt := tYes) rfl nd (pi_list (pv 1)) (blkOk_by (own := [("length", 2)]) (N := nWithL) (sc := defScope sWithL) (by decide +kernel)) (fun _ _ _ _ _ => (pg_name (i := 2) nd rfl (Or.inl rfl))) (fun _ _ _ _ _ => pts_nil) (fun _ _ _ _ _ => (pe_call G1 (hr.mono (by decide)) (by rfl) g1 kp1 b1 .nil pass0 (pa_cons (pv 2) pa_nil)))) pa_nil)))) (pss_one ps_never) pss_nil)
      (pss_one (ps_ret (pe_tup (pa_cons (pe_ix (r := rIxT K) ix_tup (pv 0) pe_int (fun _ _ => rfl)) (pa_cons (pe_callTy call_tuple_of (by rfl) T.tuple (by decide +kernel) (pa_cons (pe_lc (own := [("length", 2), ("tie", 3)]) (g := gTup K 2 (gCons (gName 3) (gCons (gName 2) gNil))) (tt := tYes) rfl nd (pi_zipM (by rfl) T.zip (pa_cons (pe_ix (r := rIxT K) ix_tup (pv 0) pe_int (fun _ _ => rfl)) (pa_cons (pv 1) pa_nil))) (blkOk_by (own := [("length", 2), ("tie", 3)]) (N := nWithL) (sc := defScope sWithL) (by decide +kernel)) (fun _ _ _ _ _ => (pg_tup rfl (pgs_cons (pg_name (i := 3) nd rfl (Or.inl rfl)) (pgs_cons (pg_name (i := 2) nd rfl (Or.inl rfl)) pgs_nil)))) (fun _ _ _ _ _ => pts_nil) (fun _ _ _ _ _ => (pe_tup (pa_cons (pe_ix (r := rIxT K) ix_tup (pv 3) pe_int (fun _ _ => rfl)) (pa_cons (pe_ix (r := rIxT K) ix_tup (pv 3) pe_int (fun _ _ => rfl)) (pa_cons (pv 2) pa_nil)))))) pa_nil)) pa_nil))))))), ?_⟩
  have tie : ∀ {H2 : Hp} {v : V}, Dp K H2 v (webD W) → ∀ {σ : L2.St}, σ[0]? = some (some v) → EvD K (tOp (rIxT K) (tVar 0) (tC (.int 1))) σ H2 (.tuple (W.2.map tieD)) := fun hv σ h => ed_ixT (ed_var h hv) ed_int rfl
  have hlen : (((ls.map PyData.int).length : Nat) : Int) = (((W.2.map tieD).length : Nat) : Int) := by rw [List.length_map, List.length_map, hl]
  refine q_when (b := false) (et_is (et_or (a := false) (et_is (et_not (dt_B (ed_isList (ed_var rfl hv1)))) rfl) fun _ => dt_test (ed_op (ed_cb (eda_cons (ed_var rfl hv1) eda_nil) rdc_lenL) (ed_cb (eda_cons (tie hv0 rfl) eda_nil) rdc_lenT) rd_neI)) (by rw [hlen]; simp)) (fun z => nomatch z) fun _ H1 e1 => ?_
  have hall : (ls.map fun l => lenOk l).all id = true := by
    rw [List.all_eq_true]
    intro b hb
    obtain ⟨l, hm, rfl⟩ := List.mem_map.mp hb
    have := hls l hm
    show lenOk l = true
    unfold lenOk
    rw [decide_eq_true this.1, decide_eq_true this.2]
    rfl
  have hcomp : EvN K (tLc (iList K (tVar 1)) (gName 2) tYes (tCall (spP K RIsLen) [] E0 (tCons (tVar 2) tNil)) [2]) [some v0, some v1, none, none] H1 ((ls.map fun l => lenOk l).map PyData.bool) := by
    have := en_lcL (K := K) (H := H1) (j := 2) (vs := [2]) (ts := tVar 1) (t := tYes) (te := tCall (spP K RIsLen) [] E0 (tCons (tVar 2) tNil)) (σ := [some v0, some v1, none, none]) ls PyData.int (fun _ => true) (fun l => PyData.bool (lenOk l)) (ed_var rfl (ex_dp e1 hv1)) (by omega) (fun _ => rfl) (fun _ _ _ _ _ _ => et_yes) (fun l _ _ x H2 _ hx => ed_call (ds := [.int l]) (eda_cons (ed_var rfl hx) eda_nil) ⟨l, rfl, rfl⟩) (fun _ _ => rfl)
    rw [List.filter_eq_self.mpr (fun _ _ => rfl)] at this
    rw [List.map_map]
    exact this
  refine q_when (b := false) (et_is (et_not (dt_B (ed_cb (eda_cons (evn_d hcomp) eda_nil) rdc_all))) (by rw [hall]; rfl)) (fun z => nomatch z) fun _ H2 e2 => ?_
  have hv0' := ex_dp (e1.trans e2) hv0
  have hv1' := ex_dp (e1.trans e2) hv1
  refine sd_ret (d := webD (withL W ls)) (ed_tup (eda_cons (ed_ix0 (W := W) (ed_var rfl hv0')) (eda_cons (EvD.is (ed_tupleOf (en_lcZ W.2 ls tieD PyData.int (fun p => tieD (p.1.1, p.1.2.1, p.2)) hl.symm (by omega) (tie hv0' rfl) (ed_var rfl hv1') (fun a b x y p H3 hm e3 hx hy hp => ?_) (fun _ => rfl))) ?_) eda_nil))) fun v H3 e3 hv => q v H3 ((e1.trans e2).trans e3) hv
  · refine ⟨[some v0, some v1, some (.int b), some x], fun Q' q' => ?_, rfl, ?_⟩
    · rw [dp_int hy] at hp
      exact ⟨p, _, rfl, hp, rfl, _, _, rfl, _, _, rfl, rfl, q'⟩
    · exact ed_tup (eda_cons (ed_ixT (ed_var rfl hx) ed_int (atI_nat (j := 0) rfl)) (eda_cons (ed_ixT (ed_var rfl hx) ed_int (atI_nat (j := 1) rfl)) (eda_cons (ed_var rfl (.int b)) eda_nil)))
  · show _ = PyData.tuple (((W.2.zip ls).map fun p => (p.1.1, p.1.2.1, p.2)).map tieD)
    rw [List.map_map]
    rfl

/-! ### sure_web -/
def RSure (ds : List PyData) (d : PyData) : Prop := ∃ (W : Web), Good W ∧ ds = [webD W] ∧ d = webD (withL W (twos W.2.length))
def nSure : List Str := ["web", "lengths", "tie", "length"]
theorem scSure : FnScope nSure ["web"] (defScope sSure) := ⟨rfl, rfl, rfl, by decide +kernel, rfl, by decide +kernel, by decide +kernel⟩
theorem cut_nil {α : Type} : cutA ([] : List α) (some (-1)) none = [] := rfl
theorem cut_last {α : Type} (xs : List α) (y : α) : cutA (xs ++ [y]) (some (-1)) none = [y] := by
  unfold cutA
  have h : HT.sIx (xs ++ [y]).length 0 (some (-1)) = xs.length := by
    show (if (-1 : Int) < 0 then ((-1 : Int) + ((xs ++ [y]).length : Int)).toNat else min (-1 : Int).toNat (xs ++ [y]).length) = xs.length
    rw [if_pos (by omega), List.length_append, List.length_singleton]
    omega
  rw [h, HT.sIx_none, List.drop_left]
  exact List.take_of_length_le (by simp)
theorem twos_succ (i : Nat) : twos (i + 1) = twos i ++ [((2 ^ i : Nat) : Int)] := by
  unfold twos
  rw [List.range_succ, List.map_append]
  rfl
theorem twos_len (i : Nat) : (twos i).length = i := by
  unfold twos
  rw [List.length_map, List.length_range]
theorem ok_sure {f : Addr} {fd : FuncData} {tk : Tok} (F : Fun K "sure_web" "sure_web" sSure f fd) (T : Bt mg) (gM : mg "MOST_DOUBLED" = some (.int 99 tk)) (C1 : Cal P w K mg base "with_lengths" ["web", "lengths"] 2 (spP K RWith)) : FnOk P w K mg base CX0 3 f fd ["web"] (spP K RSure) := by
  obtain ⟨f1, fd1, G1, g1, kp1, b1⟩ := C1.ex
  refine F.ok scSure (spP_len fun ds d ⟨W, _, e, _⟩ => by rw [e]; rfl) (fun cdv A outer s H vs Q E hr h => ?_)
  obtain ⟨ds, d, hds, ⟨W, G, rfl, rfl⟩, q⟩ := h
  obtain ⟨v0, rfl, hv0⟩ := dpA_1 hds
  obtain ⟨w0, at0, xs, Wa⟩ := web_at hv0
  have nd := scSure.nd
  have few := G.few
  refine ⟨_, (pss_cons (ps_if (pt_cmpR op_gt (pe_callB call_len_seq (by rfl) T.len PySem.boot_len (pa_cons (pe_ix (r := rIxT K) ix_tup (pv 0) pe_int (fun _ _ => rfl)) pa_nil)) (pe_glob (v := .int 99) (by rfl) gM ⟨_, rfl⟩) (nomark _)) (pss_one ps_never) pss_nil)
      (pss_cons (ps_set (i := 1) nd rfl (Or.inl rfl) (pe_lst pa_nil))
      (pss_cons (ps_for PassesOwn.never rfl (pi_tup (pe_ix (r := rIxT K) ix_tup (pv 0) pe_int (fun _ _ => rfl))) (pg_name (i := 2) nd rfl (Or.inl rfl))
      (pss_one (ps_expr (pe_bm PySem.F.plainAttrs_list PySem.F.slot_list_append PySem.F.type_list_append mt_append (pv 1) (pa_cons (pe_ix (r := rIxL K) ix_list (pe_op op_cat (pe_lst (pa_cons pe_int pa_nil)) (pe_lc (own := [("length", 3)]) (g := gName 3) (tt := tYes) rfl nd (pi_list (pe_slice sl_list (pv 1) (po_some (pe_un un_neg pe_int)) po_none)) (blkOk_by (own := [("length", 3)]) (N := nSure) (sc := defScope sSure) (by decide +kernel)) (fun _ _ _ _ _ => (pg_name (i := 3) nd rfl (Or.inl rfl))) (fun _ _ _ _ _ => pts_nil) (fun _ _ _ _ _ => (pe_op op_mul pe_int (pv 3))))) (pe_un un_neg pe_int) (fun _ _ => rfl)) pa_nil)))))
      (pss_one (ps_ret (pe_call G1 (hr.mono (by decide)) (by rfl) g1 kp1 b1 .nil pass0 (pa_cons (pv 0) (pa_cons (pv 1) pa_nil)))))))), ?_⟩
  have tie : EvD K (tOp (rIxT K) (tVar 0) (tC (.int 1))) [some v0, none, none, none] H (.tuple (W.2.map tieD)) := ed_ixT (ed_var rfl hv0) ed_int rfl
  refine q_when (b := false) (et_is (dt_test (ed_op (ed_cb (eda_cons tie eda_nil) rdc_lenT) (ed_c fun _ => .int 99) (rd_bl (g := fun i j => decide (j < i))))) (by rw [List.length_map]; exact decide_eq_false (by omega))) (fun z => nomatch z) fun _ H1 e1 => ?_
  refine qd_asgN (K := K) (en_lst eda_nil) fun L xl H2 hL e2 h2 hd2 => ?_
  cases hd2
  have hxl : xs.length = W.2.length := by rw [dpAll_len Wa.each, List.length_map]
  refine q_forT (ev_ix1 rfl (Wa.ex (e1.trans e2))) (ex_t (e1.trans e2) Wa.ties) (fun i σ' H' => ∃ y2 y3, σ' = [some v0, some (.ref L), y2, y3] ∧ Ex H1 H' ∧ H' L = some (.lst ((twos i).map V.int))) (fun H3 e3 => ⟨_, _, rfl, e2.trans e3, e3 _ _ h2⟩) (fun i σ' H' _ ⟨_, _, _, e, _⟩ => ex_t (e1.trans e) Wa.ties) ?_ ?_
  · rintro i x σ' H' hi ⟨y2, y3, rfl, eB, hl⟩
    have hil : i < W.2.length := by
      rw [← hxl]
      exact (List.getElem?_eq_some_iff.mp hi).1
    have h30 : (2 ^ i : Nat) ≤ 2 ^ 40 := Nat.pow_le_pow_right (by omega) (by omega)
    have rl : EvD K (tVar 1) [some v0, some (.ref L), some x, y3] H' (.list ((twos i).map PyData.int)) := ed_ref rfl hl (dpA_ints _)
    have sl := en_slI (K := K) (l := some (-1)) (h := none) rl (eo_some (d_evI (K := K) (ed_neg ed_int))) eo_none
    have comp : EvN K (tLc (iList K (tSl (rSlL K) (tVar 1) (tPart (tUn (rU fun i => .int (-i)) (tC (.int 1)))) tNoPart)) (gName 3) tYes (tOp (rI CMul fun i j => .int (i * j)) (tC (.int 2)) (tVar 3)) [3]) [some v0, some (.ref L), some x, y3] H' ((cutA (twos i) (some (-1)) none).map fun l => PyData.int (2 * l)) := by
      have := en_lcL (K := K) (H := H') (j := 3) (vs := [3]) (t := tYes) (te := tOp (rI CMul fun i j => .int (i * j)) (tC (.int 2)) (tVar 3)) (σ := [some v0, some (.ref L), some x, y3]) (cutA (twos i) (some (-1)) none) PyData.int (fun _ => true) (fun l => PyData.int (2 * l)) (evn_d sl) (by have := cutA_le (twos i) (some (-1)) none; rw [twos_len] at this; omega) (fun _ => rfl) (fun _ _ _ _ _ _ => et_yes) (fun l _ _ x H2 _ hx => ed_op ed_int (ed_var rfl hx) (rd_intC (g := fun i j => i * j) (.inl ⟨by decide, by decide⟩))) (fun _ _ => rfl)
      rw [List.filter_eq_self.mpr (fun _ _ => rfl)] at this
      exact this
    have key : atI ([PyData.int 1] ++ (cutA (twos i) (some (-1)) none).map fun l => PyData.int (2 * l)) (-1) = some (.int ((2 ^ i : Nat) : Int)) := by
      cases i with
      | zero => rfl
      | succ k =>
        rw [twos_succ, cut_last]
        have e2 : (2 : Int) * ((2 ^ k : Nat) : Int) = ((2 ^ (k + 1) : Nat) : Int) := by
          rw [Nat.pow_succ]
          omega
        rw [List.map_singleton, e2]
        exact atI_last _ _
    refine sd_app (K := K) (d := .int ((2 ^ i : Nat) : Int)) hl (ev_var rfl) (ed_ixL (evn_d (en_cat (en_lst (eda_cons ed_int eda_nil)) comp (by have := cutA_le (twos i) (some (-1)) none; rw [twos_len] at this; rw [List.length_map]; simp; omega))) (ed_neg ed_int) key) (by rw [List.length_map, twos_len]; omega) fun u H3 e3 hu => ?_
    rw [dp_int hu]
    refine ⟨_, _, rfl, (eB.trans e3).mut hL, ?_⟩
    rw [upd_same, twos_succ, List.map_append]
    rfl
  · rintro σ' H' ⟨y2, y3, rfl, eB, hl⟩
    rw [hxl] at hl
    have T2 := sure_twos G few
    have hle : ∀ l ∈ twos W.2.length, 1 ≤ l ∧ l ≤ 10 ^ 30 := fun l hm => by
      unfold twos at hm
      obtain ⟨i, hi, rfl⟩ := List.mem_map.mp hm
      rw [List.mem_range] at hi
      have h1 := Nat.two_pow_pos i
      have h2 : 2 ^ i ≤ 2 ^ 40 := Nat.pow_le_pow_right (by omega) (by omega)
      have h3 : (2 ^ 40 : Nat) ≤ 10 ^ 30 := by decide
      have h4 : ((10 ^ 30 : Nat) : Int) = 10 ^ 30 := by decide
      refine ⟨by omega, ?_⟩
      rw [← h4]
      omega
    exact sd_ret (ed_call (ds := [webD W, .list ((twos W.2.length).map PyData.int)]) (eda_cons (ed_var rfl (ex_dp (e1.trans eB) hv0)) (eda_cons (ed_ref rfl hl (dpA_ints _)) eda_nil)) ⟨W, _, G, twos_len _, hle, rfl, rfl⟩) fun v H3 e3 hv => q v H3 ((e1.trans eB).trans e3) hv
end
end Lt

set_option maxRecDepth 100000
set_option maxHeartbeats 4000000
/-! _law_far. -/
namespace Lt
open PySem PySem.Spec L2 Evl

def rowO (M : Map2) (n a : Nat) : List PyData := (List.range n).map fun b => optD (M a b)
theorem rowO_at {M : Map2} {n a b : Nat} (h : b < n) : (rowO M n a)[b]? = some (optD (M a b)) := by
  unfold rowO
  rw [List.getElem?_map, List.getElem?_range h]
  rfl
theorem rowO_len (M : Map2) (n a : Nat) : (rowO M n a).length = n := by
  unfold rowO
  rw [List.length_map, List.length_range]
theorem rowO_noL (M : Map2) (n a : Nat) : noLA (rowO M n a) = true := noLA_all fun d hd => by
  obtain ⟨b, _, rfl⟩ := List.mem_map.mp hd
  show noL (optD (M a b)) = true
  cases M a b <;> rfl
theorem rowO_put {M : Map2} {n a b : Nat} {v : Option Int} : (rowO M n a).set b (optD v) = rowO (putM M a b v) n a := by
  apply List.ext_getElem?
  intro j
  rw [List.getElem?_set]
  unfold rowO
  rw [List.getElem?_map, List.getElem?_map, List.length_map, List.length_range]
  by_cases hj : j < n
  · rw [List.getElem?_range hj]
    show _ = some (optD (putM M a b v a j))
    unfold putM
    by_cases e : b = j
    · rw [if_pos e, if_pos (by omega), if_pos ⟨rfl, e.symm⟩]
    · rw [if_neg e, if_neg (fun z => e z.2.symm)]
      rfl
  · rw [List.getElem?_eq_none (by rw [List.length_range]; omega)]
    by_cases e : b = j
    · rw [if_pos e, if_neg (by omega)]
      rfl
    · rw [if_neg e]
      rfl
theorem rowO_other {M : Map2} {n a b i : Nat} {v : Option Int} (h : i ≠ a) : rowO (putM M a b v) n i = rowO M n i := by
  unfold rowO
  refine List.map_congr_left fun j _ => ?_
  unfold putM
  rw [if_neg (fun z => h z.1)]

section
variable {K : PySem.W.Frag} {σ : L2.St} {H H' : Hp} {ta tb te tc ts : TE} {tl : TA} {t u : TT} {D : Ends} {tz tw : TS}
theorem dpA_set {v : V} {d : PyData} (hv : Dp K H v d) : ∀ {xs : List V} {ds : List PyData} (i : Nat), DpAll K H xs ds → DpAll K H (xs.set i v) (ds.set i d)
  | _, _, _, .nil => .nil
  | _, _, 0, .cons _ a => .cons hv a
  | _, _, i + 1, .cons h a => .cons h (dpA_set hv i a)
/-- m[a][b], read and stored, m a matrix of rows f -/
theorem ed_cell {H0 : Hp} {L : Addr} {ps : List Addr} {n a b j1 j2 j3 : Nat} {f : Nat → List PyData} {d : PyData} (m : Mat K H0 H L ps n f) (ha : a < n) (h1 : σ[j1]? = some (some (.ref L))) (h2 : σ[j2]? = some (some (.int (a : Int)))) (h3 : σ[j3]? = some (some (.int (b : Int)))) (hd : (f a)[b]? = some d) : EvD K (tOp (rIxL K) (tOp (rIxL K) (tVar j1) (tVar j2)) (tVar j3)) σ H d := by
  obtain ⟨p, xs, hp, g1, g2, _⟩ := m.at ha
  exact ed_ixL (ev_d (ev_row m hp h1 h2) (.lst (sq_of g1) g2)) (ed_var h3 (.int _)) (atI_nat hd)
theorem sd_cell {H0 : Hp} {L : Addr} {ps : List Addr} {n a b j1 j2 j3 : Nat} {f : Nat → List PyData} {d : PyData} (m : Mat K H0 H L ps n f) (ha : a < n) (hb : b < (f a).length) (h1 : σ[j1]? = some (some (.ref L))) (h2 : σ[j2]? = some (some (.int (a : Int)))) (h3 : σ[j3]? = some (some (.int (b : Int)))) (h : EvD K te σ H d) (hn : noL d = true)
    (k : ∀ H2, Mat K H0 H2 L ps n (fun i => if i = a then (f a).set b d else f i) → D.nx σ H2) : tAsg te (gSub (tOp (rIxL K) (tVar j1) (tVar j2)) (tVar j3) rSetL) D σ H := by
  obtain ⟨p, xs, hp, g1, g2, _⟩ := m.at ha
  refine sd_set (K := K) (j := b) g1 h (ev_row m hp h1 h2) (ed_var h3 (.int _)) (by rw [dpAll_len g2]; exact hb) fun v H1 e1 hv => k _ ?_
  refine (m.mono e1).put hp (e1 _ _ g1) (dpA_set hv b (ex_dpA e1 g2)) ?_
  have := m.noL a ha
  refine noLA_all fun x hx => ?_
  rcases List.mem_or_eq_of_mem_set hx with q | q
  · have all : ∀ {l : List PyData}, noLA l = true → ∀ y ∈ l, noL y = true := by
      intro l
      induction l with
      | nil => intro _ y hy; cases hy
      | cons z r ih =>
        intro hl y hy
        simp only [noLA, Bool.and_eq_true] at hl
        rcases List.mem_cons.mp hy with e | hy
        · rw [e]
          exact hl.1
        · exact ih hl.2 y hy
    exact all this x q
  · rw [q]
    exact hn
theorem qd_cell {H0 : Hp} {L : Addr} {ps : List Addr} {n a b j1 j2 j3 : Nat} {f : Nat → List PyData} {d : PyData} (m : Mat K H0 H L ps n f) (ha : a < n) (hb : b < (f a).length) (h1 : σ[j1]? = some (some (.ref L))) (h2 : σ[j2]? = some (some (.int (a : Int)))) (h3 : σ[j3]? = some (some (.int (b : Int)))) (h : EvD K te σ H d) (hn : noL d = true)
    (k : ∀ H2, Mat K H0 H2 L ps n (fun i => if i = a then (f a).set b d else f i) → tz D σ H2) : tSeq (tAsg te (gSub (tOp (rIxL K) (tVar j1) (tVar j2)) (tVar j3) rSetL)) tz D σ H :=
  sd_cell (D := { D with nx := tz D }) m ha hb h1 h2 h3 h hn k
theorem mat_putO {H0 : Hp} {L : Addr} {ps : List Addr} {n a b : Nat} {M : Map2} {v : Option Int} (m : Mat K H0 H L ps n (fun i => if i = a then (rowO M n a).set b (optD v) else rowO M n i)) : Mat K H0 H L ps n (rowO (putM M a b v) n) := m.same fun i _ => by
  by_cases e : i = a
  · subst e
    rw [if_pos rfl, rowO_put]
  · rw [if_neg e, rowO_other e]
theorem noL_opt (v : Option Int) : noL (optD v) = true := by
  cases v <;> rfl
theorem qd_two {i j n : Nat} {x y : PyData} {v : V} (hv : Dp K H v (.tuple [x, y])) (h : σ[0]? = some (some v)) (k : ∀ u w, Dp K H u x → Dp K H w y → tz D ((σ.set i (some u)).set j (some w)) H) (hn : 2 = n := by rfl) : tSeq (tAsg (tVar 0) (gTup K n (gCons (gName i) (gCons (gName j) gNil)))) tz D σ H := by
  obtain ⟨a, ys, rfl, h1, h2⟩ := dp_tup hv
  obtain ⟨u, w, rfl, g1, g2⟩ := dpA_2 h2
  exact ⟨.ref a, h, a, _, rfl, h1, hn, u, _, rfl, w, _, rfl, rfl, k u w g1 g2⟩
end

def RFarL (ds : List PyData) (d : PyData) : Prop := ∃ W, Good W ∧ ds = [webD W] ∧ d = tableD W
def nFar : List Str := ["web", "many", "ties", "place", "far", "a", "b", "length", "mid", "road"]
theorem scFar : FnScope nFar ["web"] (defScope sFar) := ⟨rfl, rfl, rfl, by decide +kernel, rfl, by decide +kernel, by decide +kernel⟩
section
variable {P : Program} {w : World} {K : PySem.W.Frag} {mg : Str → Option Value} {base : Heap}
theorem ok_far {f : Addr} {fd : FuncData} {k : Nat} (F : Fun K "_law_far" "_law_far" sFar f fd) (T : Bt mg) : FnOk P w K mg base CX0 (k + 1) f fd ["web"] (spP K RFarL) := by
  refine F.ok scFar (spP_len fun ds d ⟨W, _, e, _⟩ => by rw [e]; rfl) (fun cdv A outer s H vs Q E hr h => ?_)
  obtain ⟨ds, d, hds, ⟨W, G, rfl, rfl⟩, q⟩ := h
  obtain ⟨v0, rfl, hv0⟩ := dpA_1 hds
  have nd := scFar.nd
  have small := G.small
  have few := G.few
  refine ⟨_, (pss_cons (ps_asg (pv 0) (pg_tup rfl (pgs_cons (pg_name (i := 1) nd rfl (Or.inr rfl)) (pgs_cons (pg_name (i := 2) nd rfl (Or.inl rfl)) pgs_nil))))
      (pss_cons (ps_setLc (i := 4) (own := [("place", 3)]) (g := gName 3) (tt := tYes) rfl nd rfl rfl (sw_true rfl rfl rfl (by decide +kernel)) (pi_range1 rfl T.range (pa_cons (pv 1) pa_nil)) (blkOk_by (own := [("place", 3)]) (N := nFar) (sc := defScope sFar) (by decide +kernel)) (fun _ _ _ _ _ => (pg_name (i := 3) nd rfl (Or.inl rfl))) (fun _ _ _ _ _ => pts_nil) (fun _ _ _ _ _ => (pe_op op_rep (pe_lst (pa_cons pe_non pa_nil)) (pv 1))))
      (pss_cons (ps_for PassesOwn.never rfl (pi_range1 rfl T.range (pa_cons (pv 1) pa_nil)) (pg_name (i := 3) nd rfl (Or.inl rfl))
      (pss_one (ps_asg pe_int (pg_sub (pe_ix (r := rIxL K) ix_list (pv 4) (pv 3) (fun _ _ => rfl)) (pv 3) set_list))))
      (pss_cons (ps_for PassesOwn.never rfl (pi_tup (pv 2)) (pg_tup rfl (pgs_cons (pg_name (i := 5) nd rfl (Or.inl rfl)) (pgs_cons (pg_name (i := 6) nd rfl (Or.inl rfl)) (pgs_cons (pg_name (i := 7) nd rfl (Or.inl rfl)) pgs_nil))))
      (pss_cons (ps_asg (pv 7) (pg_sub (pe_ix (r := rIxL K) ix_list (pv 4) (pv 5) (fun _ _ => rfl)) (pv 6) set_list))
      (pss_one (ps_asg (pv 7) (pg_sub (pe_ix (r := rIxL K) ix_list (pv 4) (pv 6) (fun _ _ => rfl)) (pv 5) set_list)))))
      (pss_cons (ps_for PassesOwn.never rfl (pi_range1 rfl T.range (pa_cons (pv 1) pa_nil)) (pg_name (i := 8) nd rfl (Or.inl rfl))
      (pss_one (ps_for PassesOwn.never rfl (pi_range1 rfl T.range (pa_cons (pv 1) pa_nil)) (pg_name (i := 5) nd rfl (Or.inl rfl))
      (pss_one (ps_if (pt_cmpR op_notN (pe_ix (r := rIxL K) ix_list (pe_ix (r := rIxL K) ix_list (pv 4) (pv 5) (fun _ _ => rfl)) (pv 8) (fun _ _ => rfl)) pe_non (nomark _)) (pss_one (ps_for PassesOwn.never rfl (pi_range1 rfl T.range (pa_cons (pv 1) pa_nil)) (pg_name (i := 6) nd rfl (Or.inl rfl))
      (pss_one (ps_if (pt_cmpR op_notN (pe_ix (r := rIxL K) ix_list (pe_ix (r := rIxL K) ix_list (pv 4) (pv 8) (fun _ _ => rfl)) (pv 6) (fun _ _ => rfl)) pe_non (nomark _)) (pss_cons (ps_set (i := 9) nd rfl (Or.inl rfl) (pe_op op_add (pe_ix (r := rIxL K) ix_list (pe_ix (r := rIxL K) ix_list (pv 4) (pv 5) (fun _ _ => rfl)) (pv 8) (fun _ _ => rfl)) (pe_ix (r := rIxL K) ix_list (pe_ix (r := rIxL K) ix_list (pv 4) (pv 8) (fun _ _ => rfl)) (pv 6) (fun _ _ => rfl))))
      (pss_one (ps_if (PW.pt (pw_or (pt_cmpR op_isN (pe_ix (r := rIxL K) ix_list (pe_ix (r := rIxL K) ix_list (pv 4) (pv 5) (fun _ _ => rfl)) (pv 6) (fun _ _ => rfl)) pe_non (nomark _)) (pw_or1 (pt_cmpR op_lt (pv 9) (pe_ix (r := rIxL K) ix_list (pe_ix (r := rIxL K) ix_list (pv 4) (pv 5) (fun _ _ => rfl)) (pv 6) (fun _ _ => rfl)) (nomark _))))) (pss_one (ps_asg (pv 9) (pg_sub (pe_ix (r := rIxL K) ix_list (pv 4) (pv 5) (fun _ _ => rfl)) (pv 6) set_list))) pss_nil))) pss_nil)))) pss_nil)))))
      (pss_one (ps_ret (pv 4)))))))), ?_⟩
  refine qd_two hv0 rfl fun u tv hu htv => ?_
  rw [dp_int hu]
  obtain ⟨ta, xs, rfl, hst, hxt⟩ := dp_tup htv
  have many : ∀ {σ : L2.St} {H2 : Hp}, σ[1]? = some (some (.int (W.1 : Int))) → EvDA K (tCons (tVar 1) tNil) σ H2 [.int (W.1 : Int)] := fun h => eda_cons (ed_var h (.int _)) eda_nil
  -- far = [[None] * many ..]
  refine qd_asgT (mat_lc (n := W.1) (f := fun _ => (List.replicate W.1 [PyData.none]).flatten) (many rfl) (by omega) (fun _ => rfl) (fun i _ => en_rep (en_lst (eda_cons ed_non eda_nil)) (ed_var rfl (.int _)) (by omega)) (fun i _ => ?_) fun L ps H1 m => ?_)
  · rw [flat_rep]
    exact noLA_all fun d hd => by rw [List.eq_of_mem_replicate hd]; rfl
  have m0 : Mat K H H1 L ps W.1 (rowO (fun _ _ => none) W.1) := m.same fun i _ => by
    rw [flat_rep]
    unfold rowO
    rw [List.map_const', List.length_range]
    rfl
  -- far[place][place] = 0
  refine q_forN (n := W.1) (many rfl) (by omega) (fun i σ' H' => ∃ y3 y5 y6 y7 y8 y9 M, σ' = [some v0, some (.int (W.1 : Int)), some (.ref ta), y3, some (.ref L), y5, y6, y7, y8, y9] ∧ Mat K H H' L ps W.1 (rowO M W.1) ∧ ∀ a b, M a b = if a = b ∧ a < i then some 0 else none)
    (fun H2 e2 => ⟨_, _, _, _, _, _, _, rfl, m0.mono e2, fun a b => by rw [if_neg (by omega)]⟩) ?_ ?_
  · rintro i σ' H' hi ⟨y3, y5, y6, y7, y8, y9, M, rfl, m, hM⟩
    refine sd_cell (K := K) (d := optD (some 0)) m hi (by rw [rowO_len]; exact hi) rfl rfl rfl ed_int rfl fun H2 m2 => ⟨_, _, _, _, _, _, putM M i i (some 0), rfl, mat_putO m2, fun a b => ?_⟩
    unfold putM
    by_cases e : a = i ∧ b = i
    · rw [if_pos e, if_pos (by omega)]
    · rw [if_neg e, hM]
      by_cases e2 : a = b ∧ a < i
      · rw [if_pos e2, if_pos (by omega)]
      · rw [if_neg e2, if_neg (by omega)]
  rintro σ' H2 ⟨y3, y5, y6, y7, y8, y9, M, rfl, m, hM⟩
  have F0 : Fw0 W [] M := by
    refine ⟨fun a ha => by rw [hM, if_pos ⟨rfl, ha⟩], fun a b x h => ?_, fun a b x h => nomatch h⟩
    rw [hM] at h
    split at h
    · rename_i e
      injection h with h
      exact .inl ⟨e.1, h.symm⟩
    · cases h
  -- the ties
  refine q_forT3 (ts := W.2) hst hxt (ev_var rfl) (fun i σ' H' => ∃ y3 y5 y6 y7 y8 y9 M, σ' = [some v0, some (.int (W.1 : Int)), some (.ref ta), y3, some (.ref L), y5, y6, y7, y8, y9] ∧ Mat K H H' L ps W.1 (rowO M W.1) ∧ Fw0 W (W.2.take i) M) (fun i σ' H' ⟨_, _, _, _, _, _, _, _, m, _⟩ => m.ex) (fun H3 e3 => ⟨_, _, _, _, _, _, M, rfl, m.mono e3, F0⟩) ?_ ?_
  · rintro i t σ' H' hi ⟨y3, y5, y6, y7, y8, y9, M, rfl, m, F⟩
    obtain ⟨t1, t2, _⟩ := G.tie t (List.mem_of_getElem? hi)
    refine qd_cell (K := K) (d := optD (some t.2.2)) m (by omega) (by rw [rowO_len]; exact t2) rfl rfl rfl (ed_var rfl (.int _)) rfl fun H3 m3 => ?_
    refine sd_cell (K := K) (d := optD (some t.2.2)) (mat_putO m3) t2 (by rw [rowO_len]; omega) rfl rfl rfl (ed_var rfl (.int _)) rfl fun H4 m4 => ⟨_, _, _, _, _, _, _, rfl, mat_putO m4, ?_⟩
    have hs : W.2 = W.2.take i ++ t :: W.2.drop (i + 1) := by
      have h1 := (List.getElem?_eq_some_iff.mp hi)
      obtain ⟨h1, h2⟩ := h1
      rw [← h2, List.getElem_cons_drop, List.take_append_drop]
    have et : W.2.take (i + 1) = W.2.take i ++ [t] := by rw [List.take_add_one, hi]; rfl
    rw [et]
    exact fw0_put G hs F
  rintro σ' H3 ⟨y3, y5, y6, y7, y8, y9, M, rfl, m, F⟩
  rw [List.take_length] at F
  have Fs := fw0_end G F
  -- each place between
  refine q_forN (n := W.1) (many rfl) (by omega) (fun i σ' H' => ∃ y3 y5 y6 y7 y8 y9 M, σ' = [some v0, some (.int (W.1 : Int)), some (.ref ta), y3, some (.ref L), y5, y6, y7, y8, y9] ∧ Mat K H H' L ps W.1 (rowO M W.1) ∧ Fw W i 0 0 M) (fun H4 e4 => ⟨_, _, _, _, _, _, M, rfl, m.mono e4, Fs⟩) ?_ ?_
  · rintro mid σ' H' hmid ⟨y3, y5, y6, y7, y8, y9, M, rfl, m, F⟩
    refine s_forN (n := W.1) (many rfl) (by omega) (fun a σ' H' => ∃ y3 y5 y6 y7 y9 M, σ' = [some v0, some (.int (W.1 : Int)), some (.ref ta), y3, some (.ref L), y5, y6, y7, some (.int (mid : Int)), y9] ∧ Mat K H H' L ps W.1 (rowO M W.1) ∧ Fw W mid a 0 M) (fun H4 e4 => ⟨_, _, _, _, _, M, rfl, m.mono e4, F⟩) ?_ (fun σ' H' ⟨_, _, _, _, _, M, e, m, F⟩ => ⟨_, _, _, _, _, _, M, e, m, fw_mid F⟩)
    rintro a σ' H' ha ⟨y3, y5, y6, y7, y9, M, rfl, m, F⟩
    have c1 : ∀ {σ : L2.St} {M : Map2} {H5 : Hp}, σ[4]? = some (some (.ref L)) → σ[5]? = some (some (.int (a : Int))) → σ[8]? = some (some (.int (mid : Int))) → Mat K H H5 L ps W.1 (rowO M W.1) → EvD K (tOp (rIxL K) (tOp (rIxL K) (tVar 4) (tVar 5)) (tVar 8)) σ H5 (optD (M a mid)) := fun h1 h2 h3 m => ed_cell m ha h1 h2 h3 (rowO_at hmid)
    refine s_when (b := !isN (optD (M a mid))) (dt_test (ed_op (c1 rfl rfl rfl m) ed_non rd_notN)) (fun hb H5 e5 => ?_) fun hb H5 e5 => ⟨_, _, _, _, _, M, rfl, m.mono e5, ?_⟩
    · obtain ⟨r0, hr0⟩ : ∃ r, M a mid = some r := by
        cases h : M a mid with
        | none =>
          rw [h] at hb
          cases hb
        | some r => exact ⟨r, rfl⟩
      refine s_forN (n := W.1) (many rfl) (by omega) (fun b σ' H' => ∃ y3 y6 y7 y9 M, σ' = [some v0, some (.int (W.1 : Int)), some (.ref ta), y3, some (.ref L), some (.int (a : Int)), y6, y7, some (.int (mid : Int)), y9] ∧ Mat K H H' L ps W.1 (rowO M W.1) ∧ Fw W mid a b M ∧ ∃ r, M a mid = some r) (fun H6 e6 => ⟨_, _, _, _, M, rfl, (m.mono e5).mono e6, F, r0, hr0⟩) ?_ (fun σ' H' ⟨_, _, _, _, M, e, m, F, _⟩ => ⟨_, _, _, _, _, M, e, m, fw_row F⟩)
      rintro b σ' H' hb' ⟨y3, y6, y7, y9, M, rfl, m, F, r, hr1⟩
      have c2 : ∀ {σ : L2.St} {M : Map2} {H5 : Hp}, σ[4]? = some (some (.ref L)) → σ[8]? = some (some (.int (mid : Int))) → σ[6]? = some (some (.int (b : Int))) → Mat K H H5 L ps W.1 (rowO M W.1) → EvD K (tOp (rIxL K) (tOp (rIxL K) (tVar 4) (tVar 8)) (tVar 6)) σ H5 (optD (M mid b)) := fun h1 h2 h3 m => ed_cell m hmid h1 h2 h3 (rowO_at hb')
      have c3 : ∀ {σ : L2.St} {M : Map2} {H5 : Hp}, σ[4]? = some (some (.ref L)) → σ[5]? = some (some (.int (a : Int))) → σ[6]? = some (some (.int (b : Int))) → Mat K H H5 L ps W.1 (rowO M W.1) → EvD K (tOp (rIxL K) (tOp (rIxL K) (tVar 4) (tVar 5)) (tVar 6)) σ H5 (optD (M a b)) := fun h1 h2 h3 m => ed_cell m ha h1 h2 h3 (rowO_at hb')
      refine s_when (b := !isN (optD (M mid b))) (dt_test (ed_op (c2 rfl rfl rfl m) ed_non rd_notN)) (fun hbb H6 e6 => ?_) fun hbb H6 e6 => ⟨_, _, _, _, M, rfl, m.mono e6, ?_, r, hr1⟩
      · obtain ⟨s0, hs0⟩ : ∃ r, M mid b = some r := by
          cases h : M mid b with
          | none =>
            rw [h] at hbb
            cases hbb
          | some r => exact ⟨r, rfl⟩
        have d1 := c1 (σ := [some v0, some (.int (W.1 : Int)), some (.ref ta), y3, some (.ref L), some (.int (a : Int)), some (.int (b : Int)), y7, some (.int (mid : Int)), y9]) rfl rfl rfl (m.mono e6)
        have d2 := c2 (σ := [some v0, some (.int (W.1 : Int)), some (.ref ta), y3, some (.ref L), some (.int (a : Int)), some (.int (b : Int)), y7, some (.int (mid : Int)), y9]) rfl rfl rfl (m.mono e6)
        rw [hr1] at d1
        rw [hs0] at d2
        refine qd_asg (ed_op d1 d2 (rd_int (g := fun i j => i + j))) fun v9 H7 e7 hv9 => ?_
        rw [dp_int hv9]
        have m7 := (m.mono e6).mono e7
        have d3 := c3 (σ := [some v0, some (.int (W.1 : Int)), some (.ref ta), y3, some (.ref L), some (.int (a : Int)), some (.int (b : Int)), y7, some (.int (mid : Int)), some (.int (r + s0))]) rfl rfl rfl m7
        refine s_when (b := better (M a b) (r + s0)) (et_is (et_or (b := match M a b with | none => false | some y => decide (r + s0 < y)) (dt_test (ed_op d3 ed_non rd_isN)) fun hq => ?_) ?_) (fun hbt H8 e8 => ?_) fun hbt H8 e8 => ⟨_, _, _, _, M, rfl, m7.mono e8, ?_, r, hr1⟩
        · cases e : M a b with
          | none =>
            rw [e] at hq
            cases hq
          | some y =>
            rw [e] at d3
            exact dt_test (ed_op (ed_var rfl (.int _)) d3 (rd_bl (g := fun i j => decide (i < j))))
        · cases e : M a b with
          | none => rfl
          | some y => rfl
        · refine sd_cell (K := K) (d := optD (some (r + s0))) (m7.mono e8) ha (by rw [rowO_len]; exact hb') rfl rfl rfl (ed_var rfl (.int _)) rfl fun H9 m9 => ⟨_, _, _, _, _, rfl, mat_putO m9, fw_put G hmid F hr1 hs0 (fun z hz => ?_), ?_⟩
          · rw [hz] at hbt
            exact of_decide_eq_true hbt
          · unfold putM
            by_cases e : a = a ∧ mid = b
            · rw [if_pos e]
              exact ⟨_, rfl⟩
            · rw [if_neg e]
              exact ⟨r, hr1⟩
        · cases e : M a b with
          | none =>
            rw [e] at hbt
            cases hbt
          | some y =>
            rw [e] at hbt
            have := of_decide_eq_false hbt
            exact fw_keep G hmid F hr1 hs0 e (by omega)
      · refine fw_skip G hmid hb' F ?_
        cases h : M mid b with
        | none => rfl
        | some r =>
          rw [h] at hbb
          cases hbb
    · refine fw_none G hmid ha F ?_
      cases h : M a mid with
      | none => rfl
      | some r =>
        rw [h] at hb
        cases hb
  rintro σ' H' ⟨y3, y5, y6, y7, y8, y9, M, rfl, m, F⟩
  have mf : Mat K H H' L ps W.1 (rowF W) := m.same fun a ha => by
    unfold rowO rowF
    refine List.map_congr_left fun b hb => ?_
    rw [fw_end G F ha (List.mem_range.mp hb)]
    rfl
  exact sd_ret (ed_var rfl mf.dp) fun v H4 e4 hv => q v H4 (mf.ex.trans e4) hv
end
end Lt

set_option maxRecDepth 100000
set_option maxHeartbeats 4000000
/-! _law_lone, _law_right. -/
namespace Lt
open PySem PySem.Spec L2 Evl

/-- what one tie adds -/
noncomputable def conA (W : Web) (t : Tie) (a g : Nat) : Nat := if t.1 = a ∧ t.2.2 + far W t.2.1 g = far W t.1 g then 1 else 0
noncomputable def conB (W : Web) (t : Tie) (a g : Nat) : Nat := if t.2.1 = a ∧ t.2.2 + far W t.1 g = far W t.2.1 g then 1 else 0
noncomputable def sumC (W : Web) : List Tie → Nat → Nat → Nat
  | [], _, _ => 0
  | t :: r, a, g => conA W t a g + conB W t a g + sumC W r a g
theorem sumC_app (W : Web) (t : Tie) (a g : Nat) : ∀ ts : List Tie, sumC W (ts ++ [t]) a g = sumC W ts a g + (conA W t a g + conB W t a g)
  | [] => by simp [sumC]
  | u :: r => by
    rw [List.cons_append]
    show _ + _ + sumC W (r ++ [t]) a g = _ + _ + sumC W r a g + _
    rw [sumC_app W t a g r]
    omega
theorem sumC_cnt (W : Web) (a g : Nat) : cnt W a g = sumC W W.2 a g := by
  unfold cnt adj
  rw [List.filter_append, List.length_append]
  have h : ∀ ts : List Tie, ((adjL a ts).filter (isStep W a g)).length + ((adjR a ts).filter (isStep W a g)).length = sumC W ts a g := by
    intro ts
    induction ts with
    | nil => rfl
    | cons t r ih =>
      show _ = conA W t a g + conB W t a g + sumC W r a g
      rw [← ih]
      have e1 : ((adjL a (t :: r)).filter (isStep W a g)).length = conA W t a g + ((adjL a r).filter (isStep W a g)).length := by
        unfold adjL conA
        rw [List.filter_cons]
        by_cases q : t.1 = a
        · rw [if_pos (decide_eq_true q), List.map_cons, List.filter_cons]
          subst q
          by_cases z : t.2.2 + far W t.2.1 g = far W t.1 g
          · rw [if_pos (show isStep W t.1 g (t.2.1, t.2.2) = true from decide_eq_true z), if_pos ⟨rfl, z⟩, List.length_cons, Nat.add_comm]
          · rw [if_neg (show ¬ isStep W t.1 g (t.2.1, t.2.2) = true from fun w => z (of_decide_eq_true w)), if_neg (fun w => z w.2), Nat.zero_add]
        · rw [if_neg (fun w => q (of_decide_eq_true w)), if_neg (fun w => q w.1), Nat.zero_add]
      have e2 : ((adjR a (t :: r)).filter (isStep W a g)).length = conB W t a g + ((adjR a r).filter (isStep W a g)).length := by
        unfold adjR conB
        rw [List.filter_cons]
        by_cases q : t.2.1 = a
        · rw [if_pos (decide_eq_true q), List.map_cons, List.filter_cons]
          subst q
          by_cases z : t.2.2 + far W t.1 g = far W t.2.1 g
          · rw [if_pos (show isStep W t.2.1 g (t.1, t.2.2) = true from decide_eq_true z), if_pos ⟨rfl, z⟩, List.length_cons, Nat.add_comm]
          · rw [if_neg (show ¬ isStep W t.2.1 g (t.1, t.2.2) = true from fun w => z (of_decide_eq_true w)), if_neg (fun w => z w.2), Nat.zero_add]
        · rw [if_neg (fun w => q (of_decide_eq_true w)), if_neg (fun w => q w.1), Nat.zero_add]
      rw [e1, e2]
      omega
  exact h W.2
def rowN (c : Nat → Nat → Nat) (n a : Nat) : List PyData := (List.range n).map fun g => .int (c a g : Int)
theorem rowN_at {c : Nat → Nat → Nat} {n a b : Nat} (h : b < n) : (rowN c n a)[b]? = some (.int (c a b : Int)) := by
  unfold rowN
  rw [List.getElem?_map, List.getElem?_range h]
  rfl
theorem rowN_len (c : Nat → Nat → Nat) (n a : Nat) : (rowN c n a).length = n := by
  unfold rowN
  rw [List.length_map, List.length_range]
theorem rowN_noL (c : Nat → Nat → Nat) (n a : Nat) : noLA (rowN c n a) = true := noLA_all fun d hd => by
  obtain ⟨b, _, rfl⟩ := List.mem_map.mp hd
  rfl
def putC (c : Nat → Nat → Nat) (a b v : Nat) : Nat → Nat → Nat := fun i j => if i = a ∧ j = b then v else c i j
theorem rowN_put {c : Nat → Nat → Nat} {n a b v : Nat} : (rowN c n a).set b (.int (v : Int)) = rowN (putC c a b v) n a := by
  apply List.ext_getElem?
  intro j
  rw [List.getElem?_set]
  unfold rowN
  rw [List.getElem?_map, List.getElem?_map, List.length_map, List.length_range]
  by_cases hj : j < n
  · rw [List.getElem?_range hj]
    show _ = some (PyData.int ((putC c a b v a j : Nat) : Int))
    unfold putC
    by_cases e : b = j
    · rw [if_pos e, if_pos (by omega), if_pos ⟨rfl, e.symm⟩]
    · rw [if_neg e, if_neg (fun z => e z.2.symm)]
      rfl
  · rw [List.getElem?_eq_none (by rw [List.length_range]; omega)]
    by_cases e : b = j
    · rw [if_pos e, if_neg (by omega)]
      rfl
    · rw [if_neg e]
      rfl
theorem rowN_other {c : Nat → Nat → Nat} {n a b i v : Nat} (h : i ≠ a) : rowN (putC c a b v) n i = rowN c n i := by
  unfold rowN
  refine List.map_congr_left fun j _ => ?_
  unfold putC
  rw [if_neg (fun z => h z.1)]
section
variable {K : PySem.W.Frag} {σ : L2.St} {H H' : Hp} {ta tb te tc ts : TE} {tl : TA} {t u : TT} {D : Ends} {tz tw : TS}
theorem mat_putC {H0 : Hp} {L : Addr} {ps : List Addr} {n a b v : Nat} {c : Nat → Nat → Nat} (m : Mat K H0 H L ps n (fun i => if i = a then (rowN c n a).set b (.int (v : Int)) else rowN c n i)) : Mat K H0 H L ps n (rowN (putC c a b v) n) := m.same fun i _ => by
  by_cases e : i = a
  · subst e
    rw [if_pos rfl, rowN_put]
  · rw [if_neg e, rowN_other e]
end
def spLone (K : PySem.W.Frag) : Sp := fun vs H Q _ => ∃ W, Good W ∧ DpAll K H vs [webD W] ∧ ∀ (b : Bool) H', (b = true ↔ Lone W) → Ex H H' → Q (.bl b) H'
def nLone : List Str := ["web", "far", "nexts", "a", "b", "length", "goal", "place"]
theorem scLone : FnScope nLone ["web"] (defScope sLone) := ⟨rfl, rfl, rfl, by decide +kernel, rfl, by decide +kernel, by decide +kernel⟩
section
variable {P : Program} {w : World} {K : PySem.W.Frag} {mg : Str → Option Value} {base : Heap}
theorem ok_lone {f : Addr} {fd : FuncData} (F : Fun K "_law_lone" "_law_lone" sLone f fd) (T : Bt mg) (C1 : Cal P w K mg base "_law_far" ["web"] 1 (spP K RFarL)) : FnOk P w K mg base CX0 2 f fd ["web"] (spLone K) := by
  obtain ⟨f1, fd1, G1, g1, kp1, b1⟩ := C1.ex
  refine F.ok scLone (fun vs H Q E ⟨_, _, h, _⟩ => dpAll_len h) (fun cdv A outer s H vs Q E hr h => ?_)
  obtain ⟨W, G, hds, q⟩ := h
  obtain ⟨v0, rfl, hv0⟩ := dpA_1 hds
  obtain ⟨w0, at0, xs, Wa⟩ := web_at hv0
  have nd := scLone.nd
  have small := G.small
  refine ⟨_, (pss_cons (ps_set (i := 1) nd rfl (Or.inl rfl) (pe_call G1 (hr.mono (by decide)) (by rfl) g1 kp1 b1 .nil pass0 (pa_cons (pv 0) pa_nil)))
      (pss_cons (ps_set (i := 2) nd rfl (Or.inr rfl) (pe_lc (own := [("place", 7)]) (g := gName 7) (tt := tYes) rfl nd (pi_range1 rfl T.range (pa_cons (pe_ix (r := rIxT K) ix_tup (pv 0) pe_int (fun _ _ => rfl)) pa_nil)) (blkOk_by (own := [("place", 7)]) (N := nLone) (sc := defScope sLone) (by decide +kernel)) (fun _ _ _ _ _ => (pg_name (i := 7) nd rfl (Or.inl rfl))) (fun _ _ _ _ _ => pts_nil) (fun _ _ _ _ _ => (pe_op op_rep (pe_lst (pa_cons pe_int pa_nil)) (pe_ix (r := rIxT K) ix_tup (pv 0) pe_int (fun _ _ => rfl))))))
      (pss_cons (ps_for PassesOwn.never rfl (pi_tup (pe_ix (r := rIxT K) ix_tup (pv 0) pe_int (fun _ _ => rfl))) (pg_tup rfl (pgs_cons (pg_name (i := 3) nd rfl (Or.inr rfl)) (pgs_cons (pg_name (i := 4) nd rfl (Or.inl rfl)) (pgs_cons (pg_name (i := 5) nd rfl (Or.inl rfl)) pgs_nil))))
      (pss_one (ps_for PassesOwn.never rfl (pi_range1 rfl T.range (pa_cons (pe_ix (r := rIxT K) ix_tup (pv 0) pe_int (fun _ _ => rfl)) pa_nil)) (pg_name (i := 6) nd rfl (Or.inl rfl))
      (Evl.pss_cut (ps_if (pt_cmpR op_eq (pe_op op_add (pv 5) (pe_ix (r := rIxL K) ix_list (pe_ix (r := rIxL K) ix_list (pv 1) (pv 4) (fun _ _ => rfl)) (pv 6) (fun _ _ => rfl))) (pe_ix (r := rIxL K) ix_list (pe_ix (r := rIxL K) ix_list (pv 1) (pv 3) (fun _ _ => rfl)) (pv 6) (fun _ _ => rfl)) (nomark _)) (pss_one (ps_asg (pe_op op_add (pe_ix (r := rIxL K) ix_list (pe_ix (r := rIxL K) ix_list (pv 2) (pv 3) (fun _ _ => rfl)) (pv 6) (fun _ _ => rfl)) pe_int) (pg_sub (pe_ix (r := rIxL K) ix_list (pv 2) (pv 3) (fun _ _ => rfl)) (pv 6) set_list))) pss_nil) (pss_one (ps_if (pt_cmpR op_eq (pe_op op_add (pv 5) (pe_ix (r := rIxL K) ix_list (pe_ix (r := rIxL K) ix_list (pv 1) (pv 3) (fun _ _ => rfl)) (pv 6) (fun _ _ => rfl))) (pe_ix (r := rIxL K) ix_list (pe_ix (r := rIxL K) ix_list (pv 1) (pv 4) (fun _ _ => rfl)) (pv 6) (fun _ _ => rfl)) (nomark _)) (pss_one (ps_asg (pe_op op_add (pe_ix (r := rIxL K) ix_list (pe_ix (r := rIxL K) ix_list (pv 2) (pv 4) (fun _ _ => rfl)) (pv 6) (fun _ _ => rfl)) pe_int) (pg_sub (pe_ix (r := rIxL K) ix_list (pv 2) (pv 4) (fun _ _ => rfl)) (pv 6) set_list))) pss_nil))))))
      (pss_cons (ps_for PassesOwn.never rfl (pi_range1 rfl T.range (pa_cons (pe_ix (r := rIxT K) ix_tup (pv 0) pe_int (fun _ _ => rfl)) pa_nil)) (pg_name (i := 3) nd rfl (Or.inr rfl))
      (pss_one (ps_if (pt_val (pe_callB (cr_any rfl) (by rfl) T.any (by decide +kernel) (pa_cons (pe_lc (own := [("b", 4)]) (g := gName 4) (tt := _) rfl nd (pi_range1 rfl T.range (pa_cons (pe_ix (r := rIxT K) ix_tup (pv 0) pe_int (fun _ _ => rfl)) pa_nil)) (blkOk_by (own := [("b", 4)]) (N := nLone) (sc := defScope sLone) (by decide +kernel)) (fun _ _ _ _ _ => (pg_name (i := 4) nd rfl (Or.inl rfl))) (fun _ _ _ _ _ => (pts_one (pt_cmpR op_ne (pv 4) (pv 3) (nomark _)))) (fun _ _ _ _ _ => (pe_cmpR op_ne (pe_ix (r := rIxL K) ix_list (pe_ix (r := rIxL K) ix_list (pv 2) (pv 3) (fun _ _ => rfl)) (pv 4) (fun _ _ => rfl)) pe_int (nomark _)))) pa_nil))) (pss_one (ps_ret pe_bl)) pss_nil)))
      (pss_one (ps_ret pe_bl)))))), ?_⟩
  refine qd_asg (ed_call (eda_cons (ed_var rfl hv0) eda_nil) ⟨W, G, rfl, rfl⟩) fun vF H1 e1 hvF => ?_
  have hv0 := ex_dp e1 hv0
  have Wa := Wa.ex e1
  have n0 : ∀ {σ : L2.St} {H2 : Hp}, Ex H1 H2 → σ[0]? = some (some v0) → EvDA K (tCons (tOp (rIxT K) (tVar 0) (tC (.int 0))) tNil) σ H2 [.int (W.1 : Int)] := fun e h => eda_cons (ed_ix0 (ed_var h (ex_dp e hv0))) eda_nil
  refine qd_asgT (mat_lc (n := W.1) (f := fun _ => (List.replicate W.1 [PyData.int 0]).flatten) (n0 (Ex.refl _) rfl) (by omega) (fun _ => rfl) (fun i _ => en_rep (en_lst (eda_cons ed_int eda_nil)) (ed_ix0 (ed_var rfl hv0)) (by omega)) (fun i _ => ?_) fun L ps H2 m => ?_)
  · rw [flat_rep]
    exact noLA_all fun d hd => by rw [List.eq_of_mem_replicate hd]; rfl
  have m0 : Mat K H1 H2 L ps W.1 (rowN (fun _ _ => 0) W.1) := m.same fun i _ => by
    rw [flat_rep]
    unfold rowN
    rw [List.map_const', List.length_range]
    rfl
  refine q_forT3 (ts := W.2) Wa.ties Wa.each (ev_ix1 rfl (Wa.ex m.ex)) (fun i σ' H' => ∃ y3 y4 y5 y6 y7 c, σ' = [some v0, some vF, some (.ref L), y3, y4, y5, y6, y7] ∧ Mat K H1 H' L ps W.1 (rowN c W.1) ∧ ∀ x y, y < W.1 → c x y = sumC W (W.2.take i) x y) (fun i σ' H' ⟨_, _, _, _, _, _, _, m, _⟩ => m.ex) (fun H3 e3 => ⟨_, _, _, _, _, _, rfl, m0.mono e3, fun _ _ _ => rfl⟩) ?_ ?_
  · rintro i t σ' H' hi ⟨y3, y4, y5, y6, y7, c, rfl, m, hc⟩
    obtain ⟨t1, t2, _⟩ := G.tie t (List.mem_of_getElem? hi)
    have t0 : t.1 < W.1 := by omega
    have et : W.2.take (i + 1) = W.2.take i ++ [t] := by rw [List.take_add_one, hi]; rfl
    refine s_forN (n := W.1) (n0 m.ex rfl) (by omega) (fun g σ' H' => ∃ y6 c, σ' = [some v0, some vF, some (.ref L), some (.int (t.1 : Int)), some (.int (t.2.1 : Int)), some (.int t.2.2), y6, y7] ∧ Mat K H1 H' L ps W.1 (rowN c W.1) ∧ ∀ x y, y < W.1 → c x y = sumC W (W.2.take i) x y + if y < g then conA W t x y + conB W t x y else 0) (fun H3 e3 => ⟨_, c, rfl, m.mono e3, fun x y hy => by rw [hc x y hy, if_neg (by omega)]; rfl⟩) ?_ ?_
    · rintro g σ' H3 hg ⟨y6, c, rfl, m, hc⟩
      have fr : ∀ {σ : L2.St} {H4 : Hp} {a b j1 j2 j3 : Nat}, a < W.1 → b < W.1 → Ex H1 H4 → σ[1]? = some (some vF) → σ[j2]? = some (some (.int (a : Int))) → σ[j3]? = some (some (.int (b : Int))) → EvD K (tOp (rIxL K) (tOp (rIxL K) (tVar 1) (tVar j2)) (tVar j3)) σ H4 (.int (far W a b)) := fun ha hb e h1 h2 h3 => ed_far ha hb (ed_var h1 (ex_dp e hvF)) (ed_var h2 (.int _)) (ed_var h3 (.int _))
      refine q_cut (M := fun σ' H' => ∃ c, σ' = [some v0, some vF, some (.ref L), some (.int (t.1 : Int)), some (.int (t.2.1 : Int)), some (.int t.2.2), some (.int (g : Int)), y7] ∧ Mat K H1 H' L ps W.1 (rowN c W.1) ∧ ∀ x y, y < W.1 → c x y = sumC W (W.2.take i) x y + (if y < g then conA W t x y + conB W t x y else 0) + if y = g then conA W t x y else 0) ?_ ?_
      · refine s_when (b := decide (t.2.2 + far W t.2.1 g = far W t.1 g)) (dt_test (ed_op (ed_op (ed_var rfl (.int _)) (fr (j1 := 1) t2 hg m.ex rfl rfl rfl) (rd_int (g := fun i j => i + j))) (fr (j1 := 1) t0 hg m.ex rfl rfl rfl) rd_eqI)) (fun hb H4 e4 => ?_) fun hb H4 e4 => ⟨c, rfl, m.mono e4, fun x y hy => ?_⟩
        · have hb := of_decide_eq_true hb
          refine sd_cell (K := K) (d := .int ((c t.1 g + 1 : Nat) : Int)) (m.mono e4) t0 (by rw [rowN_len]; exact hg) rfl rfl rfl (EvD.is (ed_op (ed_cell (m.mono e4) t0 rfl rfl rfl (rowN_at hg)) ed_int (rd_int (g := fun i j => i + j))) (by rw [Int.natCast_add]; rfl)) rfl fun H5 m5 => ⟨_, rfl, mat_putC m5, fun x y hy => ?_⟩
          unfold putC
          by_cases e : x = t.1 ∧ y = g
          · obtain ⟨rfl, rfl⟩ := e
            rw [if_pos ⟨rfl, rfl⟩, hc _ _ hy, if_neg (by omega), if_pos rfl]
            unfold conA
            rw [if_pos ⟨rfl, hb⟩]
          · rw [if_neg e, hc _ _ hy]
            by_cases e2 : y = g
            · have : conA W t x y = 0 := if_neg (fun z => e ⟨z.1.symm, e2⟩)
              rw [if_pos e2, this]
              rfl
            · rw [if_neg e2]
              rfl
        · have hb := of_decide_eq_false hb
          rw [hc _ _ hy]
          by_cases e2 : y = g
          · subst e2
            have : conA W t x y = 0 := if_neg (fun z => hb z.2)
            rw [if_pos rfl, this]
            rfl
          · rw [if_neg e2]
            rfl
      · rintro σ' H4 ⟨c, rfl, m, hc⟩
        refine s_when (b := decide (t.2.2 + far W t.1 g = far W t.2.1 g)) (dt_test (ed_op (ed_op (ed_var rfl (.int _)) (fr (j1 := 1) t0 hg m.ex rfl rfl rfl) (rd_int (g := fun i j => i + j))) (fr (j1 := 1) t2 hg m.ex rfl rfl rfl) rd_eqI)) (fun hb H5 e5 => ?_) fun hb H5 e5 => ⟨_, c, rfl, m.mono e5, fun x y hy => ?_⟩
        · have hb := of_decide_eq_true hb
          refine sd_cell (K := K) (d := .int ((c t.2.1 g + 1 : Nat) : Int)) (m.mono e5) t2 (by rw [rowN_len]; exact hg) rfl rfl rfl (EvD.is (ed_op (ed_cell (m.mono e5) t2 rfl rfl rfl (rowN_at hg)) ed_int (rd_int (g := fun i j => i + j))) (by rw [Int.natCast_add]; rfl)) rfl fun H6 m6 => ⟨_, _, rfl, mat_putC m6, fun x y hy => ?_⟩
          unfold putC
          by_cases e : x = t.2.1 ∧ y = g
          · obtain ⟨rfl, rfl⟩ := e
            rw [if_pos ⟨rfl, rfl⟩, hc _ _ hy, if_neg (by omega), if_pos rfl, if_pos (by omega)]
            have : conB W t t.2.1 y = 1 := if_pos ⟨rfl, hb⟩
            omega
          · rw [if_neg e, hc _ _ hy]
            by_cases e2 : y = g
            · have : conB W t x y = 0 := if_neg (fun z => e ⟨z.1.symm, e2⟩)
              rw [if_pos e2, if_neg (by omega), if_pos (by omega)]
              omega
            · rw [if_neg e2]
              by_cases e3 : y < g
              · rw [if_pos e3, if_pos (by omega)]
                omega
              · rw [if_neg e3, if_neg (by omega)]
        · have hb := of_decide_eq_false hb
          rw [hc _ _ hy]
          by_cases e2 : y = g
          · subst e2
            have : conB W t x y = 0 := if_neg (fun z => hb z.2)
            rw [if_pos rfl, if_neg (by omega), if_pos (by omega)]
            omega
          · rw [if_neg e2]
            by_cases e3 : y < g
            · rw [if_pos e3, if_pos (by omega)]
              omega
            · rw [if_neg e3, if_neg (by omega)]
    · rintro σ' H3 ⟨y6, c, rfl, m, hc⟩
      refine ⟨_, _, _, _, _, c, rfl, m, fun x y hy => ?_⟩
      rw [hc x y hy, if_pos hy, et, sumC_app]
  rintro σ' H3 ⟨y3, y4, y5, y6, y7, c, rfl, m, hc⟩
  rw [List.take_length] at hc
  have hcc : ∀ x y, y < W.1 → c x y = cnt W x y := fun x y hy => by rw [hc x y hy, sumC_cnt]
  refine q_forN (n := W.1) (n0 m.ex rfl) (by omega) (fun i σ' H' => ∃ y3 y4 y5 y6 y7, σ' = [some v0, some vF, some (.ref L), y3, y4, y5, y6, y7] ∧ Mat K H1 H' L ps W.1 (rowN c W.1) ∧ ∀ a b, a < i → b < W.1 → a ≠ b → cnt W a b = 1) (fun H4 e4 => ⟨_, _, _, _, _, rfl, m.mono e4, fun a b h => by omega⟩) ?_ ?_
  · rintro i σ' H4 hi ⟨y3, y4, y5, y6, y7, rfl, m, hd⟩
    have comp := en_lcR (K := K) (H := H4) (j := 4) (vs := [4]) (n := W.1) (ta := tCons (tOp (rIxT K) (tVar 0) (tC (.int 0))) tNil) (t := tTest (tOp rNe (tVar 4) (tVar 3))) (te := tOp rNe (tOp (rIxL K) (tOp (rIxL K) (tVar 2) (tVar 3)) (tVar 4)) (tC (.int 1))) (σ := [some v0, some vF, some (.ref L), some (.int (i : Int)), y4, y5, y6, y7]) (fun b => !decide (b = i)) (fun b => PyData.bool (!decide (c i b = 1))) (n0 m.ex rfl) (by omega) (fun _ => rfl)
      (fun b hb => et_is (dt_test (K := K) (ed_op (ed_var rfl (.int _)) (ed_var rfl (.int _)) rd_neI)) (by simp only [Int.natCast_inj])) (fun b hb _ => EvD.is (ed_op (ed_cell m hi rfl rfl rfl (rowN_at hb)) ed_int rd_neI) (by congr 2; exact decide_eq_decide.mpr ⟨fun h => by omega, fun h => by omega⟩)) (fun _ _ => rfl)
    have ebs : ((List.range W.1).filter fun b => !decide (b = i)).map (fun b => PyData.bool (!decide (c i b = 1))) = (((List.range W.1).filter fun b => !decide (b = i)).map fun b => !decide (c i b = 1)).map PyData.bool := by
      rw [List.map_map]
      rfl
    rw [ebs] at comp
    have hany : ((((List.range W.1).filter fun b => !decide (b = i)).map fun b => !decide (c i b = 1)).any id = true) ↔ ∃ b, b < W.1 ∧ b ≠ i ∧ cnt W i b ≠ 1 := by
      rw [List.any_eq_true]
      constructor
      · rintro ⟨x, hx, hx2⟩
        obtain ⟨b, hb, rfl⟩ := List.mem_map.mp hx
        obtain ⟨h1, h2⟩ := List.mem_filter.mp hb
        have h1 := List.mem_range.mp h1
        rw [hcc i b h1] at hx2
        exact ⟨b, h1, by simpa using h2, by simpa using hx2⟩
      · rintro ⟨b, h1, h2, h3⟩
        refine ⟨_, List.mem_map.mpr ⟨b, List.mem_filter.mpr ⟨List.mem_range.mpr h1, by simpa using h2⟩, rfl⟩, ?_⟩
        rw [hcc i b h1]
        simpa using h3
    refine s_when (dt_B (ed_cb (eda_cons (evn_d comp) eda_nil) rdc_any)) (fun hb H5 e5 => ?_) fun hb H5 e5 => ⟨_, _, _, _, _, rfl, m.mono e5, fun a b ha hb' ne => ?_⟩
    · obtain ⟨b, h1, h2, h3⟩ := hany.mp hb
      refine sd_ret (K := K) ed_bl fun v H6 e6 hv => ?_
      rw [dp_bool hv]
      exact q false H6 ⟨fun z => (nomatch z), fun z => absurd (z i b hi h1 (fun w => h2 w.symm)) h3⟩ (e1.trans (m.ex.trans (e5.trans e6)))
    · by_cases e : a = i
      · subst e
        apply Decidable.byContradiction
        intro hne
        have := hany.mpr ⟨b, hb', fun w => ne w.symm, hne⟩
        rw [this] at hb
        cases hb
      · exact hd a b (by omega) hb' ne
  · rintro σ' H4 ⟨y3, y4, y5, y6, y7, rfl, m, hd⟩
    refine sd_ret (K := K) ed_bl fun v H6 e6 hv => ?_
    rw [dp_bool hv]
    exact q true H6 ⟨fun _ a b ha hb ne => hd a b ha hb ne, fun _ => rfl⟩ (e1.trans (m.ex.trans e6))
end
end Lt

set_option maxRecDepth 100000
set_option maxHeartbeats 4000000
/-! _law_right. -/
namespace Lt
open PySem PySem.Spec L2 Evl

theorem ints_lay : ∀ ds : List PyData, (∀ d ∈ ds, ∃ i : Int, d = .int i) → PyData.canLayAll0 ds = true ∧ PyData.depthAll ds ≤ 1
  | [], _ => by simp [PyData.canLayAll0, PyData.depthAll]
  | d :: r, h => by
    obtain ⟨i, rfl⟩ := h d (List.mem_cons_self ..)
    obtain ⟨h1, h2⟩ := ints_lay r fun x hx => h x (List.mem_cons_of_mem _ hx)
    simp only [PyData.canLayAll0, PyData.canLay0, PyData.depthAll, PyData.depth, h1]
    exact ⟨rfl, by omega⟩
theorem rows_lay : ∀ ds : List PyData, (∀ d ∈ ds, ∃ es, d = .list es ∧ ∀ e ∈ es, ∃ i : Int, e = .int i) → PyData.canLayAll0 ds = true ∧ PyData.depthAll ds ≤ 2
  | [], _ => by simp [PyData.canLayAll0, PyData.depthAll]
  | d :: r, h => by
    obtain ⟨es, rfl, he⟩ := h d (List.mem_cons_self ..)
    obtain ⟨h1, h2⟩ := rows_lay r fun x hx => h x (List.mem_cons_of_mem _ hx)
    obtain ⟨h3, h4⟩ := ints_lay es he
    simp only [PyData.canLayAll0, PyData.canLay0, PyData.depthAll, PyData.depth, h1, h3]
    exact ⟨rfl, by omega⟩
theorem table_shaped (W : Web) : SeqAt.shaped (tableD W) = true := by
  obtain ⟨h1, h2⟩ := rows_lay ((List.range W.1).map fun a => .list (rowF W a)) (by
    intro d hd
    obtain ⟨a, _, rfl⟩ := List.mem_map.mp hd
    refine ⟨_, rfl, fun e he => ?_⟩
    obtain ⟨b, _, rfl⟩ := List.mem_map.mp he
    exact ⟨_, rfl⟩)
  have h3 : PyData.depth (tableD W) ≤ 64 := by
    unfold tableD
    simp only [PyData.depth]
    omega
  show (PyData.canLay0 (tableD W) && decide (PyData.depth (tableD W) ≤ 64)) = true
  rw [Bool.and_eq_true]
  exact ⟨by unfold tableD; simp only [PyData.canLay0]; exact h1, decide_eq_true h3⟩
theorem table_eqv (W : Web) : PyData.eqv (tableD W) (tableD W) = true := SeqAt.eqv_refl _ (SeqAt.canLay_of_shaped (table_shaped W))
section
variable {K : PySem.W.Frag} {σ : L2.St} {H H' : Hp} {ta tb te tc ts : TE} {tl : TA} {t u : TT} {D : Ends} {tz tw : TS}
theorem ed_ixV {j : Nat} {a : Addr} {vs : List V} {i : Int} {v : V} {d : PyData} (h : σ[j]? = some (some (.ref a))) (ht : SqT K H a vs) (hi : atI vs i = some v) (hd : Dp K H v d) : EvD K (tOp (rIxT K) (tVar j) (tC (.int i))) σ H d :=
  fun H1 e Q q => ⟨_, h, a, vs, i, v, rfl, rfl, ex_t e ht, hi, q v H1 (Ex.refl H1) (ex_dp e hd)⟩
theorem rd_eqD {d : PyData} (h : SeqAt.shaped d = true) (hv : PyData.eqv d d = true) : RD2 K (rEqD K) d d H (.bool true) := fun H1 e x y hx hy Q q =>
  ⟨d, d, hx, hy, h, h, by
    rw [hv]
    exact q _ H1 (Ex.refl H1) (.bl true)⟩
theorem rdc_intB {b : Bool} : RDC K (fun xs H Q => (∃ i, xs = [.int i] ∧ Q (.int i) H) ∨ ∃ k, xs = [.bl k] ∧ Q (.int (if k then 1 else 0)) H) [.bool b] H (.int (if b then 1 else 0)) := fun H1 e xs hx Q q => by
  obtain ⟨x, rfl, h⟩ := dpA_1 hx
  cases dp_bool h
  exact .inr ⟨b, rfl, q _ H1 (Ex.refl H1) (.int _)⟩
theorem ed_lone {E : XK} {W : Web} {b : Bool} (h : EvDA K tl σ H [webD W]) (G : Good W) (hb : b = true ↔ Lone W) : EvD K (tCall (spLone K) [] E tl) σ H (.bool b) := fun H1 e Q q =>
  h H1 e _ fun vs H2 e2 hd => by
    rw [List.append_nil]
    refine ⟨W, G, hd, fun b' H' hb' e' => ?_⟩
    have : b' = b := by
      cases b <;> cases b' <;> simp_all
    rw [this]
    exact q _ H' (e2.trans e') (.bl _)
end
def toldS (b : Bool) : Str := if b then "lone" else "barred"
def RRight (ds : List PyData) (d : PyData) : Prop := ∃ W, Good W ∧ ds = [webD W] ∧ d = .bool true
def nRight : List Str := ["web", "told"]
theorem scRight : FnScope nRight ["web"] (defScope sRight) := ⟨rfl, rfl, rfl, by decide +kernel, rfl, by decide +kernel, by decide +kernel⟩
section
variable {P : Program} {w : World} {K : PySem.W.Frag} {mg : Str → Option Value} {base : Heap}
theorem ok_right {f : Addr} {fd : FuncData} (F : Fun K "_law_right" "_law_right" sRight f fd) (T : Bt mg) (C1 : Cal P w K mg base "verdict" ["web"] 4 (spVer K)) (C2 : Cal P w K mg base "_law_lone" ["web"] 2 (spLone K)) (C3 : Cal P w K mg base "_law_far" ["web"] 1 (spP K RFarL)) : FnOk P w K mg base CX0 5 f fd ["web"] (spP K RRight) := by
  obtain ⟨f1, fd1, G1, g1, kp1, b1⟩ := C1.ex
  obtain ⟨f2, fd2, G2, g2, kp2, b2⟩ := C2.ex
  obtain ⟨f3, fd3, G3, g3, kp3, b3⟩ := C3.ex
  refine F.ok scRight (fun vs H Q E ⟨_, _, h, ⟨_, _, r, _⟩, _⟩ => by rw [dpAll_len h, r]; rfl) (fun cdv A outer s H vs Q E hr h => ?_)
  obtain ⟨_, _, hds, ⟨W, G, rfl, rfl⟩, q⟩ := h
  obtain ⟨v0, rfl, hv0⟩ := dpA_1 hds
  have nd := scRight.nd
  have small := G.small
  have hu := hr.units
  refine ⟨_, (pss_cons (ps_set (i := 1) nd rfl (Or.inl rfl) (pe_call G1 (hr.mono (by decide)) (by rfl) g1 kp1 b1 .nil pass0 (pa_cons (pv 0) pa_nil)))
      (pss_cons (ps_if (pt_cmpR op_ne (pe_ix (r := rIxT K) ix_tup (pv 1) pe_int (fun _ _ => rfl)) (pe_ix (r := rIxL K) ix_list (pe_lst (pa_cons pe_str (pa_cons pe_str pa_nil))) (pe_callTy call_int1 (by rfl) T.int (by decide +kernel) (pa_cons (pe_call G2 (hr.mono (by decide)) (by rfl) g2 kp2 b2 .nil pass0 (pa_cons (pv 0) pa_nil)) pa_nil)) (fun _ _ => rfl)) (nomark _)) (pss_one (ps_ret pe_bl)) pss_nil)
      (pss_one (ps_ret (pe_or (pe_cmpR op_eq (pe_ix (r := rIxT K) ix_tup (pv 1) pe_int (fun _ _ => rfl)) pe_str (nomark _)) (pe_one (pe_cmpR (op_eqD hu) (pe_ix (r := rIxT K) ix_tup (pv 1) pe_int (fun _ _ => rfl)) (pe_call G3 (hr.mono (by decide)) (by rfl) g3 kp3 b3 .nil pass0 (pa_cons (pv 0) pa_nil)) (nomark _)))))))), ?_⟩
  refine q_callAsg (eda_cons (ed_var rfl hv0) eda_nil) fun vs H1 e1 hd1 => ⟨W, G, hd1, fun v1 H2 e2 hv1 => ?_⟩
  have e02 := e1.trans e2
  have hv0 := ex_dp e02 hv0
  obtain ⟨b, hb, h0⟩ : ∃ b : Bool, (b = true ↔ Lone W) ∧ EvD K (tOp (rIxT K) (tVar 1) (tC (.int 0))) [some v0, some v1] H2 (.str (toldS b)) := by
    rcases hv1 with ⟨hl, t, fv, sv, rfl, ht, _⟩ | ⟨hl, ds, hd⟩
    · exact ⟨true, ⟨fun _ => hl, fun _ => rfl⟩, ed_ixV rfl ht (atI_nat (j := 0) rfl) (.str _)⟩
    · exact ⟨false, ⟨fun z => (nomatch z), fun z => absurd z hl⟩, ed_ixT (ed_var rfl hd) ed_int (atI_nat (j := 0) rfl)⟩
  have hlone : ∀ E0, EvD K (tCall (spLone K) [] E0 (tCons (tVar 0) tNil)) [some v0, some v1] H2 (.bool b) := fun _ => ed_lone (eda_cons (ed_var rfl hv0) eda_nil) G hb
  refine q_when (b := false) (dt_test (EvD.is (ed_op h0 (ed_ixL (z := .str (toldS b)) (evn_d (en_lst (eda_cons ed_str (eda_cons ed_str eda_nil)))) (ed_cb (eda_cons (hlone _) eda_nil) rdc_intB) (by cases b <;> rfl)) rd_neS) (by rw [decide_eq_true rfl]; rfl))) (fun z => nomatch z) fun _ H3 e3 => ?_
  refine sd_ret (K := K) (d := .bool true) ?_ fun v H4 e4 hv => q v H4 (e02.trans (e3.trans e4)) hv
  refine EvD.is (ed_orV (b := true) (ed_op (h0.mono e3) ed_str rd_eqS) fun hb2 => ?_) (by rw [Bool.or_true])
  have hb1 : b = true := by
    cases b with
    | true => rfl
    | false => cases (decide_eq_false_iff_not.mp hb2) rfl
  rcases hv1 with ⟨hl, t, fv, sv, rfl, ht, hf⟩ | ⟨hl, ds, hd⟩
  · exact ed_op ((ed_ixV rfl ht (atI_nat (j := 1) rfl) hf).mono e3) (ed_call (eda_cons (ed_var rfl (ex_dp e3 hv0)) eda_nil) ⟨W, G, rfl, rfl⟩) (rd_eqD (table_shaped W) (table_eqv W))
  · exact absurd (hb.mp hb1) hl
end
end Lt

set_option maxRecDepth 100000
set_option maxHeartbeats 4000000
/-! The pot: _law_take, _law_length. -/
namespace Lt
open PySem PySem.Spec L2 Evl

/-- all but p stays -/
def Ke (p : Addr) (H H' : Hp) : Prop := ∀ a o, a ≠ p → H a = some o → H' a = some o
def PotAt (H : Hp) (p : Addr) : Prop := ∃ (f : Addr) (i : Int) (ns : List Int), H p = some (.lst [.ref f, .int i]) ∧ H f = some (.lst (ns.map V.int)) ∧ 0 < ns.length
theorem Ke.refl (p : Addr) (H : Hp) : Ke p H H := fun _ _ _ h => h
theorem Ke.of_ex {p : Addr} {H H' : Hp} (e : Ex H H') : Ke p H H' := fun a o _ h => e a o h
theorem Ke.trans {p : Addr} {H H1 H2 : Hp} (a : Ke p H H1) (b : Ke p H1 H2) : Ke p H H2 := fun c o n h => b c o n (a c o n h)
theorem Ke.ex {p : Addr} {H H1 H2 : Hp} (a : Ke p H H1) (b : Ex H1 H2) : Ke p H H2 := fun c o n h => b c o (a c o n h)
theorem Ke.put {p : Addr} {H : Hp} {o : HO} : Ke p H (upd H p o) := fun c u n h => by
  rw [upd_ne n]
  exact h
theorem PotAt.ex {p : Addr} {H H' : Hp} (P : PotAt H p) (e : Ex H H') : PotAt H' p := by
  obtain ⟨f, i, ns, h1, h2, h3⟩ := P
  exact ⟨f, i, ns, e _ _ h1, e _ _ h2, h3⟩
theorem Ke.tu {p : Addr} {H H' : Hp} (P : PotAt H p) (e : Ke p H H') : Tu H H' := by
  obtain ⟨f, i, ns, h1, _, _⟩ := P
  refine ⟨fun a xs h => e a _ (fun z => ?_) h, fun a o xs h => e a _ (fun z => ?_) h⟩
  · rw [z, h1] at h
    cases h
  · rw [z, h1] at h
    cases h
theorem PotAt.ne {p q : Addr} {H : Hp} (P : PotAt H p) {o : HO} (h : H q = some o) (hn : ∀ f i, o ≠ .lst [.ref f, .int i]) : q ≠ p := fun z => by
  obtain ⟨f, i, ns, h1, _, _⟩ := P
  rw [z, h1] at h
  exact hn f i (Option.some.inj h).symm
theorem PotAt.ne0 {p q : Addr} {H : Hp} (P : PotAt H p) (h : H q = none) : q ≠ p := fun z => by
  obtain ⟨f, i, ns, h1, _, _⟩ := P
  rw [z, h1] at h
  cases h
def spTake (K : PySem.W.Frag) : Sp := fun vs H Q _ => ∃ (p : Addr) (m : Int), vs = [.ref p, .int m] ∧ PotAt H p ∧ 0 < m ∧ ∀ (r : Int) H', 0 ≤ r → r < m → Ke p H H' → PotAt H' p → Q (.int r) H'
section
variable {K : PySem.W.Frag} {σ : L2.St} {H H' : Hp} {ta tb te tc ts : TE} {tl : TA} {t u : TT} {D : Ends} {tz tw : TS}
theorem ev_take {E : XK} {j : Nat} {p : Addr} {m : Int} {Q : VK} (P : PotAt H p) (hp : σ[j]? = some (some (.ref p))) (h0 : 0 < m) (hm : EvD K te σ H (.int m)) (k : ∀ (r : Int) H', 0 ≤ r → r < m → Ke p H H' → PotAt H' p → Q (.int r) H') :
    tCall (spTake K) [] E (tCons (tVar j) (tCons te tNil)) σ H Q := by
  refine ⟨_, hp, hm H (Ex.refl H) _ fun v H1 e1 hv => ?_⟩
  rw [dp_int hv]
  exact ⟨p, m, rfl, P.ex e1, h0, fun r H' h1 h2 e2 P2 => k r H' h1 h2 (fun a o n h => e2 a o n (e1 a o h)) P2⟩
end
section
variable {K : PySem.W.Frag} {σ : L2.St} {H H' : Hp} {ta tb te tc ts : TE} {tl : TA} {t u : TT} {D : Ends} {tz tw : TS} {Q : VK} {r : R2}
theorem qd_asgX {i : Nat} (h : te σ H fun v H1 => tz D (σ.set i (some v)) H1) : tSeq (tAsg te (gName i)) tz D σ H := h
theorem op_cL {x : V} (h : tb σ H fun y H1 => r x y H1 Q) : tOp r (tC x) tb σ H Q := h
theorem op_X (h : ta σ H fun x H1 => tb σ H1 fun y H2 => r x y H2 Q) : tOp r ta tb σ H Q := h
theorem ints_ne {ns : List Int} : ∀ (f : Addr) (i : Int), HO.lst (ns.map V.int) ≠ .lst [.ref f, .int i] := fun f i z => by
  cases ns with
  | nil => cases z
  | cons a r => cases z
def EvI (te : TE) (σ : L2.St) (H : Hp) (ns : List Int) : Prop := ∀ Q : VK, (∀ l H1, Ex H H1 → H1 l = some (.lst (ns.map V.int)) → Q (.ref l) H1) → te σ H Q
theorem EvN.i {ns : List Int} (h : EvN K te σ H (ns.map PyData.int)) : EvI te σ H ns := fun Q q => h H (Ex.refl H) Q fun l xs H2 _ e2 h2 hd => q l H2 e2 (by rw [h2, ints_dpA hd])
theorem evi_var {ns : List Int} {j : Nat} {l : Addr} (h : σ[j]? = some (some (.ref l))) (hl : H l = some (.lst (ns.map V.int))) : EvI (tVar j) σ H ns := fun Q q => ⟨_, h, q l H (Ex.refl H) hl⟩
theorem ix_take {E : XK} {j : Nat} {p : Addr} {ns : List Int} {m : Int} (ha : EvI ta σ H ns) (P : PotAt H p) (hp : σ[j]? = some (some (.ref p))) (hm : EvD K te σ H (.int m)) (hl : (ns.length : Int) = m) (h0 : 0 < ns.length)
    (k : ∀ (n : Nat) (x : Int) H', ns[n]? = some x → Ke p H H' → PotAt H' p → Q (.int x) H') : tOp (rIxL K) ta (tCall (spTake K) [] E (tCons (tVar j) (tCons te tNil))) σ H Q := by
  refine op_X (ha _ fun l H1 e1 h1 => ev_take (P.ex e1) hp (m := m) (by omega) (hm.mono e1) fun r H2 r0 r1 e2 P2 => ?_)
  obtain ⟨n, rfl⟩ := Int.eq_ofNat_of_zero_le r0
  have hn : n < ns.length := by omega
  have hx : ns[n]? = some ns[n] := List.getElem?_eq_getElem hn
  exact ⟨l, _, (n : Int), .int ns[n], rfl, rfl, sq_of (e2 _ _ ((P.ex e1).ne h1 ints_ne) h1), atI_nat (by rw [List.getElem?_map, hx]; rfl), k n _ H2 hx (fun a o ne h => e2 a o ne (e1 a o h)) P2⟩
end
def fars5 : List Int := [1, 10 ^ (7 : Int).toNat, 10 ^ (14 : Int).toNat, 10 ^ (21 : Int).toNat, 10 ^ (28 : Int).toNat]
def muls4 : List Int := [1, 10 ^ (3 : Int).toNat, 10 ^ (15 : Int).toNat, 10 ^ (29 : Int).toNat]
theorem fars5_in : ∀ x ∈ fars5, 1 ≤ x ∧ x ≤ 10 ^ 28 := by decide +kernel
theorem muls4_in : ∀ x ∈ muls4, 1 ≤ x ∧ x ≤ 10 ^ 29 := by decide +kernel
def spLength (K : PySem.W.Frag) : Sp := fun vs H Q _ => ∃ (p sa : Addr) (a b : Int), vs = [.ref p, .ref sa] ∧ PotAt H p ∧ H sa = some (.lst [.int a, .int b]) ∧ 0 ≤ a ∧ a < 4 ∧ ∀ (r : Int) H', 1 ≤ r → r ≤ 10 ^ 30 → Ke p H H' → PotAt H' p → Q (.int r) H'
def nLength : List Str := ["pot", "scale", "low", "far"]
theorem scLength : FnScope nLength ["pot", "scale"] (defScope sLength) := ⟨rfl, rfl, rfl, by decide +kernel, rfl, by decide +kernel, by decide +kernel⟩
def nTake : List Str := ["pot", "many", "number"]
theorem scTake : FnScope nTake ["pot", "many"] (defScope sTake) := ⟨rfl, rfl, rfl, by decide +kernel, rfl, by decide +kernel, by decide +kernel⟩
section
variable {P : Program} {w : World} {K : PySem.W.Frag} {mg : Str → Option Value} {base : Heap}
theorem ok_take {f : Addr} {fd : FuncData} (F : Fun K "_law_take" "_law_take" sTake f fd) (T : Bt mg) : FnOk P w K mg base CX0 1 f fd ["pot", "many"] (spTake K) := by
  refine F.ok scTake (fun vs H Q E ⟨_, _, h, _⟩ => by rw [h]; rfl) (fun cdv A outer s H vs Q E hr h => ?_)
  obtain ⟨p, m, rfl, PA, h0, q⟩ := h
  obtain ⟨g, i, ns, h1, h2, h3⟩ := id PA
  have nd := scTake.nd
  refine ⟨_, (pss_cons (ps_set (i := 2) nd rfl (Or.inl rfl) (pe_ix (r := rIxL K) ix_list (pe_ix (r := rIxL K) ix_list (pv 0) pe_int (fun _ _ => rfl)) (pe_op op_mod (pe_ix (r := rIxL K) ix_list (pv 0) pe_int (fun _ _ => rfl)) (pe_callB call_len_seq (by rfl) T.len PySem.boot_len (pa_cons (pe_ix (r := rIxL K) ix_list (pv 0) pe_int (fun _ _ => rfl)) pa_nil))) (fun _ _ => rfl)))
      (pss_cons (ps_asg (pe_op op_add (pe_ix (r := rIxL K) ix_list (pv 0) pe_int (fun _ _ => rfl)) pe_int) (pg_sub (pv 0) pe_int set_list))
      (pss_one (ps_ret (pe_op op_mod (pv 2) (pv 1)))))), ?_⟩
  have hds : DpAll K H [.ref g, .int i] [.list (ns.map PyData.int), .int i] := .cons (.lst (sq_of h2) (dpA_ints ns)) (.cons (.int _) .nil)
  have hpot : Dp K H (.ref p) (.list [.list (ns.map PyData.int), .int i]) := .lst (sq_of h1) hds
  have ev0 : ∀ {σ' : L2.St}, σ'[0]? = some (some (.ref p)) → EvD K (tOp (rIxL K) (tVar 0) (tC (.int 0))) σ' H (.list (ns.map PyData.int)) := fun e => ed_ixL (ed_var e hpot) ed_int (atI_nat (j := 0) rfl)
  have ev1 : ∀ {σ' : L2.St}, σ'[0]? = some (some (.ref p)) → EvD K (tOp (rIxL K) (tVar 0) (tC (.int 1))) σ' H (.int i) := fun e => ed_ixL (ed_var e hpot) ed_int (atI_nat (j := 1) rfl)
  have hz : (0 : Int) < ((ns.map PyData.int).length : Int) := by rw [List.length_map]; omega
  have hr0 := Int.emod_nonneg i (by omega : ((ns.map PyData.int).length : Int) ≠ 0)
  have hr1 := Int.emod_lt_of_pos i hz
  obtain ⟨j, hj⟩ := Int.eq_ofNat_of_zero_le hr0
  have hj2 : j < ns.length := by
    rw [hj, List.length_map] at hr1
    omega
  refine qd_asg (K := K) (d := .int ns[j]) (ed_ixL (ev0 rfl) (EvD.is (ed_op (ev1 rfl) (ed_cb (eda_cons (ev0 rfl) eda_nil) rdc_lenL) (rd_intC (g := fun i j => i % j) hz)) (by rw [hj])) (atI_nat (by rw [List.getElem?_map, List.getElem?_eq_getElem hj2]; rfl))) fun v H1 e1 hv => ?_
  rw [dp_int hv]
  refine qd_set (K := K) (j := 1) (e1 _ _ h1) (EvD.mono e1 (ed_op (ev1 rfl) ed_int (rd_int (g := fun i j => i + j)))) (ev_var rfl) ed_int (by show 1 < 2; decide) fun v2 H2 e2 hv2 => ?_
  rw [dp_int hv2]
  have P2 : PotAt (upd H2 p (.lst [.ref g, .int (i + 1)])) p := by
    refine ⟨g, i + 1, ns, upd_same, ?_, h3⟩
    rw [upd_ne (fun z => ?_)]
    · exact e2 _ _ (e1 _ _ h2)
    · rw [z, h1] at h2
      cases ns with
      | nil => cases h2
      | cons a r => cases h2
  refine sd_ret (K := K) (ed_op (ed_var rfl (.int _)) (ed_var rfl (.int _)) (rd_intC (g := fun i j => i % j) h0)) fun v3 H3 e3 hv3 => ?_
  rw [dp_int hv3]
  exact q _ H3 (Int.emod_nonneg _ (by omega)) (Int.emod_lt_of_pos _ h0) (((Ke.of_ex (e1.trans e2)).trans Ke.put).ex e3) (P2.ex e3)
theorem ok_length {f : Addr} {fd : FuncData} (F : Fun K "_law_length" "_law_length" sLength f fd) (C1 : Cal P w K mg base "_law_take" ["pot", "many"] 1 (spTake K)) : FnOk P w K mg base CX0 2 f fd ["pot", "scale"] (spLength K) := by
  obtain ⟨f1, fd1, G1, g1, kp1, b1⟩ := C1.ex
  refine F.ok scLength (fun vs H Q E ⟨_, _, _, _, h, _⟩ => by rw [h]; rfl) (fun cdv A outer s H vs Q E hr h => ?_)
  obtain ⟨p, sa, a, b, rfl, PA, hs, ha0, ha1, q⟩ := h
  have nd := scLength.nd
  have ns : sa ≠ p := PA.ne hs fun f i z => by cases z
  refine ⟨_, (pss_cons (ps_set (i := 2) nd rfl (Or.inl rfl) (pe_op op_add pe_int (pe_call G1 (hr.mono (by decide)) (by rfl) g1 kp1 b1 .nil pass0 (pa_cons (pv 0) (pa_cons pe_int pa_nil)))))
      (pss_cons (ps_set (i := 3) nd rfl (Or.inl rfl) (pe_ix (r := rIxL K) ix_list (pe_lst (pa_cons pe_int (pa_cons (pe_op op_pow pe_int pe_int) (pa_cons (pe_op op_pow pe_int pe_int) (pa_cons (pe_op op_pow pe_int pe_int) (pa_cons (pe_op op_pow pe_int pe_int) pa_nil)))))) (pe_call G1 (hr.mono (by decide)) (by rfl) g1 kp1 b1 .nil pass0 (pa_cons (pv 0) (pa_cons pe_int pa_nil))) (fun _ _ => rfl)))
      (pss_one (ps_ret (pe_ix (r := rIxL K) ix_list (pe_lst (pa_cons pe_int (pa_cons (pv 2) (pa_cons (pe_op op_mul (pv 2) (pe_ix (r := rIxL K) ix_list (pe_lst (pa_cons pe_int (pa_cons (pe_op op_pow pe_int pe_int) (pa_cons (pe_op op_pow pe_int pe_int) (pa_cons (pe_op op_pow pe_int pe_int) pa_nil))))) (pe_op op_mod (pe_ix (r := rIxL K) ix_list (pv 1) pe_int (fun _ _ => rfl)) pe_int) (fun _ _ => rfl))) (pa_cons (pe_op op_mul (pe_op op_add pe_int (pe_op op_mod (pv 2) pe_int)) (pv 3)) pa_nil))))) (pe_ix (r := rIxL K) ix_list (pv 1) pe_int (fun _ _ => rfl)) (fun _ _ => rfl)))))), ?_⟩
  refine qd_asgX (op_cL (ev_take PA rfl (m := 9) (by decide) ed_int fun low H1 l0 l1 e1 P1 => ⟨1, low, rfl, rfl, ?_⟩))
  have pw : ∀ {σ' : L2.St} {H' : Hp} {k : Int}, (0 ≤ k ∧ k ≤ 1000000) → EvD K (tOp (rI CPow fun i j => .int (i ^ j.toNat)) (tC (.int 10)) (tC (.int k))) σ' H' (.int (10 ^ k.toNat)) := fun hk => ed_op ed_int ed_int (rd_intC (g := fun i j => i ^ j.toNat) ⟨hk.1, hk.2, by decide⟩)
  refine qd_asgX (ix_take (ns := fars5) (m := 5) (EvN.i (K := K) (en_lst (eda_cons ed_int (eda_cons (pw (by decide)) (eda_cons (pw (by decide)) (eda_cons (pw (by decide)) (eda_cons (pw (by decide)) eda_nil))))) (by show 5 ≤ 100000; decide))) P1 rfl ed_int rfl (by decide) fun n x H2 hx e2 P2 => ?_)
  have hx1 := fars5_in x (List.mem_of_getElem? hx)
  have hs2 : H2 sa = some (.lst [.int a, .int b]) := e2 _ _ ns (e1 _ _ ns hs)
  have rs : ∀ {σ' : L2.St} {k : Nat} {x : Int}, σ'[1]? = some (some (.ref sa)) → [PyData.int a, .int b][k]? = some (.int x) → EvD K (tOp (rIxL K) (tVar 1) (tC (.int (k : Int)))) σ' H2 (.int x) := fun e h => ed_ixL (ed_var e (.lst (sq_of hs2) (dpA_ints [a, b]))) ed_int (atI_nat h)
  have hb0 := Int.emod_nonneg b (by decide : (4 : Int) ≠ 0)
  have hb1 := Int.emod_lt_of_pos b (by decide : (0 : Int) < 4)
  obtain ⟨y, hy, hym⟩ : ∃ y, atI (muls4.map PyData.int) (b % 4) = some (.int y) ∧ y ∈ muls4 := by
    obtain ⟨n, hn⟩ := Int.eq_ofNat_of_zero_le hb0
    have hl : n < muls4.length := by show n < 4; omega
    exact ⟨muls4[n], by rw [hn]; exact atI_nat (by rw [List.getElem?_map, List.getElem?_eq_getElem hl]; rfl), List.getElem_mem hl⟩
  have hy1 := muls4_in y hym
  obtain ⟨k, rfl⟩ := Int.eq_ofNat_of_zero_le ha0
  have hk : k < 4 := by omega
  let lw := 1 + low
  have hlw : 1 ≤ lw ∧ lw ≤ 9 := ⟨by show 1 ≤ 1 + low; omega, by show 1 + low ≤ 9; omega⟩
  let ls : List Int := [1, lw, lw * y, (1 + lw % 3) * x]
  have hm0 := Int.emod_nonneg lw (by decide : (3 : Int) ≠ 0)
  have hm1 := Int.emod_lt_of_pos lw (by decide : (0 : Int) < 3)
  have hls : ∀ z ∈ ls, 1 ≤ z ∧ z ≤ 10 ^ 30 := by
    have m1 : lw * y ≤ 9 * 10 ^ 29 := Int.mul_le_mul hlw.2 hy1.2 (by omega) (by decide)
    have m2 : 1 * 1 ≤ lw * y := Int.mul_le_mul hlw.1 hy1.1 (by decide) (by omega)
    have m3 : (1 + lw % 3) * x ≤ 3 * 10 ^ 28 := Int.mul_le_mul (by omega) hx1.2 (by omega) (by decide)
    have m4 : 1 * 1 ≤ (1 + lw % 3) * x := Int.mul_le_mul (by omega) hx1.1 (by decide) (by omega)
    intro z hz
    rcases List.mem_cons.mp hz with rfl | hz
    · exact ⟨by decide, by decide⟩
    rcases List.mem_cons.mp hz with rfl | hz
    · exact ⟨hlw.1, by omega⟩
    rcases List.mem_cons.mp hz with rfl | hz
    · exact ⟨by omega, by omega⟩
    rcases List.mem_cons.mp hz with rfl | hz
    · exact ⟨by omega, by omega⟩
    · cases hz
  have hk2 : k < ls.length := hk
  have e3 := hls ls[k] (List.getElem_mem hk2)
  refine sd_ret (K := K) (d := .int ls[k]) (ed_ixL (ds := ls.map PyData.int) (evn_d (en_lst (eda_cons ed_int (eda_cons (ed_var rfl (.int lw)) (eda_cons
    (ed_op (ed_var rfl (.int lw)) (ed_ixL (ds := muls4.map PyData.int) (evn_d (en_lst (eda_cons ed_int (eda_cons (pw (by decide)) (eda_cons (pw (by decide)) (eda_cons (pw (by decide)) eda_nil)))) (by show 4 ≤ 100000; decide))) (ed_op (rs (k := 1) rfl rfl) ed_int (rd_intC (g := fun i j => i % j) (by decide))) hy) (rd_intC (g := fun i j => i * j) (.inl ⟨by omega, by omega⟩))) (eda_cons
    (ed_op (ed_op ed_int (ed_op (ed_var rfl (.int lw)) ed_int (rd_intC (g := fun i j => i % j) (by decide))) (rd_int (g := fun i j => i + j))) (ed_var rfl (.int x)) (rd_intC (g := fun i j => i * j) (.inl ⟨by omega, by omega⟩))) eda_nil)))) (by show 4 ≤ 100000; decide))) (rs (k := 0) rfl rfl) (atI_nat (by rw [List.getElem?_map, List.getElem?_eq_getElem hk2]; rfl))) fun v H3 e4 hv => ?_
  rw [dp_int hv]
  exact q _ H3 e3.1 e3.2 (fun c o n h => e4 _ _ (e2 _ _ n (e1 _ _ n h))) (P2.ex e4)
end
end Lt

set_option maxRecDepth 100000
set_option maxHeartbeats 4000000
/-! _law_draws. -/
namespace Lt
open PySem PySem.Spec L2 Evl

section
variable {K : PySem.W.Frag} {σ : L2.St} {H H' : Hp} {ta tb te tc ts : TE} {tl : TA} {t u : TT} {D : Ends} {tz tw : TS} {Q : VK} {r : R2}
theorem q_forE {ns : List Int} {j1 j2 n2 : Nat} (h : EvN K te σ H (ns.map PyData.int)) (Pv : Addr → Nat → L2.St → Hp → Prop) (h0 : ∀ p H1, H p = none → Ex H H1 → H1 p = some (.lst (ns.map V.int)) → Pv p 0 σ H1)
    (hl : ∀ p i σ' H', Pv p i σ' H' → H' p = some (.lst (ns.map V.int)))
    (hs : ∀ p i x σ' H' H2, ns[i]? = some x → Pv p i σ' H' → Ex H' H2 → tw { D with nx := Pv p (i + 1), ct := Pv p (i + 1), bk := tz D } ((σ'.set j1 (some (.int (i : Int)))).set j2 (some (.int x))) H2)
    (hd : ∀ p σ' H', Pv p ns.length σ' H' → tz D σ' H') (hn : 2 = n2 := by rfl) : tSeq (tFor (iEnum K (tCons te tNil)) (gTup K n2 (gCons (gName j1) (gCons (gName j2) gNil))) tw) tz D σ H :=
  h H (Ex.refl H) _ fun p xs H1 hp e1 h1 hd1 => by
    rw [ints_dpA hd1] at h1
    refine ⟨p, _, rfl, sq_of h1, for_it (walk_enum (xs := ns.map V.int)) (Pv p) (h0 p H1 hp e1 h1) (fun i σ' H' _ P => sq_of (hl p i σ' H' P)) (fun i x σ' H3 H4 hi P hY => ?_) fun σ' H' P => hd p σ' H' (by rw [List.length_map] at P; exact P)⟩
    obtain ⟨T, x1, x2, rfl, hT, rfl, h3, h4⟩ := hY
    cases h3
    replace h4 : (ns.map V.int)[i]? = some x2 := h4
    rw [List.getElem?_map, Option.map_eq_some_iff] at h4
    obtain ⟨y, hy, rfl⟩ := h4
    exact ⟨T, _, rfl, st_of upd_same, hn, _, _, rfl, _, _, rfl, rfl, hs p i y σ' H3 _ hy P (Ex.new hT)⟩
theorem rdc_abs {i : Int} : RDC K (fun xs H Q => ∃ i, xs = [.int i] ∧ Q (.int (if i < 0 then -i else i)) H) [.int i] H (.int (if i < 0 then -i else i)) := fun H1 e xs hx Q q => by
  obtain ⟨x, rfl, h⟩ := dpA_1 hx
  cases dp_int h
  exact ⟨i, rfl, q _ H1 (Ex.refl H1) (.int _)⟩
theorem rdc_sum {ns : List Int} : RDC K (rSum K) [.list (ns.map PyData.int)] H (.int ns.sum) := fun H1 e xs hx Q q => by
  obtain ⟨x, rfl, h⟩ := dpA_1 hx
  obtain ⟨a, ys, rfl, hs, hd⟩ := dp_lst h
  rw [ints_dpA hd] at hs
  exact ⟨a, ns, rfl, hs, q _ H1 (Ex.refl H1) (.int _)⟩
/-- a list of ints grows by one -/
theorem sd_appI {j l : Nat} {ms : List Int} {x : Int} (hj : σ[j]? = some (some (.ref l))) (hl : H l = some (.lst (ms.map V.int))) (h : EvD K te σ H (.int x)) (hz : ms.length < 100000) (k : ∀ H1, Ex H H1 → D.nx σ (upd H1 l (.lst ((ms ++ [x]).map V.int)))) :
    tDrop (tBM K "list" rAppend (tVar j) (tCons te tNil)) D σ H :=
  sd_app hl (ev_var hj) h (by rw [List.length_map]; exact hz) fun v H1 e1 hv => by
    rw [dp_int hv]
    have := k H1 e1
    rw [List.map_append] at this
    exact this
theorem q_forN2 {ta : TA} {j : Nat} {lo n : Int} (h : EvDA K ta σ H [.int lo, .int n]) (hn : 0 ≤ lo ∧ lo ≤ 100000 ∧ -100000 ≤ n ∧ n ≤ 100000) (Pv : Nat → L2.St → Hp → Prop) (h0 : ∀ H1, Ex H H1 → Pv 0 σ H1)
    (hs : ∀ (i : Nat) σ' H', lo + (i : Int) < n → Pv i σ' H' → tw { D with nx := Pv (i + 1), ct := Pv (i + 1), bk := tz D } (σ'.set j (some (.int (lo + (i : Int))))) H') (hd : ∀ σ' H', Pv (n - lo).toNat σ' H' → tz D σ' H') : tSeq (tFor (iRng2 ta) (gName j) tw) tz D σ H :=
  q_forR2 (fun H1 a Q q => h H1 a Q fun vs H2 e2 hd => by
    obtain ⟨x, y, rfl, hx, hy⟩ := dpA_2 hd
    rw [dp_int hx, dp_int hy]
    exact q H2 e2) hn Pv h0 hs hd
end
def spDraws (K : PySem.W.Frag) : Sp := fun vs H Q _ => ∃ (a : Addr) (ns : List Int), vs = [.ref a, .int 900] ∧ SqL K H a (ns.map V.int) ∧ ns.length ≤ 63 ∧ ∀ (p : Addr) H', H p = none → Ex H H' → PotAt H' p → Q (.ref p) H'
def nDraws : List Str := ["script", "many", "found", "at", "cell", "left", "turn", "one", "stir"]
theorem scDraws : FnScope nDraws ["script", "many"] (defScope sDraws) := ⟨rfl, rfl, rfl, by decide +kernel, rfl, by decide +kernel, by decide +kernel⟩
section
variable {P : Program} {w : World} {K : PySem.W.Frag} {mg : Str → Option Value} {base : Heap}
theorem ok_draws {f : Addr} {fd : FuncData} (F : Fun K "_law_draws" "_law_draws" sDraws f fd) (T : Bt mg) : FnOk P w K mg base CX0 1 f fd ["script", "many"] (spDraws K) := by
  refine F.ok scDraws (fun vs H Q E ⟨_, _, h, _⟩ => by rw [h]; rfl) (fun cdv A outer s H vs Q E hr h => ?_)
  obtain ⟨a, ns, rfl, ha, hlen, q⟩ := h
  have nd := scDraws.nd
  refine ⟨_, (pss_cons (ps_set (i := 2) nd rfl (Or.inl rfl) (pe_lst pa_nil))
      (pss_cons (ps_for PassesOwn.never rfl (pi_enum (by rfl) T.enumerate (pa_cons (pe_slice sl_list (pv 0) po_none (po_some pe_int)) pa_nil)) (pg_tup rfl (pgs_cons (pg_name (i := 3) nd rfl (Or.inl rfl)) (pgs_cons (pg_name (i := 4) nd rfl (Or.inl rfl)) pgs_nil)))
      (pss_cons (ps_set (i := 5) nd rfl (Or.inl rfl) (pe_callB call_abs (by rfl) T.abs PyProof.Rows.boot_abs (pa_cons (pv 4) pa_nil)))
      (pss_one (ps_if (pt_cmpR op_ge (pv 5) (pe_op op_pow pe_int pe_int) (nomark _)) (pss_one (ps_for PassesOwn.never rfl (pi_range1 rfl T.range (pa_cons pe_int pa_nil)) (pg_name (i := 6) nd rfl (Or.inl rfl))
      (pss_cons (ps_if (pt_cmpR op_gt (pv 5) pe_int (nomark _)) (pss_one (ps_expr (pe_bm PySem.F.plainAttrs_list PySem.F.slot_list_append PySem.F.type_list_append mt_append (pv 2) (pa_cons (pe_op op_mod (pv 5) pe_int) pa_nil)))) pss_nil)
      (pss_one (ps_set (i := 5) nd rfl (Or.inl rfl) (pe_op op_fdiv (pv 5) pe_int)))))) (pss_one (ps_for PassesOwn.never rfl (pi_range1 rfl T.range (pa_cons pe_int pa_nil)) (pg_name (i := 6) nd rfl (Or.inl rfl))
      (pss_cons (ps_set (i := 7) nd rfl (Or.inl rfl) (pe_op op_mod (pe_op op_add (pe_op op_add (pe_op op_add (pe_op op_mul (pv 4) pe_int) (pe_op op_mul (pe_op op_mul pe_int (pv 6)) (pv 6))) (pe_op op_mul pe_int (pv 3))) pe_int) pe_int))
      (pss_one (ps_expr (pe_bm PySem.F.plainAttrs_list PySem.F.slot_list_append PySem.F.type_list_append mt_append (pv 2) (pa_cons (pe_op op_fdiv (pe_op op_mod (pe_op op_mul (pv 7) (pv 7)) pe_int) pe_int) pa_nil)))))))))))
      (pss_cons (ps_set (i := 8) nd rfl (Or.inl rfl) (pe_op op_mod (pe_op op_add pe_int (pe_op op_mul pe_int (pe_callB (cr_sum rfl) (by rfl) T.sum PyProof.Rows.boot_sum (pa_cons (pv 2) pa_nil)))) pe_int))
      (pss_cons (ps_for PassesOwn.never rfl (pi_range2 rfl T.range (pa_cons (pe_callB call_len_seq (by rfl) T.len PySem.boot_len (pa_cons (pv 2) pa_nil)) (pa_cons (pv 1) pa_nil))) (pg_name (i := 6) nd rfl (Or.inl rfl))
      (pss_cons (ps_set (i := 8) nd rfl (Or.inl rfl) (pe_op op_mod (pe_op op_add (pe_op op_add (pe_op op_mul (pv 8) (pv 8)) pe_int) (pv 6)) pe_int))
      (pss_one (ps_expr (pe_bm PySem.F.plainAttrs_list PySem.F.slot_list_append PySem.F.type_list_append mt_append (pv 2) (pa_cons (pe_op op_fdiv (pv 8) pe_int) pa_nil))))))
      (pss_one (ps_ret (pe_lst (pa_cons (pv 2) (pa_cons pe_int pa_nil))))))))), ?_⟩
  refine qd_asgN (K := K) (en_lst eda_nil) fun L xs0 H1 hL e1 h1 hd1 => ?_
  cases hd1
  have hsc : EvN K (tSl (rSlL K) (tVar 0) tNoPart (tPart (tC (.int 63)))) [some (.ref a), some (.int 900), some (.ref L), none, none, none, none, none, none] H1 ((cutA ns none (some 63)).map PyData.int) :=
    en_slI (ed_var rfl (.lst (ex_l e1 ha) (dpA_ints ns))) eo_none (eo_some (d_evI (K := K) ed_int))
  have hcut : (cutA ns none (some 63)).length ≤ 63 := by
    have := cutA_le ns none (some 63)
    omega
  refine q_forE hsc (fun p i σ' H' => (∃ y3 y4 y5 y6 y7 y8 ms, σ' = [some (.ref a), some (.int 900), some (.ref L), y3, y4, y5, y6, y7, y8] ∧ H' L = some (.lst (List.map V.int ms)) ∧ ms.length ≤ 16 * i) ∧ Ex H H' ∧ p ≠ L ∧ H' p = some (.lst ((cutA ns none (some 63)).map V.int)))
    (fun p H2 hp e2 h2 => ⟨⟨_, _, _, _, _, _, [], rfl, e2 _ _ h1, Nat.zero_le _⟩, e1.trans e2, (fun z => by rw [z, h1] at hp; cases hp), h2⟩) (fun p i σ' H' h => h.2.2.2) ?_ ?_
  · rintro p i x σ' H' H2 hi ⟨⟨y3, y4, y5, y6, y7, y8, ms, rfl, hl, hb⟩, eH, np, hp⟩ e2
    have hi63 : i < 63 := by
      have := (List.getElem?_eq_some_iff.mp hi).1
      omega
    refine qd_asg (K := K) (ed_cb (eda_cons (ed_var rfl (.int x)) eda_nil) rdc_abs) fun v H3 e3 hv => ?_
    rw [dp_int hv]
    have eH3 := eH.trans (e2.trans e3)
    have hl3 : H3 L = some (.lst (List.map V.int ms)) := e3 _ _ (e2 _ _ hl)
    have hp3 : H3 p = some (.lst ((cutA ns none (some 63)).map V.int)) := e3 _ _ (e2 _ _ hp)
    refine s_if (b := decide (((10 : Int) ^ (18 : Int).toNat) ≤ (if x < 0 then -x else x))) (dt_test (K := K) (ed_op (ed_var rfl (.int _)) (ed_op ed_int ed_int (rd_intC (g := fun i j => i ^ j.toNat) ⟨by decide, by decide, by decide⟩)) (rd_bl (g := fun i j => decide (j ≤ i))))) (fun _ H4 e4 => ?_) fun hsm H4 e4 => ?_
    · refine s_forN (K := K) (n := 16) (eda_cons ed_int eda_nil) (by omega) (fun k σ' H' => (∃ z y6 y7 y8 ms, σ' = [some (.ref a), some (.int 900), some (.ref L), some (.int (i : Int)), some (.int x), some (.int z), y6, y7, y8] ∧ H' L = some (.lst (List.map V.int ms)) ∧ ms.length ≤ 16 * i + k) ∧ Ex H H' ∧ H' p = some (.lst ((cutA ns none (some 63)).map V.int)))
        (fun H5 e5 => ⟨⟨_, _, _, _, ms, rfl, e5 _ _ (e4 _ _ hl3), hb⟩, eH3.trans (e4.trans e5), e5 _ _ (e4 _ _ hp3)⟩) ?_ ?_
      · rintro k σ' H5 hk ⟨⟨z, y6, y7, y8, ms, rfl, hl, hb⟩, eH, hp⟩
        have tail : ∀ H6 ms' y6, H6 L = some (.lst (List.map V.int ms')) → ms'.length ≤ 16 * i + (k + 1) → Ex H H6 → H6 p = some (.lst ((cutA ns none (some 63)).map V.int)) → ∀ {D : Ends}, (∀ σ' H', ((∃ z y6 y7 y8 ms, σ' = [some (.ref a), some (.int 900), some (.ref L), some (.int (i : Int)), some (.int x), some (.int z), y6, y7, y8] ∧ H' L = some (.lst (List.map V.int ms)) ∧ ms.length ≤ 16 * i + (k + 1)) ∧ Ex H H' ∧ H' p = some (.lst ((cutA ns none (some 63)).map V.int))) → D.nx σ' H') →
            tAsg (tOp (rI CDiv fun i j => .int (i / j)) (tVar 5) (tC (.int 1000003))) (gName 5) D [some (.ref a), some (.int 900), some (.ref L), some (.int (i : Int)), some (.int x), some (.int z), y6, y7, y8] H6 := fun H6 ms' y6 hl hb eH hp D hD => by
          refine sd_asg (K := K) (ed_op (ed_var rfl (.int z)) ed_int (rd_intC (g := fun i j => i / j) ⟨by decide, by decide⟩)) fun v H7 e7 hv => ?_
          rw [dp_int hv]
          exact hD _ _ ⟨⟨_, _, _, _, ms', rfl, e7 _ _ hl, hb⟩, eH.trans e7, e7 _ _ hp⟩
        refine q_when (b := decide ((0 : Int) < z)) (dt_test (K := K) (ed_op (ed_var rfl (.int z)) ed_int (rd_bl (g := fun i j => decide (j < i))))) (fun _ H6 e6 => ?_) fun _ H6 e6 => ?_
        · refine sd_appI (K := K) (ms := ms) (x := z % 1000003) rfl (e6 _ _ hl) (ed_op (ed_var rfl (.int z)) ed_int (rd_intC (g := fun i j => i % j) (by decide))) (by omega) fun H7 e7 => ?_
          refine tail _ (ms ++ [z % 1000003]) _ upd_same ?_ ((eH.trans (e6.trans e7)).mut hL) ?_ fun _ _ h => h
          · rw [List.length_append, List.length_singleton]
            omega
          · rw [upd_ne np]
            exact e7 _ _ (e6 _ _ hp)
        · exact tail _ ms _ (e6 _ _ hl) (by omega) (eH.trans e6) (e6 _ _ hp) fun _ _ h => h
      · rintro σ' H5 ⟨⟨z, y6, y7, y8, ms, rfl, hl, hb⟩, eH, hp⟩
        exact ⟨⟨_, _, _, _, _, _, ms, rfl, hl, by omega⟩, eH, np, hp⟩
    · have hx : -(2 ^ 64) < x ∧ x < 2 ^ 64 := by
        have := of_decide_eq_false hsm
        have e18 : (10 : Int) ^ (18 : Int).toNat = 1000000000000000000 := by decide
        rw [e18] at this
        split at this <;> constructor <;> omega
      refine s_forN (K := K) (n := 4) (eda_cons ed_int eda_nil) (by omega) (fun k σ' H' => (∃ z y6 y7 y8 ms, σ' = [some (.ref a), some (.int 900), some (.ref L), some (.int (i : Int)), some (.int x), z, y6, y7, y8] ∧ H' L = some (.lst (List.map V.int ms)) ∧ ms.length ≤ 16 * i + k) ∧ Ex H H' ∧ H' p = some (.lst ((cutA ns none (some 63)).map V.int)))
        (fun H5 e5 => ⟨⟨_, _, _, _, ms, rfl, e5 _ _ (e4 _ _ hl3), hb⟩, eH3.trans (e4.trans e5), e5 _ _ (e4 _ _ hp3)⟩) ?_ ?_
      · rintro k σ' H5 hk ⟨⟨z, y6, y7, y8, ms, rfl, hl, hb⟩, eH, hp⟩
        have mul : ∀ {a b : Int}, -(2 ^ 64) < a ∧ a < 2 ^ 64 → CMul a b := fun h => .inl h
        refine qd_asg (K := K) (d := .int ((x * 48271 + 977 * (k : Int) * (k : Int) + 131 * (i : Int) + 1) % 2147483647)) (ed_op (ed_op (ed_op (ed_op (ed_op (ed_var rfl (.int x)) ed_int (rd_intC (g := fun i j => i * j) (mul hx)))
          (ed_op (ed_op ed_int (ed_var rfl (.int (k : Int))) (rd_intC (g := fun i j => i * j) (mul ⟨by decide, by decide⟩))) (ed_var rfl (.int (k : Int))) (rd_intC (g := fun i j => i * j) (mul ⟨by omega, by omega⟩))) (rd_int (g := fun i j => i + j)))
          (ed_op ed_int (ed_var rfl (.int (i : Int))) (rd_intC (g := fun i j => i * j) (mul ⟨by decide, by decide⟩))) (rd_int (g := fun i j => i + j))) ed_int (rd_int (g := fun i j => i + j))) ed_int (rd_intC (g := fun i j => i % j) (by decide))) fun v H6 e6 hv => ?_
        rw [dp_int hv]
        generalize hw : (x * 48271 + 977 * (k : Int) * (k : Int) + 131 * (i : Int) + 1) % 2147483647 = w
        have hw0 : 0 ≤ w := by rw [← hw]; exact Int.emod_nonneg _ (by decide)
        have hw1 : w < 2147483647 := by rw [← hw]; exact Int.emod_lt_of_pos _ (by decide)
        refine sd_appI (K := K) (ms := ms) (x := w * w % 2147483629 / 64) rfl (e6 _ _ hl) (ed_op (ed_op (ed_op (ed_var rfl (.int w)) (ed_var rfl (.int w)) (rd_intC (g := fun i j => i * j) (mul ⟨by omega, by omega⟩))) ed_int (rd_intC (g := fun i j => i % j) (by decide))) ed_int (rd_intC (g := fun i j => i / j) ⟨by decide, by decide⟩)) (by omega) fun H7 e7 => ?_
        refine ⟨⟨_, _, _, _, ms ++ [w * w % 2147483629 / 64], rfl, upd_same, ?_⟩, (eH.trans (e6.trans e7)).mut hL, ?_⟩
        · rw [List.length_append, List.length_singleton]
          omega
        · rw [upd_ne np]
          exact e7 _ _ (e6 _ _ hp)
      · rintro σ' H5 ⟨⟨z, y6, y7, y8, ms, rfl, hl, hb⟩, eH, hp⟩
        exact ⟨⟨_, _, _, _, _, _, ms, rfl, hl, by omega⟩, eH, np, hp⟩
  · rintro p σ' H' ⟨⟨y3, y4, y5, y6, y7, y8, ms, rfl, hl, hb⟩, eH, np, hp⟩
    have dl : ∀ {H2 : Hp}, Ex H' H2 → Dp K H2 (.ref L) (.list (ms.map PyData.int)) := fun e => .lst (sq_of (e _ _ hl)) (dpA_ints ms)
    refine qd_asg (K := K) (d := .int ((7919 + 40693 * ms.sum) % 2147483629)) (ed_op (ed_op ed_int (ed_op ed_int (ed_cb (eda_cons (ed_var rfl (dl (Ex.refl _))) eda_nil) rdc_sum) (rd_intC (g := fun i j => i * j) (.inl ⟨by decide, by decide⟩))) (rd_int (g := fun i j => i + j))) ed_int (rd_intC (g := fun i j => i % j) (by decide))) fun v H2 e2 hv => ?_
    rw [dp_int hv]
    have hw0 : 0 ≤ (7919 + 40693 * ms.sum) % 2147483629 := Int.emod_nonneg _ (by decide)
    have hw1 : (7919 + 40693 * ms.sum) % 2147483629 < 2147483629 := Int.emod_lt_of_pos _ (by decide)
    have hms : ms.length ≤ 1008 := by omega
    refine q_forN2 (K := K) (lo := (ms.length : Int)) (n := 900) (eda_cons (EvD.is (ed_cb (eda_cons (ed_var rfl (dl e2)) eda_nil) rdc_lenL) (by rw [List.length_map])) (eda_cons (ed_var rfl (.int _)) eda_nil)) ⟨by omega, by omega, by omega, by omega⟩
      (fun k σ' H' => (∃ y6 z ms', σ' = [some (.ref a), some (.int 900), some (.ref L), y3, y4, y5, y6, y7, some (.int z)] ∧ 0 ≤ z ∧ z < 2147483629 ∧ H' L = some (.lst (List.map V.int ms')) ∧ ms'.length = ms.length + k) ∧ Ex H H')
      (fun H3 e3 => ⟨⟨_, _, ms, rfl, hw0, hw1, e3 _ _ (e2 _ _ hl), rfl⟩, eH.trans (e2.trans e3)⟩) ?_ ?_
    · rintro k σ' H3 hk ⟨⟨y6, z, ms', rfl, hz0, hz1, hl, hb⟩, eH⟩
      refine qd_asg (K := K) (d := .int ((z * z + 40692 + ((ms.length : Int) + (k : Int))) % 2147483629)) (ed_op (ed_op (ed_op (ed_op (ed_var rfl (.int z)) (ed_var rfl (.int z)) (rd_intC (g := fun i j => i * j) (.inl ⟨by omega, by omega⟩))) ed_int (rd_int (g := fun i j => i + j))) (ed_var rfl (.int _)) (rd_int (g := fun i j => i + j))) ed_int (rd_intC (g := fun i j => i % j) (by decide))) fun v H4 e4 hv => ?_
      rw [dp_int hv]
      generalize hw : (z * z + 40692 + ((ms.length : Int) + (k : Int))) % 2147483629 = w
      have hw0 : 0 ≤ w := by rw [← hw]; exact Int.emod_nonneg _ (by decide)
      have hw1 : w < 2147483629 := by rw [← hw]; exact Int.emod_lt_of_pos _ (by decide)
      refine sd_appI (K := K) (ms := ms') (x := w / 8) rfl (e4 _ _ hl) (ed_op (ed_var rfl (.int w)) ed_int (rd_intC (g := fun i j => i / j) ⟨by decide, by decide⟩)) (by omega) fun H5 e5 => ?_
      refine ⟨⟨_, _, ms' ++ [w / 8], rfl, hw0, hw1, upd_same, ?_⟩, (eH.trans (e4.trans e5)).mut hL⟩
      rw [List.length_append, List.length_singleton]
      omega
    · rintro σ' H3 ⟨⟨y6, z, ms', rfl, hz0, hz1, hl, hb⟩, eH⟩
      refine ⟨_, rfl, sz_of (by show 2 ≤ 100000; decide), fun r hr => q r _ (fresh_back eH hr) (eH.trans (Ex.new hr)) ⟨L, 0, ms', upd_same, ?_, by omega⟩⟩
      rw [upd_ne (ne_of_none hl hr)]
      exact hl
end
end Lt

set_option maxRecDepth 100000
set_option maxHeartbeats 4000000
/-! The drawn web is good: plain. -/
namespace Lt
open PySem PySem.Spec L2 Evl

abbrev Ents := List ((Int × Int) × V)
def keysE (L : Ents) : List (Int × Int) := L.map (·.1)
structure Ok (n b : Nat) (L : Ents) : Prop where
  apart : (keysE L).Nodup
  few : L.length ≤ b
  each : ∀ e ∈ L, ∃ (i j : Nat) (l : Int), e = (((i : Int), (j : Int)), V.int l) ∧ i < j ∧ j < n ∧ 1 ≤ l ∧ l ≤ 10 ^ 30
def nk (a b : Nat) : Int × Int := (((min a b : Nat) : Int), ((max a b : Nat) : Int))

theorem pk_inj {z w : Int × Int} (h : pk z = pk w) : z = w := by
  unfold pk at h
  injection h with h1 h2
  injection h2 with h2 _
  injection h1 with h1
  injection h2 with h2
  exact Prod.ext h1 h2
theorem val_ent (L : Ents) (z : Int × Int) : valV (L.map entOf) (pk z) = valV L z := by
  induction L with
  | nil => rfl
  | cons e r ih =>
    rw [List.map_cons]
    by_cases h : e.1 = z
    · rw [valV_pos (p := e) h, valV_pos (p := entOf e) (by show pk e.1 = pk z; rw [h])]
      rfl
    · rw [valV_neg (p := e) h, valV_neg (p := entOf e) (fun w => h (pk_inj w)), ih]
theorem put_ent (L : Ents) (z : Int × Int) (v : V) : putK (L.map entOf) (pk z) v = (putK L z v).map entOf := by
  have ha : ((L.map entOf).any fun kv => decide (kv.1 = pk z)) = (L.any fun kv => decide (kv.1 = z)) := by
    rw [valV_any, valV_any, val_ent]
  unfold putK
  rw [ha]
  split
  · rw [List.map_map, List.map_map]
    refine List.map_congr_left fun e _ => ?_
    show (if pk e.1 = pk z then (pk e.1, v) else (pk e.1, e.2)) = entOf (if e.1 = z then (e.1, v) else e)
    by_cases h : e.1 = z
    · rw [if_pos h, if_pos (by rw [h])]
      rfl
    · rw [if_neg h, if_neg (fun w => h (pk_inj w))]
      rfl
  · rw [List.map_append]
    rfl
theorem keys_put (L : Ents) (z : Int × Int) (v : V) : keysE (putK L z v) = if z ∈ keysE L then keysE L else keysE L ++ [z] := by
  have hiff : ((L.any fun kv => decide (kv.1 = z)) = true) ↔ z ∈ keysE L := by
    rw [List.any_eq_true]
    constructor
    · rintro ⟨e, he, h⟩
      exact List.mem_map.mpr ⟨e, he, of_decide_eq_true h⟩
    · intro h
      obtain ⟨e, he, rfl⟩ := List.mem_map.mp h
      exact ⟨e, he, decide_eq_true rfl⟩
  unfold putK
  by_cases h : z ∈ keysE L
  · rw [if_pos h, if_pos (hiff.mpr h)]
    unfold keysE
    rw [List.map_map]
    refine List.map_congr_left fun e _ => ?_
    show (if e.1 = z then (e.1, v) else e).1 = e.1
    split <;> rfl
  · rw [if_neg h, if_neg (fun w => h (hiff.mp w))]
    unfold keysE
    rw [List.map_append]
    rfl
theorem mem_put {L : Ents} {z : Int × Int} {v : V} {e : (Int × Int) × V} (h : e ∈ putK L z v) : e ∈ L ∨ e = (z, v) := by
  unfold putK at h
  split at h
  · obtain ⟨d, hd, rfl⟩ := List.mem_map.mp h
    by_cases hz : d.1 = z
    · rw [if_pos hz, hz]
      exact .inr rfl
    · rw [if_neg hz]
      exact .inl hd
  · rcases List.mem_append.mp h with h | h
    · exact .inl h
    · exact .inr (List.mem_singleton.mp h)
theorem Ok.put {n b : Nat} {L : Ents} (O : Ok n b L) {i j : Nat} {l : Int} (h1 : i < j) (h2 : j < n) (h3 : 1 ≤ l) (h4 : l ≤ 10 ^ 30) : Ok n (b + 1) (putK L ((i : Int), (j : Int)) (.int l)) where
  apart := by
    rw [keys_put]
    split
    · exact O.apart
    · rename_i h
      rw [List.nodup_append]
      refine ⟨O.apart, by simp, fun a ha c hc => ?_⟩
      rw [List.mem_singleton.mp hc]
      exact fun w => h (w ▸ ha)
  few := Nat.le_trans (length_putK L _ _) (Nat.succ_le_succ O.few)
  each := fun e he => by
    rcases mem_put he with h | rfl
    · exact O.each e h
    · exact ⟨i, j, l, rfl, h1, h2, h3, h4⟩
theorem Ok.mono {n b c : Nat} {L : Ents} (O : Ok n b L) (h : b ≤ c) : Ok n c L := ⟨O.apart, Nat.le_trans O.few h, O.each⟩
theorem Ok.nil (n : Nat) : Ok n 0 [] := ⟨List.nodup_nil, Nat.le_refl _, fun e h => by cases h⟩
theorem Ok.val {n b : Nat} {L : Ents} (O : Ok n b L) {z : Int × Int} (h : z ∈ keysE L) : ∃ (i j : Nat) (l : Int), z = ((i : Int), (j : Int)) ∧ valV L z = some (.int l) ∧ i < j ∧ j < n ∧ 1 ≤ l ∧ l ≤ 10 ^ 30 := by
  have hs : (valV L z).isSome = true := by
    rw [← valV_any, List.any_eq_true]
    obtain ⟨e, he, rfl⟩ := List.mem_map.mp h
    exact ⟨e, he, decide_eq_true rfl⟩
  unfold valV at hs ⊢
  cases hf : L.find? fun kv => decide (kv.1 = z) with
  | none =>
    rw [hf] at hs
    cases hs
  | some e =>
    have he := List.mem_of_find?_eq_some hf
    have hz : e.1 = z := of_decide_eq_true (List.find?_some (p := fun kv : (Int × Int) × V => decide (kv.1 = z)) hf)
    obtain ⟨i, j, l, rfl, h1, h2, h3, h4⟩ := O.each e he
    exact ⟨i, j, l, hz.symm, rfl, h1, h2, h3, h4⟩
/-- the keys stay -/
theorem keys_mono {L : Ents} {z y : Int × Int} {v : V} (h : y ∈ keysE L) : y ∈ keysE (putK L z v) := by
  rw [keys_put]
  split
  · exact h
  · exact List.mem_append_left _ h
theorem key_put (L : Ents) (z : Int × Int) (v : V) : z ∈ keysE (putK L z v) := by
  rw [keys_put]
  split
  · assumption
  · exact List.mem_append_right _ (List.mem_singleton_self z)
def Tr (ns : List Nat) (L : Ents) (m : Nat) : Prop := ∀ i, 1 ≤ i → i < m → ∃ x u v, x < i ∧ ns[x]? = some u ∧ ns[i]? = some v ∧ nk u v ∈ keysE L
theorem Tr.mono {ns : List Nat} {L : Ents} {m : Nat} (T : Tr ns L m) {z : Int × Int} {v : V} : Tr ns (putK L z v) m := fun i h1 h2 => by
  obtain ⟨x, u, w, h3, h4, h5, h6⟩ := T i h1 h2
  exact ⟨x, u, w, h3, h4, h5, keys_mono h6⟩
def lenOf (L : Ents) (z : Int × Int) : Int := match valV L z with
  | some (.int l) => l
  | _ => 1
def tieOf (L : Ents) (z : Int × Int) : Tie := (z.1.toNat, z.2.toNat, lenOf L z)
theorem Walk.rev {W : Web} {a b : Nat} {x : Int} (h : Walk W a b x) : Walk W b a x := by
  induction h with
  | nil => exact .nil _
  | cons e _ ih =>
    rw [Int.add_comm]
    exact ih.snoc e.symm
theorem drawn_good {n : Nat} {ns : List Nat} {L : Ents} {ks : List (Int × Int)} (h1 : 1 ≤ n) (h10 : n ≤ 10) (O : Ok n 24 L) (hp : ns.Perm (List.range n)) (T : Tr ns L n) (hk : ks.Perm (keysE L)) : Good (n, ks.map (tieOf L)) := by
  have hin : ∀ z, z ∈ ks ↔ z ∈ keysE L := fun z => hk.mem_iff
  have hlen : ns.length = n := by rw [hp.length_eq, List.length_range]
  have hedge : ∀ u v, nk u v ∈ keysE L → ∃ l, Edge (n, ks.map (tieOf L)) u v l := fun u v h => by
    have hm : tieOf L (nk u v) ∈ ks.map (tieOf L) := List.mem_map.mpr ⟨_, (hin _).mpr h, rfl⟩
    refine ⟨lenOf L (nk u v), ?_⟩
    have e : tieOf L (nk u v) = (min u v, max u v, lenOf L (nk u v)) := by
      unfold tieOf nk
      simp only [Int.toNat_natCast]
    rw [e] at hm
    by_cases c : u ≤ v
    · rw [Nat.min_eq_left c, Nat.max_eq_right c] at hm
      exact .inl hm
    · rw [Nat.min_eq_right (by omega), Nat.max_eq_left (by omega)] at hm
      exact .inr hm
  have hroot : ∀ (m i : Nat), i < m → i < n → ∃ r u x, ns[0]? = some r ∧ ns[i]? = some u ∧ Walk (n, ks.map (tieOf L)) r u x := by
    intro m
    induction m with
    | zero => exact fun i h => by omega
    | succ m ih =>
      intro i him hin
      by_cases h0 : i = 0
      · subst h0
        have : ns[0]? = some ns[0] := List.getElem?_eq_getElem (by omega)
        exact ⟨_, _, 0, this, this, .nil _⟩
      · obtain ⟨x, u, v, hx, hu, hv, hz⟩ := T i (by omega) hin
        obtain ⟨r, u', y, hr, hu', hw⟩ := ih x (by omega) (by omega)
        rw [hu] at hu'
        injection hu' with hu'
        subst hu'
        obtain ⟨l, hl⟩ := hedge _ _ hz
        exact ⟨r, v, _, hr, hv, hw.snoc hl⟩
  refine ⟨h1, h10, ?_, ?_, ?_, ?_⟩
  · have : ks.length = L.length := by rw [hk.length_eq]; exact List.length_map _
    show (ks.map (tieOf L)).length ≤ 40
    rw [List.length_map, this]
    have := O.few
    omega
  · intro t ht
    obtain ⟨z, hz, rfl⟩ := List.mem_map.mp ht
    obtain ⟨i, j, l, rfl, hv, h2, h3, h4, h5⟩ := O.val ((hin _).mp hz)
    have e : tieOf L ((i : Int), (j : Int)) = (i, j, l) := by
      unfold tieOf lenOf
      rw [hv]
      rfl
    rw [e]
    exact ⟨h2, h3, h4, h5⟩
  · show ((ks.map (tieOf L)).map fun t => (t.1, t.2.1)).Nodup
    rw [List.map_map]
    unfold List.Nodup
    rw [List.pairwise_map]
    have : ks.Nodup := hk.nodup_iff.mpr O.apart
    refine List.Pairwise.imp_of_mem (fun {a b} ha hb hab w => hab ?_) this
    obtain ⟨i, j, l, rfl, _⟩ := O.val ((hin _).mp ha)
    obtain ⟨i', j', l', rfl, _⟩ := O.val ((hin _).mp hb)
    injection w with w1 w2
    have w1 : i = i' := by simpa [tieOf] using w1
    have w2 : j = j' := by simpa [tieOf] using w2
    rw [w1, w2]
  · intro a b ha hb
    have find : ∀ c, c < n → ∃ i, i < n ∧ ns[i]? = some c := fun c hc => by
      have : c ∈ ns := hp.mem_iff.mpr (List.mem_range.mpr hc)
      obtain ⟨i, hi, e⟩ := List.getElem_of_mem this
      exact ⟨i, by omega, by rw [List.getElem?_eq_getElem hi, e]⟩
    obtain ⟨i, hi, ei⟩ := find a ha
    obtain ⟨j, hj, ej⟩ := find b hb
    obtain ⟨r, u, x, hr, hu, hw⟩ := hroot n i hi hi
    obtain ⟨r', u', x', hr', hu', hw'⟩ := hroot n j hj hj
    rw [ei] at hu
    injection hu with hu
    subst hu
    rw [ej] at hu'
    injection hu' with hu'
    subst hu'
    rw [hr] at hr'
    injection hr' with hr'
    subst hr'
    exact ⟨_, hw.rev.app hw'⟩
theorem insert_perm {ns : List Nat} {m : Nat} (h : ns.Perm (List.range m)) (r : Nat) : (ns.take r ++ [m] ++ ns.drop r).Perm (List.range (m + 1)) := by
  rw [List.range_succ, List.append_assoc]
  refine List.Perm.trans (List.perm_append_comm_assoc _ _ _) ?_
  rw [List.take_append_drop]
  exact List.perm_append_comm.trans (h.append_right [m])
end Lt

set_option maxRecDepth 100000
set_option maxHeartbeats 4000000
/-! _law_web. -/
namespace Lt
open PySem PySem.Spec L2 Evl
theorem Ke.mut {p q : Addr} {H H' : Hp} {o : HO} (e : Ke p H H') (h : H q = none) : Ke p H (upd H' q o) := fun a u n ha => by
  rw [upd_ne (ne_of_none ha h)]
  exact e a u n ha
theorem PotAt.updL {p N : Addr} {H : Hp} (P : PotAt H p) (hN : N ≠ p) {zs : List Int} (hz : 0 < zs.length) : PotAt (upd H N (.lst (zs.map V.int))) p := by
  obtain ⟨f, i, ns, h1, h2, h3⟩ := P
  by_cases e : f = N
  · subst e
    exact ⟨f, i, zs, by rw [upd_ne hN.symm]; exact h1, upd_same, hz⟩
  · exact ⟨f, i, ns, by rw [upd_ne hN.symm]; exact h1, by rw [upd_ne e]; exact h2, h3⟩
theorem PotAt.updD {p F : Addr} {H : Hp} (P : PotAt H p) {k k2 : List (List Key × V)} (hF : H F = some (.dT k)) : PotAt (upd H F (.dT k2)) p := by
  obtain ⟨f, i, ns, h1, h2, h3⟩ := P
  refine ⟨f, i, ns, ?_, ?_, h3⟩
  · rw [upd_ne (fun z => ?_)]
    · exact h1
    · rw [z, hF] at h1
      cases h1
  · rw [upd_ne (fun z => ?_)]
    · exact h2
    · rw [z, hF] at h2
      cases h2
section
variable {K : PySem.W.Frag} {σ : L2.St} {H H' : Hp} {ta tb te tc ts : TE} {tl tr : TA} {t u : TT} {D : Ends} {tz tw : TS} {Q : VK} {r : R2}
theorem tup_X (h : tl σ H fun xs H1 => xs.length ≤ sizeLine ∧ ∀ p, H1 p = none → Q (.ref p) (upd H1 p (.tup xs))) : tTup tl σ H Q := h
theorem cons_X {Q : List V → Hp → Prop} (h : ta σ H fun x H1 => tr σ H1 fun xs H2 => Q (x :: xs) H2) : tCons ta tr σ H Q := h
theorem cb_X {f : List V → Hp → VK → Prop} (h : tl σ H fun vs H1 => f vs H1 Q) : tCB f tl σ H Q := h
theorem dput_X {td ty tv : TE} (h : tv σ H fun v H1 => td σ H1 fun x H2 => ty σ H2 fun y H3 => ∃ a H4, x = .ref a ∧ DPut H3 a y v H4 ∧ D.nx σ H4) : sDPut td ty tv D σ H := h
theorem ix_take2 {E : XK} {j : Nat} {p : Addr} {ns : List Int} {m : Int} (ha : EvI ta σ H ns) (P : PotAt H p) (hp : σ[j]? = some (some (.ref p))) (hm : EvD K te σ H (.int m)) (hl : m ≤ (ns.length : Int)) (h0 : 0 < m)
    (k : ∀ (n : Nat) (x : Int) H', (n : Int) < m → ns[n]? = some x → Ke p H H' → PotAt H' p → Q (.int x) H') : tOp (rIxL K) ta (tCall (spTake K) [] E (tCons (tVar j) (tCons te tNil))) σ H Q := by
  refine op_X (ha _ fun l H1 e1 h1 => ev_take (P.ex e1) hp (m := m) h0 (hm.mono e1) fun r H2 r0 r1 e2 P2 => ?_)
  obtain ⟨n, rfl⟩ := Int.eq_ofNat_of_zero_le r0
  have hn : n < ns.length := by omega
  have hx : ns[n]? = some ns[n] := List.getElem?_eq_getElem hn
  exact ⟨l, _, (n : Int), .int ns[n], rfl, rfl, sq_of (e2 _ _ ((P.ex e1).ne h1 ints_ne) h1), atI_nat (by rw [List.getElem?_map, hx]; rfl), k n _ H2 r1 hx (fun a o ne h => e2 a o ne (e1 a o h)) P2⟩
theorem ev_length {E : XK} {j j3 : Nat} {p sa : Addr} {a b : Int} (P : PotAt H p) (hp : σ[j]? = some (some (.ref p))) (hs : σ[j3]? = some (some (.ref sa))) (h : H sa = some (.lst [.int a, .int b])) (ha : 0 ≤ a ∧ a < 4)
    (k : ∀ (r : Int) H', 1 ≤ r → r ≤ 10 ^ 30 → Ke p H H' → PotAt H' p → Q (.int r) H') : tCall (spLength K) [] E (tCons (tVar j) (tCons (tVar j3) tNil)) σ H Q :=
  ⟨_, hp, _, hs, p, sa, a, b, rfl, P, h, ha.1, ha.2, k⟩
theorem ints_alike (u v : Int) : PySem.W.AlikeAll [.int u, .int v] ∧ PyData.depthAll [.int u, .int v] ≤ 60 ∧ PyData.canLayAll0 [.int u, .int v] = true := by
  refine ⟨⟨fun x hx y hy => ?_, fun x hx => ?_⟩, ?_, ?_⟩
  · have h : ∀ z, z ∈ [PyData.int u, PyData.int v] → ∃ i, z = .int i := fun z hz => by
      rcases List.mem_cons.mp hz with rfl | hz
      · exact ⟨_, rfl⟩
      · exact ⟨_, List.mem_singleton.mp hz⟩
    obtain ⟨i, rfl⟩ := h x hx
    obtain ⟨j, rfl⟩ := h y hy
    simp [PySem.W.alike]
  · intro z
    subst z
    simp at hx
  · simp [PyData.depthAll, PyData.depth]
  · simp [PyData.canLayAll0, PyData.canLay0]
theorem rdc_minT {u v : Int} : RDC K (rMinD K) [.tuple [.int u, .int v]] H (.int (min u v)) := fun H1 e xs hx Q q => by
  obtain ⟨x, rfl, h⟩ := dpA_1 hx
  have ok := ints_alike u v
  exact ⟨x, _, _, rfl, .inr h, ok.1, ok.2.1, ok.2.2, fun w hw => q w H1 (Ex.refl H1) (by rw [show [PyData.int v] = [v].map PyData.int from rfl, PySem.W.minD_ints] at hw; exact hw)⟩
theorem rdc_maxT {u v : Int} : RDC K (rMaxD K) [.tuple [.int u, .int v]] H (.int (max u v)) := fun H1 e xs hx Q q => by
  obtain ⟨x, rfl, h⟩ := dpA_1 hx
  have ok := ints_alike u v
  exact ⟨x, _, _, rfl, .inr h, ok.1, ok.2.1, ok.2.2, fun w hw => q w H1 (Ex.refl H1) (by rw [show [PyData.int v] = [v].map PyData.int from rfl, PySem.W.maxD_ints] at hw; exact hw)⟩
theorem ev_lenT {j : Nat} {F : Addr} {kvs : List (List Key × V)} (h : σ[j]? = some (some (.ref F))) (hF : H F = some (.dT kvs)) : Ev (tCB rLenT (tCons (tVar j) tNil)) σ H (.int (kvs.length : Int)) := fun H1 e Q q =>
  ⟨_, h, F, kvs, rfl, e _ _ hF, q H1 (Ex.refl H1)⟩
theorem lcV_go {α : Type} {j : Nat} {vs : List Nat} (as : List α) (en : α → V) (g : α → PyData) {l : Addr} {Q : VK} (hs : SqL K H l (as.map en)) (hn : as.length ≤ 40000) (hw : ∀ x, wipe ((wipe σ vs).set j (some x)) vs = wipe σ vs)
    (he : ∀ a ∈ as, EvD K te ((wipe σ vs).set j (some (en a))) H (g a)) (hz : ∀ a ∈ as, noL (g a) = true)
    (q : ∀ p xs H2, H p = none → Ex H H2 → H2 p = some (.lst xs) → DpAll K H2 xs (as.map g) → Q (.ref p) H2) : lcGo (gName j) tYes te vs σ Q (Itl K l) H := by
  intro L hL
  have hlx : (as.map en).length = as.length := List.length_map _
  refine lc_list (xs := as.map en) (fun i H' => Lcw K H L ((as.take i).map g) H') (lcw_start hL) (fun i H' _ p => ex_l p.2.1 hs) (fun i x H' hi p => ?_) fun H' p => lcw_end (Ex.refl H) (by rw [hlx, List.take_length] at p; exact p) q
  rw [List.getElem?_map, Option.map_eq_some_iff] at hi
  obtain ⟨b, hb, rfl⟩ := hi
  have hm : b ∈ as := List.mem_of_getElem? hb
  refine ⟨hw _, ?_⟩
  have hlen : ((as.take i).map g).length < 50000 := by
    rw [List.length_map, List.length_take]
    omega
  have hno : noLA ((as.take i).map g) = true := noLA_all fun d hd => by
    obtain ⟨k, hk, rfl⟩ := List.mem_map.mp hd
    exact hz k (List.mem_of_mem_take hk)
  refine lcw_turn p hlen hno (b := true) et_yes (fun _ => he b hm) (hz b hm) ?_
  rw [List.take_add_one, hb, Option.toList_some, List.map_append]
  exact (if_pos rfl).symm
end
def zs (ns : List Nat) : List Int := List.map (fun k : Nat => (k : Int)) ns
theorem zs_len (ns : List Nat) : (zs ns).length = ns.length := List.length_map _
def spWeb (K : PySem.W.Frag) : Sp := fun vs H Q _ => ∃ (p sa : Addr) (n x : Nat) (a b : Int), vs = [.ref p, .int (n : Int), .int (x : Int), .ref sa] ∧ PotAt H p ∧ H sa = some (.lst [.int a, .int b]) ∧ 0 ≤ a ∧ a < 4 ∧ 1 ≤ n ∧ n ≤ 10 ∧ x ≤ 15 ∧ ∀ (W : Web) v H', Good W → Dp K H' v (webD W) → Ke p H H' → PotAt H' p → Q v H'
def nWeb : List Str := ["pot", "many", "extra", "scale", "names", "place", "found", "pair", "turn", "one", "other", "length"]
theorem scWeb : FnScope nWeb ["pot", "many", "extra", "scale"] (defScope sWeb) := ⟨rfl, rfl, rfl, by decide +kernel, rfl, by decide +kernel, by decide +kernel⟩
section
variable {P : Program} {w : World} {K : PySem.W.Frag} {mg : Str → Option Value} {base : Heap}
theorem ok_web {f : Addr} {fd : FuncData} (F : Fun K "_law_web" "_law_web" sWeb f fd) (T : Bt mg) (C1 : Cal P w K mg base "_law_take" ["pot", "many"] 1 (spTake K)) (C2 : Cal P w K mg base "_law_length" ["pot", "scale"] 2 (spLength K)) : FnOk P w K mg base CX0 3 f fd ["pot", "many", "extra", "scale"] (spWeb K) := by
  obtain ⟨f1, fd1, G1, g1, kp1, b1⟩ := C1.ex
  obtain ⟨f2, fd2, G2, g2, kp2, b2⟩ := C2.ex
  refine F.ok scWeb (fun vs H Q E ⟨_, _, _, _, _, _, h, _⟩ => by rw [h]; rfl) (fun cdv A outer s H vs Q E hr h => ?_)
  obtain ⟨p, sa, n, x, a, b, rfl, PA, hs, ha0, ha1, hn0, hn1, hx, q⟩ := h
  have nd := scWeb.nd
  have hu := hr.units
  have hu1 := hu_of hr
  refine ⟨_, (pss_cons (ps_set (i := 4) nd rfl (Or.inl rfl) (pe_lst pa_nil))
      (pss_cons (ps_for PassesOwn.never rfl (pi_range1 rfl T.range (pa_cons (pv 1) pa_nil)) (pg_name (i := 5) nd rfl (Or.inl rfl))
      (pss_one (ps_expr (pe_bm PySem.F.plainAttrs_list PySem.F.slot_list_insert PySem.F.type_list_insert mt_insert (pv 4) (pa_cons (pe_call G1 (hr.mono (by decide)) (by rfl) g1 kp1 b1 .nil pass0 (pa_cons (pv 0) (pa_cons (pe_op op_add (pv 5) pe_int) pa_nil))) (pa_cons (pv 5) pa_nil))))))
      (pss_cons (ps_set (i := 6) nd rfl (Or.inr rfl) pe_dnewT)
      (pss_cons (ps_for PassesOwn.never rfl (pi_range2 rfl T.range (pa_cons pe_int (pa_cons (pv 1) pa_nil))) (pg_name (i := 5) nd rfl (Or.inl rfl))
      (pss_cons (ps_set (i := 7) nd rfl (Or.inl rfl) (pe_tup (pa_cons (pe_ix (r := rIxL K) ix_list (pv 4) (pe_call G1 (hr.mono (by decide)) (by rfl) g1 kp1 b1 .nil pass0 (pa_cons (pv 0) (pa_cons (pv 5) pa_nil))) (fun _ _ => rfl)) (pa_cons (pe_ix (r := rIxL K) ix_list (pv 4) (pv 5) (fun _ _ => rfl)) pa_nil))))
      (pss_one (ps_dput hu1 (pv 6) (pe_tup (pa_cons (pe_callB (cr_minD rfl hu) (by rfl) T.min (by decide +kernel) (pa_cons (pv 7) pa_nil)) (pa_cons (pe_callB (cr_maxD rfl hu) (by rfl) T.max (by decide +kernel) (pa_cons (pv 7) pa_nil)) pa_nil))) (pe_call G2 (hr.mono (by decide)) (by rfl) g2 kp2 b2 .nil pass0 (pa_cons (pv 0) (pa_cons (pv 3) pa_nil))) rfl))))
      (pss_cons (ps_for PassesOwn.never rfl (pi_range1 rfl T.range (pa_cons (pe_op op_mul (pv 2) (pe_callTy call_int1 (by rfl) T.int (by decide +kernel) (pa_cons (pe_cmpR op_gt (pv 1) pe_int (nomark _)) pa_nil))) pa_nil)) (pg_name (i := 8) nd rfl (Or.inl rfl))
      (pss_cons (ps_set (i := 9) nd rfl (Or.inl rfl) (pe_call G1 (hr.mono (by decide)) (by rfl) g1 kp1 b1 .nil pass0 (pa_cons (pv 0) (pa_cons (pv 1) pa_nil))))
      (pss_cons (ps_set (i := 10) nd rfl (Or.inl rfl) (pe_op op_mod (pe_op op_add (pe_op op_add (pv 9) pe_int) (pe_call G1 (hr.mono (by decide)) (by rfl) g1 kp1 b1 .nil pass0 (pa_cons (pv 0) (pa_cons (pe_callB (call_max2 rfl) (by rfl) T.max (by decide +kernel) (pa_cons pe_int (pa_cons (pe_op op_sub (pv 1) pe_int) pa_nil))) pa_nil)))) (pv 1)))
      (pss_cons (ps_set (i := 11) nd rfl (Or.inl rfl) (pe_call G2 (hr.mono (by decide)) (by rfl) g2 kp2 b2 .nil pass0 (pa_cons (pv 0) (pa_cons (pv 3) pa_nil))))
      (pss_one (ps_if (PW.pt (pw_and (pt_cmpR op_ne (pv 9) (pv 10) (nomark _)) (pw_and1 (pt_cmpR op_lt (pe_callB call_len_dT (by rfl) T.len PySem.boot_len (pa_cons (pv 6) pa_nil)) pe_int (nomark _))))) (pss_one (ps_expr (pe_bm PySem.F.plainAttrs_dict PySem.F.slot_dict_setdefault PySem.F.type_dict_setdefault (mt_setdT hu1) (pv 6) (pa_cons (pe_tup (pa_cons (pe_callB (call_min2 rfl) (by rfl) T.min (by decide +kernel) (pa_cons (pv 9) (pa_cons (pv 10) pa_nil))) (pa_cons (pe_callB (call_max2 rfl) (by rfl) T.max (by decide +kernel) (pa_cons (pv 9) (pa_cons (pv 10) pa_nil))) pa_nil))) (pa_cons (pv 11) pa_nil))))) pss_nil))))))
      (pss_one (ps_ret (pe_tup (pa_cons (pv 1) (pa_cons (pe_callTy call_tuple_of (by rfl) T.tuple (by decide +kernel) (pa_cons (pe_lc (own := [("pair", 7)]) (g := gName 7) (tt := tYes) rfl nd (pi_list (pe_callB (cr_sortedDT rfl hu) (by rfl) T.sorted (by decide +kernel) (pa_cons (pv 6) pa_nil))) (blkOk_by (own := [("pair", 7)]) (N := nWeb) (sc := defScope sWeb) (by decide +kernel)) (fun _ _ _ _ _ => (pg_name (i := 7) nd rfl (Or.inl rfl))) (fun _ _ _ _ _ => pts_nil) (fun _ _ _ _ _ => (pe_op (r := rCatT K) op_catT (pv 7) (pe_tup (pa_cons (pe_dget hu1 (pv 6) (pv 7) (fun _ _ => rfl)) pa_nil))))) pa_nil)) pa_nil)))))))))), ?_⟩
  refine qd_asgN (K := K) (en_lst eda_nil) fun N xs0 H1 hN0 e1 h1 hd1 => ?_
  cases hd1
  have nN : N ≠ p := PA.ne0 hN0
  have ns_sa : sa ≠ p := PA.ne hs fun f i z => by cases z
  have hnn : EvDA K (tCons (tVar 1) tNil) [some (.ref p), some (.int (n : Int)), some (.int (x : Int)), some (.ref sa), some (.ref N), none, none, none, none, none, none, none] H1 [.int (n : Int)] := eda_cons (ed_var rfl (.int _)) eda_nil
  refine q_forN (K := K) (n := n) hnn (by omega) (fun i σ' H' => ∃ y5 ns, σ' = [some (.ref p), some (.int (n : Int)), some (.int (x : Int)), some (.ref sa), some (.ref N), y5, none, none, none, none, none, none] ∧ Ke p H H' ∧ PotAt H' p ∧ H' N = some (.lst ((zs ns).map V.int)) ∧ ns.Perm (List.range i))
    (fun H2 e2 => ⟨none, [], rfl, Ke.of_ex (e1.trans e2), PA.ex (e1.trans e2), e2 _ _ h1, List.Perm.refl _⟩) ?_ ?_
  · rintro i σ' H' hi ⟨y5, ns, rfl, ke, P', hl, hp⟩
    have hlen : ns.length = i := by rw [hp.length_eq, List.length_range]
    refine ⟨_, rfl, Or.inl ⟨rfl, _, sq_of hl⟩, cons_X (ev_take (K := K) P' rfl (m := (i : Int) + 1) (by omega) (ed_op (ed_var rfl (.int (i : Int))) ed_int (rd_int (g := fun i j => i + j))) fun r H2 r0 r1 e2 P2 => ?_)⟩
    have hl2 := e2 _ _ nN hl
    refine ⟨_, rfl, N, _, r, .int (i : Int), rfl, rfl, hl2, sz_lt (by rw [List.length_map, zs_len]; omega), r0, by omega, ?_⟩
    have e : ((zs ns).map V.int).take r.toNat ++ [V.int (i : Int)] ++ ((zs ns).map V.int).drop r.toNat = (zs (ns.take r.toNat ++ [i] ++ ns.drop r.toNat)).map V.int := by
      unfold zs
      simp only [List.map_append, List.map_take, List.map_drop, List.map_cons, List.map_nil]
    rw [e]
    refine ⟨_, ns.take r.toNat ++ [i] ++ ns.drop r.toNat, rfl, (ke.trans e2).mut hN0, P2.updL nN ?_, upd_same, insert_perm hp _⟩
    rw [zs_len, List.length_append, List.length_append, List.length_singleton]
    omega
  · rintro σ' H2 ⟨y5, ns, rfl, ke2, P2, hl2, hp⟩
    intro F hF
    have hFN : N ≠ F := ne_of_none hl2 hF
    have hF0 : H F = none := by
      cases hh : H F with
      | none => rfl
      | some o =>
        by_cases z : F = p
        · obtain ⟨f, i, ms, w, _⟩ := P2
          rw [← z, hF] at w
          cases w
        · have := ke2 _ _ z hh
          rw [hF] at this
          cases this
    have hlen : ns.length = n := by rw [hp.length_eq, List.length_range]
    have nd2 : ns.Nodup := hp.nodup_iff.mpr List.nodup_range
    have hlt : ∀ c ∈ ns, c < n := fun c hc => List.mem_range.mp (hp.mem_iff.mp hc)
    refine q_forN2 (K := K) (lo := 1) (n := (n : Int)) (eda_cons ed_int (eda_cons (ed_var rfl (.int _)) eda_nil)) ⟨by omega, by omega, by omega, by omega⟩
      (fun k σ' H' => ∃ y5 y7 L, σ' = [some (.ref p), some (.int (n : Int)), some (.int (x : Int)), some (.ref sa), some (.ref N), y5, some (.ref F), y7, none, none, none, none] ∧ Ke p H H' ∧ PotAt H' p ∧ H' N = some (.lst ((zs ns).map V.int)) ∧ H' F = some (.dT (L.map entOf)) ∧ Ok n k L ∧ Tr ns L (k + 1))
      (fun H3 e3 => ⟨_, _, [], rfl, (ke2.ex (Ex.new hF)).ex e3, (P2.ex (Ex.new hF)).ex e3, e3 _ _ (by rw [upd_ne hFN]; exact hl2), e3 _ _ upd_same, Ok.nil n, fun i h1 h2 => by omega⟩) ?_ ?_
    · rintro k σ' H3 hk ⟨y5, y7, L, rfl, ke3, P3, hl3, hF3, O, TR⟩
      have hs3 : H3 sa = some (.lst [.int a, .int b]) := ke3 _ _ ns_sa hs
      have hk1 : 1 + k < ns.length := by omega
      refine qd_asgX (tup_X (cons_X (ix_take2 (K := K) (evi_var rfl hl3) P3 rfl (m := 1 + (k : Int)) (ed_var rfl (.int _)) (by rw [zs_len]; omega) (by omega) fun r u H4 hr hu e4 P4 => ?_)))
      obtain ⟨u', hu', rfl⟩ : ∃ u' : Nat, ns[r]? = some u' ∧ u = (u' : Int) := by
        unfold zs at hu
        rw [List.getElem?_map, Option.map_eq_some_iff] at hu
        obtain ⟨u', h1, h2⟩ := hu
        exact ⟨u', h1, h2.symm⟩
      have hv : ns[1 + k]? = some ns[1 + k] := List.getElem?_eq_getElem hk1
      generalize ns[1 + k] = v' at hv
      have hne : u' ≠ v' := fun z => by
        subst z
        have h1 := (List.getElem?_eq_some_iff.mp hu').2
        have h2 := (List.getElem?_eq_some_iff.mp hv).2
        exact (List.pairwise_iff_getElem.mp nd2 r (1 + k) (List.getElem?_eq_some_iff.mp hu').1 (List.getElem?_eq_some_iff.mp hv).1 (by omega)) (h1.trans h2.symm)
      have hl4 := e4 _ _ nN hl3
      refine (eda_cons (ed_ixL (K := K) (z := .int (v' : Int)) (ed_var rfl (.lst (sq_of hl4) (dpA_ints _))) (EvD.is (ed_var rfl (.int (1 + (k : Int)))) (by rw [show (1 + (k : Int)) = ((1 + k : Nat) : Int) by omega])) (atI_nat (by unfold zs; rw [List.getElem?_map, List.getElem?_map, hv]; rfl))) eda_nil) H4 (Ex.refl H4) _ fun vs H5 e5 hd5 => ?_
      obtain ⟨w, rfl, hw⟩ := dpA_1 hd5
      cases dp_int hw
      refine ⟨sz_of (by show 2 ≤ 100000; decide), fun TT hTT => dput_X ?_⟩
      have P6 := (P4.ex e5).ex (Ex.new (o := .tup [.int (u' : Int), .int (v' : Int)]) hTT)
      have nTT : TT ≠ p := (P4.ex e5).ne0 hTT
      have ke6 : Ke p H3 (upd H5 TT (.tup [.int (u' : Int), .int (v' : Int)])) := (e4.ex e5).ex (Ex.new hTT)
      refine ev_length (K := K) (a := a) (b := b) P6 rfl rfl (ke6 _ _ ns_sa hs3) ⟨ha0, ha1⟩ fun l H7 l1 l2 e7 P7 => ?_
      have hT7 : H7 TT = some (.tup [.int (u' : Int), .int (v' : Int)]) := e7 _ _ nTT upd_same
      have nF : F ≠ p := P3.ne hF3 fun f i z => by cases z
      have pr : ∀ {σ0 : L2.St}, σ0[7]? = some (some (.ref TT)) → EvD K (tVar 7) σ0 H7 (.tuple [.int (u' : Int), .int (v' : Int)]) := fun e => ed_var e (.tup (st_of hT7) (dpA_ints [(u' : Int), (v' : Int)]))
      refine ⟨_, rfl, tup_X ((eda_cons (ed_cb (K := K) (eda_cons (pr rfl) eda_nil) rdc_minT) (eda_cons (ed_cb (eda_cons (pr rfl) eda_nil) rdc_maxT) eda_nil)) H7 (Ex.refl H7) _ fun vs H8 e8 hd8 => ?_)⟩
      obtain ⟨c1, c2, rfl, hc1, hc2⟩ := dpA_2 hd8
      cases dp_int hc1
      cases dp_int hc2
      refine ⟨sz_of (by show 2 ≤ 100000; decide), fun B hB => ?_⟩
      have ke9 : Ke p H3 (upd H8 B (.tup [.int (min (u' : Int) (v' : Int)), .int (max (u' : Int) (v' : Int))])) := ((ke6.trans e7).ex e8).ex (Ex.new hB)
      have hF9 := ke9 _ _ nF hF3
      have few := O.few
      refine ⟨F, _, rfl, DPut.t (k := pk (min (u' : Int) (v' : Int), max (u' : Int) (v' : Int))) hF9 upd_same (sz_lt (by rw [List.length_map]; omega)), ?_⟩
      rw [put_ent]
      have hnk : (min (u' : Int) (v' : Int), max (u' : Int) (v' : Int)) = nk u' v' := by
        unfold nk
        rw [Prod.mk.injEq]
        exact ⟨by omega, by omega⟩
      rw [hnk]
      have hu3 := hlt u' (List.mem_of_getElem? hu')
      have hv3 := hlt v' (List.mem_of_getElem? hv)
      refine ⟨_, _, putK L (nk u' v') (.int l), rfl, (ke3.trans ke9).mut hF0, ((P7.ex e8).ex (Ex.new hB)).updD hF9, ?_, upd_same, O.put (by omega) (by omega) l1 l2, fun i h1 h2 => ?_⟩
      · rw [upd_ne hFN]
        exact ke9 _ _ nN hl3
      · by_cases hi : i < k + 1
        · exact TR.mono i h1 hi
        · have : i = 1 + k := by omega
          subst this
          exact ⟨r, u', v', by omega, hu', hv, key_put _ _ _⟩
    · rintro σ' H3 ⟨y5, y7, L, rfl, ke3, P3, hl3, hF3, O, TR⟩
      have hk0 : ((n : Int) - 1).toNat = n - 1 := by omega
      rw [hk0] at O TR
      rw [show n - 1 + 1 = n by omega] at TR
      have nF : F ≠ p := P3.ne hF3 fun f i z => by cases z
      obtain ⟨m, hm, hm15⟩ : ∃ m : Nat, (x : Int) * (if decide ((1 : Int) < (n : Int)) = true then 1 else 0) = (m : Int) ∧ m ≤ 15 := by
        by_cases h : (1 : Int) < (n : Int)
        · rw [if_pos (decide_eq_true h)]
          exact ⟨x, by omega, hx⟩
        · rw [if_neg (by simpa using h)]
          exact ⟨0, by omega, by omega⟩
      refine q_forN (K := K) (n := m) (eda_cons (EvD.is (ed_op (ed_var rfl (.int (x : Int))) (ed_cb (eda_cons (ed_op (ed_var rfl (.int (n : Int))) ed_int (rd_bl (g := fun i j => decide (j < i)))) eda_nil) rdc_intB) (rd_intC (g := fun i j => i * j) (.inl ⟨by omega, by omega⟩))) (by rw [hm])) eda_nil) (by omega)
        (fun k σ' H' => ∃ y5 y7 y8 y9 y10 y11 L, σ' = [some (.ref p), some (.int (n : Int)), some (.int (x : Int)), some (.ref sa), some (.ref N), y5, some (.ref F), y7, y8, y9, y10, y11] ∧ Ke p H H' ∧ PotAt H' p ∧ H' F = some (.dT (L.map entOf)) ∧ Ok n (n - 1 + k) L ∧ Tr ns L n)
        (fun H4 e4 => ⟨_, _, _, _, _, _, L, rfl, ke3.ex e4, P3.ex e4, e4 _ _ hF3, O, TR⟩) ?_ ?_
      · rintro k σ' H4 hk ⟨y5, y7, y8, y9, y10, y11, L, rfl, ke4, P4, hF4, O, TR⟩
        refine qd_asgX (ev_take (K := K) P4 rfl (m := (n : Int)) (by omega) (ed_var rfl (.int _)) fun one H5 o0 o1 e5 P5 => ?_)
        refine qd_asgX (op_X (op_X ((ed_op (K := K) (ed_var rfl (.int one)) ed_int (rd_int (g := fun i j => i + j))) H5 (Ex.refl H5) _ fun v H6 e6 hv => ?_)))
        rw [dp_int hv]
        refine ev_take (K := K) (P5.ex e6) rfl (m := max 1 ((n : Int) - 1)) (by omega) (ed_cb (eda_cons ed_int (eda_cons (ed_op (ed_var rfl (.int (n : Int))) ed_int (rd_int (g := fun i j => i - j))) eda_nil)) rdc_maxI) fun r H7 r0 r1 e7 P7 => ?_
        refine ⟨_, _, rfl, rfl, _, rfl, _, _, rfl, rfl, by omega, ?_⟩
        have t0 : 0 ≤ (one + 1 + r) % (n : Int) := Int.emod_nonneg _ (by omega)
        have t1 : (one + 1 + r) % (n : Int) < (n : Int) := Int.emod_lt_of_pos _ (by omega)
        dsimp only
        generalize (one + 1 + r) % (n : Int) = other at t0 t1 ⊢
        have ke7 : Ke p H4 H7 := (e5.ex e6).trans e7
        refine qd_asgX (ev_length (K := K) (a := a) (b := b) P7 rfl rfl (ke7 _ _ ns_sa (ke4 _ _ ns_sa hs)) ⟨ha0, ha1⟩ fun l H8 l1 l2 e8 P8 => ?_)
        have ke8 : Ke p H H8 := ke4.trans (ke7.trans e8)
        have hF8 : H8 F = some (.dT (L.map entOf)) := e8 _ _ nF (ke7 _ _ nF hF4)
        refine s_when (b := (!decide (one = other)) && decide (((L.map entOf).length : Int) < 220)) (et_and (dt_test (K := K) (ed_op (ed_var rfl (.int one)) (ed_var rfl (.int other)) rd_neI)) fun _ => dt_test (K := K) (ed_op (ev_d (ev_lenT rfl hF8) (.int _)) ed_int (rd_bl (g := fun i j => decide (i < j))))) (fun hb H9 e9 => ?_) fun hb H9 e9 => ?_
        · have hne : one ≠ other := by
            have := (Bool.and_eq_true_iff.mp hb).1
            simpa using this
          obtain ⟨u, rfl⟩ := Int.eq_ofNat_of_zero_le o0
          obtain ⟨v, rfl⟩ := Int.eq_ofNat_of_zero_le t0
          refine ⟨_, rfl, Or.inr (Or.inr (Or.inl ⟨rfl, .inr ⟨_, e9 _ _ hF8⟩⟩)), cons_X (tup_X ((eda_cons (ed_cb (K := K) (eda_cons (ed_var rfl (.int (u : Int))) (eda_cons (ed_var rfl (.int (v : Int))) eda_nil)) rdc_minI) (eda_cons (ed_cb (eda_cons (ed_var rfl (.int (u : Int))) (eda_cons (ed_var rfl (.int (v : Int))) eda_nil)) rdc_maxI) eda_nil)) H9 (Ex.refl H9) _ fun vs H10 e10 hd10 => ?_))⟩
          obtain ⟨c1, c2, rfl, hc1, hc2⟩ := dpA_2 hd10
          cases dp_int hc1
          cases dp_int hc2
          refine ⟨sz_of (by show 2 ≤ 100000; decide), fun B hB => ?_⟩
          have e11 := (e9.trans e10).trans (Ex.new (o := .tup [.int (min (u : Int) (v : Int)), .int (max (u : Int) (v : Int))]) hB)
          have hF11 := e11 _ _ hF8
          have few := O.few
          have hnk : (min (u : Int) (v : Int), max (u : Int) (v : Int)) = nk u v := by
            unfold nk
            rw [Prod.mk.injEq]
            exact ⟨by omega, by omega⟩
          refine ⟨_, rfl, F, L.map entOf, pk (min (u : Int) (v : Int), max (u : Int) (v : Int)), B, .int l, rfl, rfl, hF11, upd_same, sz_lt (by rw [List.length_map]; omega), fun _ _ => ?_, fun _ => ?_⟩
          · exact ⟨_, _, _, _, _, _, L, rfl, ke8.ex e11, P8.ex e11, hF11, O.mono (by omega), TR⟩
          · rw [put_ent, hnk]
            exact ⟨_, _, _, _, _, _, putK L (nk u v) (.int l), rfl, (ke8.ex e11).mut hF0, (P8.ex e11).updD hF11, upd_same, O.put (by omega) (by omega) l1 l2, TR.mono⟩
        · exact ⟨_, _, _, _, _, _, L, rfl, ke8.ex e9, P8.ex e9, e9 _ _ hF8, O.mono (by omega), TR⟩
      · rintro σ' H4 ⟨y5, y7, y8, y9, y10, y11, L, rfl, ke4, P4, hF4, O, TR⟩
        have few := O.few
        refine sd_retT (tup_X (cons_X ⟨_, rfl, cons_X (cb_X (cons_X (lc_go ?_)))⟩))
        refine ⟨_, rfl, F, L, rfl, hF4, by omega, fun pp bs hperm hbs hpp => ⟨pp, rfl, ⟨_, sq_of upd_same⟩, ?_⟩⟩
        have hbl : bs.length = L.length := by
          have := hperm.length_eq
          rw [List.length_map, List.length_map] at this
          exact this
        have hkey : ∀ e ∈ bs, e.1 ∈ keysE L := fun e he => hperm.mem_iff.mp (List.mem_map.mpr ⟨e, he, rfl⟩)
        have e5 : Ex H4 (upd H4 pp (.lst (bs.map fun e => V.ref e.2))) := Ex.new hpp
        refine lcV_go (K := K) bs (fun e => V.ref e.2) (fun e => tieD (tieOf L e.1)) (sq_of upd_same) (by omega) (fun _ => rfl) (fun e he => ?_) (fun e he => ?_) fun r xs H6 hr e6 h6 hd6 => ?_
        · obtain ⟨i, j, l, hz, hv, _⟩ := O.val (hkey e he)
          have et : tieD (tieOf L e.1) = .tuple [.int e.1.1, .int e.1.2, .int l] := by
            rw [hz] at hv ⊢
            unfold tieD tieOf lenOf
            rw [hv]
            rfl
          rw [et]
          intro H7 e7 Q' q'
          have e47 := e5.trans e7
          have hb7 := e47 _ _ (hbs e he)
          refine ⟨_, rfl, tup_X (cons_X ⟨_, rfl, _, rfl, F, .int l, rfl, ?_, ?_⟩)⟩
          · have := DGet.t (k := pk e.1) (e47 _ _ hF4) hb7
            rw [val_ent, hv] at this
            exact this
          · refine ⟨sz_of (by show 1 ≤ 100000; decide), fun T1 hT1 => ⟨e.2, T1, _, _, rfl, rfl, st_of (Ex.new hT1 _ _ hb7), st_of upd_same, (fun z => by cases z), sz_of (by show 3 ≤ 100000; decide), (fun z => by cases z), fun _ T2 hT2 => q' _ _ ((Ex.new hT1).trans (Ex.new hT2)) (.tup (st_of upd_same) (dpA_ints [e.1.1, e.1.2, l]))⟩⟩
        · rfl
        · refine ⟨r, xs, rfl, .inl ⟨sq_of h6, fun t ht => ⟨sz_of (by show 2 ≤ 100000; decide), fun o ho => ?_⟩⟩⟩
          have ex := ((e5.trans e6).trans (Ex.new (o := .tup xs) ht)).trans (Ex.new (o := .tup [.int (n : Int), .ref t]) ho)
          refine q (n, (bs.map (·.1)).map (tieOf L)) _ _ (drawn_good hn0 hn1 (O.mono (by omega)) hp TR hperm) (.tup (st_of upd_same) (.cons (.int _) (.cons (.tup (st_of (Ex.new ho _ _ upd_same)) (ex_dpA ((Ex.new ht).trans (Ex.new ho)) ?_)) .nil))) (ke4.ex ex) (P4.ex ex)
          show DpAll K H6 xs (((bs.map (·.1)).map (tieOf L)).map tieD)
          rw [List.map_map, List.map_map]
          exact hd6
end
end Lt

set_option maxRecDepth 100000
set_option maxHeartbeats 4000000
/-! law. -/
namespace Lt
open PySem PySem.Spec L2 Evl
noncomputable def lb (W : Web) : Bool := @decide (Lone W) (Classical.propDecidable _)
theorem lb_iff (W : Web) : lb W = true ↔ Lone W := by
  unfold lb
  exact @decide_eq_true_iff (Lone W) (Classical.propDecidable _)
theorem webD_noL (W : Web) : noL (webD W) = true := by
  have h : noLA (W.2.map tieD) = true := noLA_all fun d hd => by
    obtain ⟨t, _, rfl⟩ := List.mem_map.mp hd
    rfl
  show (noL (.int (W.1 : Int)) && (noLA (W.2.map tieD) && true)) = true
  rw [h]
  rfl
def linesD (ls : List Int) : PyData := .list (ls.map PyData.int)
section
variable {K : PySem.W.Frag} {σ : L2.St} {H H' : Hp} {ta tb te tc ts : TE} {tl tr : TA} {t u : TT} {D : Ends} {tz tw : TS} {Q : VK} {r : R2}
theorem ed_ver0 {E : XK} {W : Web} (h : EvDA K tl σ H [webD W]) (G : Good W) : EvD K (tOp (rIxT K) (tCall (spVer K) [] E tl) (tC (.int 0))) σ H (.str (toldS (lb W))) := fun H1 e Q q =>
  h H1 e _ fun vs H2 e2 hd => by
    rw [List.append_nil]
    refine ⟨W, G, hd, fun v H3 e3 hv => ?_⟩
    rcases hv with ⟨hl, t, fv, sv, rfl, ht, _⟩ | ⟨hl, ds, hd⟩
    · exact ⟨t, _, 0, .str "lone", rfl, rfl, ht, atI_nat (j := 0) rfl, q _ H3 (e2.trans e3) (by rw [(lb_iff W).mpr hl]; exact .str _)⟩
    · obtain ⟨a, xs, rfl, hs, hx⟩ := dp_tup hd
      have hf : lb W = false := by
        cases hh : lb W with
        | false => rfl
        | true => exact absurd ((lb_iff W).mp hh) hl
      cases hx with
      | cons h1 h2 => exact ⟨a, _, 0, _, rfl, rfl, hs, atI_nat (j := 0) rfl, q _ H3 (e2.trans e3) (by rw [hf]; exact h1)⟩
theorem ed_right {E : XK} {W : Web} (h : EvDA K tl σ H [webD W]) (G : Good W) : EvD K (tCall (spP K RRight) [] E tl) σ H (.bool true) := ed_call h ⟨W, G, rfl, rfl⟩
theorem ed_with {E : XK} {W : Web} {ls : List Int} (h : EvD K ta σ H (webD W)) (k : EvD K tb σ H (linesD ls)) (G : Good W) (hl : ls.length = W.2.length) (hi : ∀ l ∈ ls, 1 ≤ l ∧ l ≤ 10 ^ 30) : EvD K (tCall (spP K RWith) [] E (tCons ta (tCons tb tNil))) σ H (webD (withL W ls)) :=
  ed_call (eda_cons h (eda_cons k eda_nil)) ⟨W, ls, G, hl, hi, rfl, rfl⟩
theorem q_forND {α : Type} (as : List α) (en : α → PyData) {j : Nat} (h : EvN K ts σ H (as.map en)) (R : Nat → L2.St → Prop) (h0 : R 0 σ)
    (hs : ∀ i x σ' H' v N, as[i]? = some x → R i σ' → Ex H H' → Dp K H' v (en x) → (∀ σ2 H2, R (i + 1) σ2 → Ex H' H2 → N σ2 H2) → tw { D with nx := N, ct := N, bk := tz D } (σ'.set j (some v)) H')
    (hd : ∀ σ' H', R as.length σ' → Ex H H' → tz D σ' H') : tSeq (tFor (iList K ts) (gName j) tw) tz D σ H :=
  h H (Ex.refl H) _ fun p xs H1 hp e1 h1 hd1 => by
    have hl : xs.length = as.length := by rw [dpAll_len hd1, List.length_map]
    refine ⟨p, rfl, ⟨xs, sq_of h1⟩, for_list (fun i σ' H' => R i σ' ∧ Ex H1 H') ⟨h0, Ex.refl _⟩ (fun i σ' H' _ P => ex_l P.2 (sq_of h1)) (fun i x σ' H' hi P => ?_) fun σ' H' P => hd σ' H' (hl ▸ P.1) (e1.trans P.2)⟩
    obtain ⟨d, hd', hv⟩ := dpAll_at hd1 hi
    rw [List.getElem?_map, Option.map_eq_some_iff] at hd'
    obtain ⟨y, hy, rfl⟩ := hd'
    exact hs i y σ' H' x _ hy P.1 (e1.trans P.2) (ex_dp P.2 hv) fun σ2 H2 r2 e2 => ⟨r2, P.2.trans e2⟩
theorem ed_rev {ls : List Int} (h : EvD K te σ H (linesD ls)) : EvD K (tRevL K te) σ H (linesD ls.reverse) := fun H1 e Q q =>
  h H1 e _ fun v H2 e2 hv => by
    obtain ⟨a, xs, rfl, hs, hx⟩ := dp_lst hv
    rw [ints_dpA hx] at hs
    refine ⟨a, _, rfl, hs, fun p hp => q _ _ (e2.trans (Ex.new hp)) (.lst (sq_of upd_same) ?_)⟩
    rw [← List.map_reverse]
    exact dpA_ints _
theorem call_X {sp : Sp} {E : XK} (h : tl σ H fun vs H1 => sp (vs ++ []) H1 Q E) : tCall sp [] E tl σ H Q := h
theorem lst_X (h : tl σ H fun xs H1 => xs.length ≤ sizeLine ∧ ∀ p, H1 p = none → Q (.ref p) (upd H1 p (.lst xs))) : tLst tl σ H Q := h
end
theorem scaled (W : Web) (ls : List Int) (k : Int) : (withL W (ls.map fun l => k * l)).2 = (withL W ls).2.map fun t => (t.1, t.2.1, k * t.2.2) := by
  unfold withL
  show (W.2.zip (ls.map fun l => k * l)).map _ = ((W.2.zip ls).map _).map _
  rw [List.zip_map_right, List.map_map, List.map_map]
  rfl
def spLaw (K : PySem.W.Frag) : Sp := fun vs H Q _ => ∃ (a : Addr) (ns : List Int), vs = [.ref a] ∧ SqL K H a (ns.map V.int) ∧ ns.length ≤ 63 ∧ ∀ H', Q (.bl true) H'
def nLaw : List Str := ["script", "pot", "turn", "web", "lengths", "sure", "small", "factor", "some", "one", "a", "b", "length"]
theorem scLaw : FnScope nLaw ["script"] (defScope sLaw) := ⟨rfl, rfl, rfl, by decide +kernel, rfl, by decide +kernel, by decide +kernel⟩
section
variable {P : Program} {w : World} {K : PySem.W.Frag} {mg : Str → Option Value} {base : Heap}
theorem ok_law {f : Addr} {fd : FuncData} (F : Fun K "law" "law" sLaw f fd) (T : Bt mg) (C1 : Cal P w K mg base "_law_draws" ["script", "many"] 1 (spDraws K)) (C2 : Cal P w K mg base "_law_take" ["pot", "many"] 1 (spTake K)) (C3 : Cal P w K mg base "_law_web" ["pot", "many", "extra", "scale"] 3 (spWeb K))
    (C4 : Cal P w K mg base "sure_web" ["web"] 3 (spP K RSure)) (C5 : Cal P w K mg base "verdict" ["web"] 4 (spVer K)) (C6 : Cal P w K mg base "_law_right" ["web"] 5 (spP K RRight)) (C7 : Cal P w K mg base "with_lengths" ["web", "lengths"] 2 (spP K RWith)) : FnOk P w K mg base CX0 6 f fd ["script"] (spLaw K) := by
  obtain ⟨f1, fd1, G1, g1, kp1, b1⟩ := C1.ex
  obtain ⟨f2, fd2, G2, g2, kp2, b2⟩ := C2.ex
  obtain ⟨f3, fd3, G3, g3, kp3, b3⟩ := C3.ex
  obtain ⟨f4, fd4, G4, g4, kp4, b4⟩ := C4.ex
  obtain ⟨f5, fd5, G5, g5, kp5, b5⟩ := C5.ex
  obtain ⟨f6, fd6, G6, g6, kp6, b6⟩ := C6.ex
  obtain ⟨f7, fd7, G7, g7, kp7, b7⟩ := C7.ex
  refine F.ok scLaw (fun vs H Q E ⟨_, _, h, _⟩ => by rw [h]; rfl) (fun cdv A outer s H vs Q E hr h => ?_)
  obtain ⟨a, ns, rfl, ha, hlen, q⟩ := h
  have nd := scLaw.nd
  refine ⟨_, (pss_cons (ps_set (i := 1) nd rfl (Or.inl rfl) (pe_call G1 (hr.mono (by decide)) (by rfl) g1 kp1 b1 .nil pass0 (pa_cons (pv 0) (pa_cons pe_int pa_nil))))
      (pss_cons (ps_for PassesOwn.never rfl (pi_range1 rfl T.range (pa_cons (pe_op op_add pe_int (pe_callB (call_min2 rfl) (by rfl) T.min (by decide +kernel) (pa_cons pe_int (pa_cons (pe_callB call_len_seq (by rfl) T.len PySem.boot_len (pa_cons (pv 0) pa_nil)) pa_nil)))) pa_nil)) (pg_name (i := 2) nd rfl (Or.inl rfl))
      (pss_cons (ps_set (i := 3) nd rfl (Or.inl rfl) (pe_call G3 (hr.mono (by decide)) (by rfl) g3 kp3 b3 .nil pass0 (pa_cons (pv 1) (pa_cons (pe_op op_add pe_int (pe_call G2 (hr.mono (by decide)) (by rfl) g2 kp2 b2 .nil pass0 (pa_cons (pv 1) (pa_cons pe_int pa_nil)))) (pa_cons (pe_call G2 (hr.mono (by decide)) (by rfl) g2 kp2 b2 .nil pass0 (pa_cons (pv 1) (pa_cons pe_int pa_nil))) (pa_cons (pe_lst (pa_cons (pe_call G2 (hr.mono (by decide)) (by rfl) g2 kp2 b2 .nil pass0 (pa_cons (pv 1) (pa_cons pe_int pa_nil))) (pa_cons (pe_call G2 (hr.mono (by decide)) (by rfl) g2 kp2 b2 .nil pass0 (pa_cons (pv 1) (pa_cons pe_int pa_nil))) pa_nil))) pa_nil))))))
      (pss_cons (ps_setLc (i := 4) (own := [("a", 10), ("b", 11), ("length", 12)]) (g := gTup K 3 (gCons (gName 10) (gCons (gName 11) (gCons (gName 12) gNil)))) (tt := tYes) rfl nd rfl rfl (sw_true rfl rfl rfl (by decide +kernel)) (pi_tup (pe_ix (r := rIxT K) ix_tup (pv 3) pe_int (fun _ _ => rfl))) (blkOk_by (own := [("a", 10), ("b", 11), ("length", 12)]) (N := nLaw) (sc := defScope sLaw) (by decide +kernel)) (fun _ _ _ _ _ => (pg_tup rfl (pgs_cons (pg_name (i := 10) nd rfl (Or.inl rfl)) (pgs_cons (pg_name (i := 11) nd rfl (Or.inl rfl)) (pgs_cons (pg_name (i := 12) nd rfl (Or.inl rfl)) pgs_nil))))) (fun _ _ _ _ _ => pts_nil) (fun _ _ _ _ _ => (pv 12)))
      (pss_cons (ps_set (i := 5) nd rfl (Or.inl rfl) (pe_call G4 (hr.mono (by decide)) (by rfl) g4 kp4 b4 .nil pass0 (pa_cons (pv 3) pa_nil)))
      (pss_cons (ps_if (PW.pt (pw_or (pt_cmpR op_ne (pe_ix (r := rIxT K) ix_tup (pe_call G5 (hr.mono (by decide)) (by rfl) g5 kp5 b5 .nil pass0 (pa_cons (pv 5) pa_nil)) pe_int (fun _ _ => rfl)) pe_str (nomark _)) (pw_or (pt_not (pt_val (pe_call G6 (hr.mono (by decide)) (by rfl) g6 kp6 b6 .nil pass0 (pa_cons (pv 5) pa_nil)))) (pw_or1 (pt_not (pt_val (pe_call G6 (hr.mono (by decide)) (by rfl) g6 kp6 b6 .nil pass0 (pa_cons (pv 3) pa_nil)))))))) (pss_one (ps_ret pe_bl)) pss_nil)
      (pss_cons (ps_setLc (i := 6) (own := [("length", 12)]) (g := gName 12) (tt := tYes) rfl nd rfl rfl (sw_true rfl rfl rfl (by decide +kernel)) (pi_list (pv 4)) (blkOk_by (own := [("length", 12)]) (N := nLaw) (sc := defScope sLaw) (by decide +kernel)) (fun _ _ _ _ _ => (pg_name (i := 12) nd rfl (Or.inl rfl))) (fun _ _ _ _ _ => pts_nil) (fun _ _ _ _ _ => (pe_op op_add pe_int (pe_op op_mod (pv 12) pe_int))))
      (pss_cons (ps_set (i := 7) nd rfl (Or.inr rfl) (pe_op op_add pe_int (pe_call G2 (hr.mono (by decide)) (by rfl) g2 kp2 b2 .nil pass0 (pa_cons (pv 1) (pa_cons (pe_op op_pow pe_int pe_int) pa_nil)))))
      (pss_cons (ps_for PassesOwn.never rfl (pi_list (pe_lst (pa_cons (pv 6) (pa_cons (pe_lc (own := [("length", 12)]) (g := gName 12) (tt := tYes) rfl nd (pi_list (pv 6)) (blkOk_by (own := [("length", 12)]) (N := nLaw) (sc := defScope sLaw) (by decide +kernel)) (fun _ _ _ _ _ => (pg_name (i := 12) nd rfl (Or.inl rfl))) (fun _ _ _ _ _ => pts_nil) (fun _ _ _ _ _ => (pe_op op_mul (pv 7) (pv 12)))) (pa_cons (pe_revL (pv 6)) (pa_cons (pe_op op_rep (pe_lst (pa_cons pe_int pa_nil)) (pe_callB call_len_seq (by rfl) T.len PySem.boot_len (pa_cons (pv 6) pa_nil))) pa_nil)))))) (pg_name (i := 8) nd rfl (Or.inl rfl))
      (pss_one (ps_if (pt_not (pt_val (pe_call G6 (hr.mono (by decide)) (by rfl) g6 kp6 b6 .nil pass0 (pa_cons (pe_call G7 (hr.mono (by decide)) (by rfl) g7 kp7 b7 .nil pass0 (pa_cons (pv 3) (pa_cons (pv 8) pa_nil))) pa_nil)))) (pss_one (ps_ret pe_bl)) pss_nil)))
      (pss_cons (ps_set (i := 9) nd rfl (Or.inl rfl) (pe_ix (r := rIxT K) ix_tup (pe_call G5 (hr.mono (by decide)) (by rfl) g5 kp5 b5 .nil pass0 (pa_cons (pe_call G7 (hr.mono (by decide)) (by rfl) g7 kp7 b7 .nil pass0 (pa_cons (pv 3) (pa_cons (pv 6) pa_nil))) pa_nil)) pe_int (fun _ _ => rfl)))
      (pss_one (ps_if (pt_cmpR op_ne (pe_ix (r := rIxT K) ix_tup (pe_call G5 (hr.mono (by decide)) (by rfl) g5 kp5 b5 .nil pass0 (pa_cons (pe_call G7 (hr.mono (by decide)) (by rfl) g7 kp7 b7 .nil pass0 (pa_cons (pv 3) (pa_cons (pe_lc (own := [("length", 12)]) (g := gName 12) (tt := tYes) rfl nd (pi_list (pv 6)) (blkOk_by (own := [("length", 12)]) (N := nLaw) (sc := defScope sLaw) (by decide +kernel)) (fun _ _ _ _ _ => (pg_name (i := 12) nd rfl (Or.inl rfl))) (fun _ _ _ _ _ => pts_nil) (fun _ _ _ _ _ => (pe_op op_mul (pv 7) (pv 12)))) pa_nil))) pa_nil)) pe_int (fun _ _ => rfl)) (pv 9) (nomark _)) (pss_one (ps_ret pe_bl)) pss_nil)))))))))))
      (pss_one (ps_ret pe_bl)))), ?_⟩
  refine q_callAsg (K := K) (ds := [.list (ns.map PyData.int), .int 900]) (eda_cons (ed_var rfl (.lst ha (dpA_ints ns))) (eda_cons ed_int eda_nil)) fun vs H1 e1 hd1 => ?_
  obtain ⟨c1, c2, rfl, hc1, hc2⟩ := dpA_2 hd1
  cases dp_int hc2
  obtain ⟨a1, xs1, rfl, hs1, hx1⟩ := dp_lst hc1
  rw [ints_dpA hx1] at hs1
  refine ⟨a1, ns, rfl, hs1, hlen, fun p H2 hp e2 P2 => ?_⟩
  refine q_forN (K := K) (n := 1 + min 3 ns.length) (eda_cons (EvD.is (ed_op ed_int (ed_cb (eda_cons ed_int (eda_cons (ed_cb (eda_cons (ed_var rfl (.lst (ex_l (e1.trans e2) ha) (dpA_ints ns))) eda_nil) rdc_lenL) eda_nil)) rdc_minI) (rd_int (g := fun i j => i + j))) (by rw [List.length_map]; congr 1; omega)) eda_nil) (by omega)
    (fun i σ' H' => ∃ y2 y3 y4 y5 y6 y7 y8 y9 y10 y11 y12, σ' = [some (.ref a), some (.ref p), y2, y3, y4, y5, y6, y7, y8, y9, y10, y11, y12] ∧ PotAt H' p)
    (fun H3 e3 => ⟨_, _, _, _, _, _, _, _, _, _, _, rfl, P2.ex e3⟩) ?_ ?_
  · rintro i σ' H3 hi ⟨y2, y3, y4, y5, y6, y7, y8, y9, y10, y11, y12, rfl, P3⟩
    -- web
    refine qd_asgX (call_X (cons_X ⟨_, rfl, cons_X (op_cL (ev_take (K := K) P3 rfl (m := 10) (by decide) ed_int fun r1 H4 r10 r11 k4 P4 => ⟨1, r1, rfl, rfl, ?_⟩))⟩))
    refine cons_X (ev_take (K := K) P4 rfl (m := 16) (by decide) ed_int fun r2 H5 r20 r21 k5 P5 => ?_)
    refine cons_X (lst_X (cons_X (ev_take (K := K) P5 rfl (m := 4) (by decide) ed_int fun r3 H6 r30 r31 k6 P6 => ?_)))
    refine cons_X (ev_take (K := K) P6 rfl (m := 4) (by decide) ed_int fun r4 H7 r40 r41 k7 P7 => ⟨sz_of (by show 2 ≤ 100000; decide), fun S hS => ?_⟩)
    obtain ⟨n1, rfl⟩ := Int.eq_ofNat_of_zero_le r10
    obtain ⟨n2, rfl⟩ := Int.eq_ofNat_of_zero_le r20
    refine ⟨p, S, 1 + n1, n2, r3, r4, by rw [show ((1 + n1 : Nat) : Int) = 1 + (n1 : Int) by omega]; rfl, P7.ex (Ex.new hS), upd_same, r30, r31, by omega, by omega, by omega, fun W v3 H8 G hv3 k8 P8 => ?_⟩
    have few := G.few
    -- lengths
    have hlens : EvN K _ [some (.ref a), some (.ref p), some (.int (i : Int)), some v3, y4, y5, y6, y7, y8, y9, y10, y11, y12] H8 _ := en_lcT (K := K) (H := H8) (g0 := gTup K 3 (gCons (gName 10) (gCons (gName 11) (gCons (gName 12) gNil)))) (vs := [10, 11, 12]) (ts := tOp (rIxT K) (tVar 3) (tC (.int 1))) (t := tYes) (te := tVar 12) (σ := [some (.ref a), some (.ref p), some (.int (i : Int)), some v3, y4, y5, y6, y7, y8, y9, y10, y11, y12])
      W.2 tieD (fun _ => true) (fun t => PyData.int t.2.2) (fun t => [some (.ref a), some (.ref p), some (.int (i : Int)), some v3, y4, y5, y6, y7, y8, y9, some (.int (t.1 : Int)), some (.int (t.2.1 : Int)), some (.int t.2.2)])
      (ed_ixT (ed_var rfl hv3) ed_int (atI_nat (j := 1) rfl)) (by omega) (fun t _ x H9 e9 hx => eg_3 hx) (fun _ _ => rfl) (fun _ _ => et_yes) (fun t _ _ => ed_var rfl (.int _)) (fun _ _ => rfl)
    rw [List.filter_eq_self.mpr (fun _ _ => rfl)] at hlens
    refine qd_asgN hlens fun p4 xs4 H9 hp4 e9 h9 hd9 => ?_
    have hv3 := ex_dp e9 hv3
    obtain ⟨lens, hlens⟩ : ∃ lens : List Int, W.2.map (fun t => PyData.int t.2.2) = lens.map PyData.int := ⟨W.2.map fun t => t.2.2, by rw [List.map_map]; rfl⟩
    have hll : lens.length = W.2.length := by
      have := congrArg List.length hlens
      rw [List.length_map, List.length_map] at this
      exact this.symm
    rw [hlens] at hd9
    -- sure
    let SV := withL W (twos W.2.length)
    have TV : Twos SV := sure_twos G few
    refine qd_asg (K := K) (d := webD SV) (ed_call (eda_cons (ed_var rfl hv3) eda_nil) ⟨W, G, rfl, rfl⟩) fun v5 H10 e10 hv5 => ?_
    have hv3 := ex_dp e10 hv3
    have hb : lb SV = true := (lb_iff SV).mpr (twos_lone TV)
    have test := et_or (dt_test (K := K) (ed_op (ed_ver0 (E := E0) (eda_cons (ed_var (σ := [some (.ref a), some (.ref p), some (.int (i : Int)), some v3, some (.ref p4), some v5, y6, y7, y8, y9, y10, y11, y12]) (i := 5) rfl hv5) eda_nil) TV.good) (ed_str (i := "lone")) rd_neS)) fun _ =>
      et_or (et_not (dt_B (ed_right (E := E0) (eda_cons (ed_var (K := K) (i := 5) rfl hv5) eda_nil) TV.good))) fun _ => et_not (dt_B (ed_right (E := E0) (eda_cons (ed_var (K := K) (i := 3) rfl hv3) eda_nil) G))
    have tf : (!decide (toldS (lb SV) = "lone") || (!true || !true)) = false := by rw [hb]; decide +kernel
    rw [tf] at test
    refine q_when test (fun z => by cases z) fun _ H11 e11 => ?_
    have hv3 := ex_dp e11 hv3
    -- small
    have h4 : EvD K (tVar 4) [some (.ref a), some (.ref p), some (.int (i : Int)), some v3, some (.ref p4), some v5, y6, y7, y8, y9, y10, y11, y12] H11 (.list (lens.map PyData.int)) := ed_ref rfl (e11 _ _ (e10 _ _ h9)) (ex_dpA (e10.trans e11) hd9)
    have hsmall := en_lcL (K := K) (H := H11) (j := 12) (vs := [12]) (ts := tVar 4) (t := tYes) (te := tOp (rI0 fun i j => .int (i + j)) (tC (.int 1)) (tOp (rI (fun x j => 0 < j) fun i j => .int (i % j)) (tVar 12) (tC (.int 9)))) (σ := [some (.ref a), some (.ref p), some (.int (i : Int)), some v3, some (.ref p4), some v5, y6, y7, y8, y9, y10, y11, y12])
      lens PyData.int (fun _ => true) (fun l => PyData.int (1 + l % 9)) h4 (by omega) (fun _ => rfl) (fun _ _ _ _ _ _ => et_yes) (fun l _ _ x H12 _ hx => ed_op ed_int (ed_op (ed_var rfl hx) ed_int (rd_intC (g := fun i j => i % j) (by decide))) (rd_int (g := fun i j => i + j))) (fun _ _ => rfl)
    rw [List.filter_eq_self.mpr (fun _ _ => rfl)] at hsmall
    refine qd_asgN hsmall fun p6 xs6 H12 hp6 e12 h12 hd12 => ?_
    have hv3 := ex_dp e12 hv3
    let ss := lens.map fun l => 1 + l % 9
    have ess : lens.map (fun l => PyData.int (1 + l % 9)) = ss.map PyData.int := by
      show _ = (lens.map fun l => 1 + l % 9).map PyData.int
      rw [List.map_map]
      rfl
    rw [ess] at hd12
    rw [ints_dpA hd12] at h12
    have hsl : ss.length = W.2.length := by
      show (lens.map fun l => 1 + l % 9).length = _
      rw [List.length_map]
      exact hll
    have hs9 : ∀ l ∈ ss, 1 ≤ l ∧ l ≤ 9 := fun l hl => by
      obtain ⟨z, _, rfl⟩ := List.mem_map.mp hl
      have h1 := Int.emod_nonneg z (by decide : (9 : Int) ≠ 0)
      have h2 := Int.emod_lt_of_pos z (by decide : (0 : Int) < 9)
      omega
    -- factor
    have P12 : PotAt H12 p := P8.ex (e9.trans (e10.trans (e11.trans e12)))
    have e6n : (10 : Int) ^ (6 : Int).toNat = 1000000 := by decide
    refine qd_asgX (op_cL (ev_take (K := K) P12 rfl (m := 10 ^ (6 : Int).toNat) (by decide) (ed_op ed_int ed_int (rd_intC (g := fun i j => i ^ j.toNat) ⟨by decide, by decide, by decide⟩)) fun r5 H13 r50 r51 k13 P13 => ⟨2, r5, rfl, rfl, ?_⟩))
    dsimp only
    rw [e6n] at r51
    have hfac : 2 ≤ 2 + r5 ∧ 2 + r5 ≤ 1000001 := ⟨by omega, by omega⟩
    generalize 2 + r5 = fac at hfac ⊢
    have hv3 : Dp K H13 v3 (webD W) := tu_dp (k13.tu P12) (webD_noL W) hv3
    have h13 : H13 p6 = some (.lst (ss.map V.int)) := k13 _ _ (P12.ne h12 ints_ne) h12
    have ev6 : ∀ {σ0 : L2.St} {H0 : Hp}, Ex H13 H0 → σ0[6]? = some (some (.ref p6)) → EvD K (tVar 6) σ0 H0 (linesD ss) := fun e h => ed_ref h (e _ _ h13) (dpA_ints _)
    have ecomp : ∀ {H0 : Hp} {y8 y9 : Option V}, Ex H13 H0 → EvN K (tLc (iList K (tVar 6)) (gName 12) tYes (tOp (rI CMul fun i j => .int (i * j)) (tVar 7) (tVar 12)) [12]) [some (.ref a), some (.ref p), some (.int (i : Int)), some v3, some (.ref p4), some v5, some (.ref p6), some (.int fac), y8, y9, y10, y11, y12] H0 ((ss.map fun l => fac * l).map PyData.int) := fun {H0 y8 y9} e => by
      have := en_lcL (K := K) (H := H0) (j := 12) (vs := [12]) (ts := tVar 6) (t := tYes) (te := tOp (rI CMul fun i j => .int (i * j)) (tVar 7) (tVar 12)) (σ := [some (.ref a), some (.ref p), some (.int (i : Int)), some v3, some (.ref p4), some v5, some (.ref p6), some (.int fac), y8, y9, y10, y11, y12])
        ss PyData.int (fun _ => true) (fun l => PyData.int (fac * l)) (ev6 e rfl) (by omega) (fun _ => rfl) (fun _ _ _ _ _ _ => et_yes) (fun l _ _ x H12 _ hx => ed_op (ed_var rfl (.int fac)) (ed_var rfl hx) (rd_intC (g := fun i j => i * j) (.inl ⟨by omega, by omega⟩))) (fun _ _ => rfl)
      rw [List.filter_eq_self.mpr (fun _ _ => rfl)] at this
      rw [List.map_map]
      exact this
    -- the four lists
    let lists : List (List Int) := [ss, ss.map fun l => fac * l, ss.reverse, List.replicate ss.length 1]
    have hlists : ∀ ls ∈ lists, ls.length = W.2.length ∧ ∀ l ∈ ls, 1 ≤ l ∧ l ≤ 10 ^ 30 := fun ls hls => by
      rcases List.mem_cons.mp hls with rfl | hls
      · exact ⟨hsl, fun l hl => ⟨(hs9 l hl).1, by have := (hs9 l hl).2; omega⟩⟩
      rcases List.mem_cons.mp hls with rfl | hls
      · refine ⟨by rw [List.length_map]; exact hsl, fun l hl => ?_⟩
        obtain ⟨z, hz, rfl⟩ := List.mem_map.mp hl
        obtain ⟨z1, z2⟩ := hs9 z hz
        have m1 : 1 * 1 ≤ fac * z := Int.mul_le_mul (by omega) z1 (by decide) (by omega)
        have m2 : fac * z ≤ 1000001 * 9 := Int.mul_le_mul hfac.2 z2 (by omega) (by decide)
        exact ⟨by omega, by omega⟩
      rcases List.mem_cons.mp hls with rfl | hls
      · exact ⟨by rw [List.length_reverse]; exact hsl, fun l hl => by
          have := hs9 l (List.mem_reverse.mp hl)
          omega⟩
      · rw [List.mem_singleton.mp hls]
        exact ⟨by rw [List.length_replicate]; exact hsl, fun l hl => by rw [List.eq_of_mem_replicate hl]; exact ⟨by decide, by decide⟩⟩
    have four : EvN K (tLst (tCons (tVar 6) (tCons (tLc (iList K (tVar 6)) (gName 12) tYes (tOp (rI CMul fun i j => .int (i * j)) (tVar 7) (tVar 12)) [12]) (tCons (tRevL K (tVar 6)) (tCons (tOp rRep (tLst (tCons (tC (.int 1)) tNil)) (tCB (fun xs H Q => ∃ p ys, xs = [.ref p] ∧ (SqL K H p ys ∨ SqT K H p ys) ∧ Q (.int ys.length) H) (tCons (tVar 6) tNil))) tNil)))))
        [some (.ref a), some (.ref p), some (.int (i : Int)), some v3, some (.ref p4), some v5, some (.ref p6), some (.int fac), y8, y9, y10, y11, y12] H13 (lists.map linesD) :=
      en_lst (eda_cons (ev6 (Ex.refl _) rfl) (eda_cons (evn_d (ecomp (Ex.refl _))) (eda_cons (ed_rev (ev6 (Ex.refl _) rfl)) (eda_cons (EvD.is (evn_d (en_rep (n := ss.length) (en_lst (eda_cons ed_int eda_nil)) (EvD.is (ed_cb (eda_cons (ev6 (Ex.refl _) rfl) eda_nil) rdc_lenL) (by rw [List.length_map])) (by omega))) (by rw [flat_rep]; unfold linesD; rw [List.map_replicate])) eda_nil)))) (by show 4 ≤ 100000; decide)
    refine q_forND (K := K) lists linesD four (fun _ σ' => ∃ y8, σ' = [some (.ref a), some (.ref p), some (.int (i : Int)), some v3, some (.ref p4), some v5, some (.ref p6), some (.int fac), y8, y9, y10, y11, y12]) ⟨_, rfl⟩ ?_ ?_
    · rintro k ls σ' H14 v8 N hk ⟨y8, rfl⟩ e14 hv8 hN
      obtain ⟨l1, l2⟩ := hlists ls (List.mem_of_getElem? hk)
      refine s_when (b := !true) (et_not (dt_B (ed_right (K := K) (eda_cons (ed_with (ed_var rfl (ex_dp e14 hv3)) (ed_var rfl hv8) G l1 l2) eda_nil) (withL_good G l1 l2)))) (fun z => by cases z) fun _ H15 e15 => hN _ _ ⟨_, rfl⟩ e15
    · rintro σ' H14 ⟨y8, rfl⟩ e14
      have s1 := hlists ss (List.mem_cons_self ..)
      have s2 := hlists (ss.map fun l => fac * l) (List.mem_cons_of_mem _ (List.mem_cons_self ..))
      have G1 := withL_good G s1.1 s1.2
      have G2 := withL_good G s2.1 s2.2
      refine qd_asg (K := K) (d := .str (toldS (lb (withL W ss)))) (ed_ver0 (eda_cons (ed_with (ed_var rfl (ex_dp e14 hv3)) (ev6 e14 rfl) G s1.1 s1.2) eda_nil) G1) fun v9 H15 e15 hv9 => ?_
      have same : lb (withL W (ss.map fun l => fac * l)) = lb (withL W ss) := by
        have := scale_lone (W := withL W ss) (V := withL W (ss.map fun l => fac * l)) (k := fac) G1 (by omega) rfl (scaled W ss fac)
        rw [Bool.eq_iff_iff, lb_iff, lb_iff]
        exact this
      refine s_when (b := false) (dt_test (K := K) (EvD.is (ed_op (ed_ver0 (eda_cons (ed_with (ed_var rfl (ex_dp (e14.trans e15) hv3)) (evn_d (ecomp (e14.trans e15))) G s2.1 s2.2) eda_nil) G2) (ed_var rfl hv9) rd_neS) (by rw [same, decide_eq_true rfl]; rfl))) (fun z => by cases z) fun _ H16 e16 => ?_
      exact ⟨_, _, _, _, _, _, _, _, _, _, _, rfl, P13.ex (e14.trans (e15.trans e16))⟩
  · rintro σ' H3 ⟨y2, y3, y4, y5, y6, y7, y8, y9, y10, y11, y12, rfl, P3⟩
    exact q H3
end
end Lt

set_option maxRecDepth 100000
set_option maxHeartbeats 4000000
/-! What the top has written, the head, the end. -/
namespace Lt
open PySem PySem.Spec L2 Evl
theorem all_mk {l : PySem.W.OpenLaw} {w : World} {K : PySem.W.Frag} {h : Heap} {mg : Str → Option Value} {fa : Addr} (X : K.In h) (G : h.Ns mainGlobals mg) (hfa : mg "law" = some (.ref fa))
    {f1 f2 f3 f4 f5 f6 f7 f8 f9 f10 f11 f12 f13 f14 f15 f16 f17 f18 f19 f20 f21 f22 f23 f24 f25 : Addr}
    {od1 an1 od2 an2 od3 an3 od4 an4 od5 an5 od6 an6 od7 an7 od8 an8 od9 an9 od10 an10 od11 an11 od12 an12 od13 an13 od14 an14 od15 an15 od16 an16 od17 an17 od18 an18 od19 an19 od20 an20 od21 an21 od22 an22 od23 an23 od24 an24 od25 an25 : Option Addr} {sl1 sl2 sl3 sl4 sl5 sl6 sl7 sl8 sl9 sl10 sl11 sl12 sl13 sl14 sl15 sl16 sl17 sl18 sl19 sl20 sl21 sl22 sl23 sl24 sl25 : Array (Option Value)}
    {oc1 kV1 dc1 pm1 cd1 ct1 oc2 kV2 dc2 pm2 cd2 ct2 oc3 kV3 dc3 pm3 cd3 ct3 oc4 kV4 dc4 pm4 cd4 ct4 oc5 kV5 dc5 pm5 cd5 ct5 oc6 kV6 dc6 pm6 cd6 ct6 oc7 kV7 dc7 pm7 cd7 ct7 oc8 kV8 dc8 pm8 cd8 ct8 oc9 kV9 dc9 pm9 cd9 ct9 oc10 kV10 dc10 pm10 cd10 ct10 oc11 kV11 dc11 pm11 cd11 ct11 oc12 kV12 dc12 pm12 cd12 ct12 oc13 kV13 dc13 pm13 cd13 ct13 oc14 kV14 dc14 pm14 cd14 ct14 oc15 kV15 dc15 pm15 cd15 ct15 oc16 kV16 dc16 pm16 cd16 ct16 oc17 kV17 dc17 pm17 cd17 ct17 oc18 kV18 dc18 pm18 cd18 ct18 oc19 kV19 dc19 pm19 cd19 ct19 oc20 kV20 dc20 pm20 cd20 ct20 oc21 kV21 dc21 pm21 cd21 ct21 oc22 kV22 dc22 pm22 cd22 ct22 oc23 kV23 dc23 pm23 cd23 ct23 oc24 kV24 dc24 pm24 cd24 ct24 oc25 kV25 dc25 pm25 cd25 ct25 : Value}
    {tk1 tk2 : Tok} {m1 m2 : Int}
    (a1 : PySem.W.nsIn K mainGlobals "near_lists" = some (some (.ref f1))) (l1 : K.lookup f1 = some ⟨oc1, od1, .func (PySem.W.fnOf "near_lists" "near_lists" (defArgs sNear) (defBody sNear) (defScope sNear) .none kV1 dc1 pm1 an1 cd1 ct1), sl1⟩) (c1 : PySem.W.codeIn K cd1 "near_lists" = true) (k1 : PySem.W.keepIn K (.ref f1) = true)
    (a2 : PySem.W.nsIn K mainGlobals "look_at_far_place" = some (some (.ref f2))) (l2 : K.lookup f2 = some ⟨oc2, od2, .func (PySem.W.fnOf "look_at_far_place" "look_at_far_place" (defArgs sLookF) (defBody sLookF) (defScope sLookF) .none kV2 dc2 pm2 an2 cd2 ct2), sl2⟩) (c2 : PySem.W.codeIn K cd2 "look_at_far_place" = true) (k2 : PySem.W.keepIn K (.ref f2) = true)
    (a3 : PySem.W.nsIn K mainGlobals "nearest_open" = some (some (.ref f3))) (l3 : K.lookup f3 = some ⟨oc3, od3, .func (PySem.W.fnOf "nearest_open" "nearest_open" (defArgs sOpen) (defBody sOpen) (defScope sOpen) .none kV3 dc3 pm3 an3 cd3 ct3), sl3⟩) (c3 : PySem.W.codeIn K cd3 "nearest_open" = true) (k3 : PySem.W.keepIn K (.ref f3) = true)
    (a4 : PySem.W.nsIn K mainGlobals "fars_from" = some (some (.ref f4))) (l4 : K.lookup f4 = some ⟨oc4, od4, .func (PySem.W.fnOf "fars_from" "fars_from" (defArgs sFars) (defBody sFars) (defScope sFars) .none kV4 dc4 pm4 an4 cd4 ct4), sl4⟩) (c4 : PySem.W.codeIn K cd4 "fars_from" = true) (k4 : PySem.W.keepIn K (.ref f4) = true)
    (a5 : PySem.W.nsIn K mainGlobals "look_at_place" = some (some (.ref f5))) (l5 : K.lookup f5 = some ⟨oc5, od5, .func (PySem.W.fnOf "look_at_place" "look_at_place" (defArgs sLook) (defBody sLook) (defScope sLook) .none kV5 dc5 pm5 an5 cd5 ct5), sl5⟩) (c5 : PySem.W.codeIn K cd5 "look_at_place" = true) (k5 : PySem.W.keepIn K (.ref f5) = true)
    (a6 : PySem.W.nsIn K mainGlobals "neighbours_of" = some (some (.ref f6))) (l6 : K.lookup f6 = some ⟨oc6, od6, .func (PySem.W.fnOf "neighbours_of" "neighbours_of" (defArgs sNbs) (defBody sNbs) (defScope sNbs) .none kV6 dc6 pm6 an6 cd6 ct6), sl6⟩) (c6 : PySem.W.codeIn K cd6 "neighbours_of" = true) (k6 : PySem.W.keepIn K (.ref f6) = true)
    (a7 : PySem.W.nsIn K mainGlobals "length_between" = some (some (.ref f7))) (l7 : K.lookup f7 = some ⟨oc7, od7, .func (PySem.W.fnOf "length_between" "length_between" (defArgs sLenB) (defBody sLenB) (defScope sLenB) .none kV7 dc7 pm7 an7 cd7 ct7), sl7⟩) (c7 : PySem.W.codeIn K cd7 "length_between" = true) (k7 : PySem.W.keepIn K (.ref f7) = true)
    (a8 : PySem.W.nsIn K mainGlobals "tie_length" = some (some (.ref f8))) (l8 : K.lookup f8 = some ⟨oc8, od8, .func (PySem.W.fnOf "tie_length" "tie_length" (defArgs sTieL) (defBody sTieL) (defScope sTieL) .none kV8 dc8 pm8 an8 cd8 ct8), sl8⟩) (c8 : PySem.W.codeIn K cd8 "tie_length" = true) (k8 : PySem.W.keepIn K (.ref f8) = true)
    (a9 : PySem.W.nsIn K mainGlobals "table_of" = some (some (.ref f9))) (l9 : K.lookup f9 = some ⟨oc9, od9, .func (PySem.W.fnOf "table_of" "table_of" (defArgs sTable) (defBody sTable) (defScope sTable) .none kV9 dc9 pm9 an9 cd9 ct9), sl9⟩) (c9 : PySem.W.codeIn K cd9 "table_of" = true) (k9 : PySem.W.keepIn K (.ref f9) = true)
    (a10 : PySem.W.nsIn K mainGlobals "ties_about" = some (some (.ref f10))) (l10 : K.lookup f10 = some ⟨oc10, od10, .func (PySem.W.fnOf "ties_about" "ties_about" (defArgs sAbout) (defBody sAbout) (defScope sAbout) .none kV10 dc10 pm10 an10 cd10 ct10), sl10⟩) (c10 : PySem.W.codeIn K cd10 "ties_about" = true) (k10 : PySem.W.keepIn K (.ref f10) = true)
    (a11 : PySem.W.nsIn K mainGlobals "steps_to" = some (some (.ref f11))) (l11 : K.lookup f11 = some ⟨oc11, od11, .func (PySem.W.fnOf "steps_to" "steps_to" (defArgs sSteps) (defBody sSteps) (defScope sSteps) .none kV11 dc11 pm11 an11 cd11 ct11), sl11⟩) (c11 : PySem.W.codeIn K cd11 "steps_to" = true) (k11 : PySem.W.keepIn K (.ref f11) = true)
    (a12 : PySem.W.nsIn K mainGlobals "way_by" = some (some (.ref f12))) (l12 : K.lookup f12 = some ⟨oc12, od12, .func (PySem.W.fnOf "way_by" "way_by" (defArgs sWay) (defBody sWay) (defScope sWay) .none kV12 dc12 pm12 an12 cd12 ct12), sl12⟩) (c12 : PySem.W.codeIn K cd12 "way_by" = true) (k12 : PySem.W.keepIn K (.ref f12) = true)
    (a13 : PySem.W.nsIn K mainGlobals "bar_between" = some (some (.ref f13))) (l13 : K.lookup f13 = some ⟨oc13, od13, .func (PySem.W.fnOf "bar_between" "bar_between" (defArgs sBar) (defBody sBar) (defScope sBar) .none kV13 dc13 pm13 an13 cd13 ct13), sl13⟩) (c13 : PySem.W.codeIn K cd13 "bar_between" = true) (k13 : PySem.W.keepIn K (.ref f13) = true)
    (a14 : PySem.W.nsIn K mainGlobals "verdict" = some (some (.ref f14))) (l14 : K.lookup f14 = some ⟨oc14, od14, .func (PySem.W.fnOf "verdict" "verdict" (defArgs sVer) (defBody sVer) (defScope sVer) .none kV14 dc14 pm14 an14 cd14 ct14), sl14⟩) (c14 : PySem.W.codeIn K cd14 "verdict" = true) (k14 : PySem.W.keepIn K (.ref f14) = true)
    (a15 : PySem.W.nsIn K mainGlobals "is_length" = some (some (.ref f15))) (l15 : K.lookup f15 = some ⟨oc15, od15, .func (PySem.W.fnOf "is_length" "is_length" (defArgs sIsLen) (defBody sIsLen) (defScope sIsLen) .none kV15 dc15 pm15 an15 cd15 ct15), sl15⟩) (c15 : PySem.W.codeIn K cd15 "is_length" = true) (k15 : PySem.W.keepIn K (.ref f15) = true)
    (a16 : PySem.W.nsIn K mainGlobals "with_lengths" = some (some (.ref f16))) (l16 : K.lookup f16 = some ⟨oc16, od16, .func (PySem.W.fnOf "with_lengths" "with_lengths" (defArgs sWithL) (defBody sWithL) (defScope sWithL) .none kV16 dc16 pm16 an16 cd16 ct16), sl16⟩) (c16 : PySem.W.codeIn K cd16 "with_lengths" = true) (k16 : PySem.W.keepIn K (.ref f16) = true)
    (a17 : PySem.W.nsIn K mainGlobals "sure_web" = some (some (.ref f17))) (l17 : K.lookup f17 = some ⟨oc17, od17, .func (PySem.W.fnOf "sure_web" "sure_web" (defArgs sSure) (defBody sSure) (defScope sSure) .none kV17 dc17 pm17 an17 cd17 ct17), sl17⟩) (c17 : PySem.W.codeIn K cd17 "sure_web" = true) (k17 : PySem.W.keepIn K (.ref f17) = true)
    (a18 : PySem.W.nsIn K mainGlobals "_law_draws" = some (some (.ref f18))) (l18 : K.lookup f18 = some ⟨oc18, od18, .func (PySem.W.fnOf "_law_draws" "_law_draws" (defArgs sDraws) (defBody sDraws) (defScope sDraws) .none kV18 dc18 pm18 an18 cd18 ct18), sl18⟩) (c18 : PySem.W.codeIn K cd18 "_law_draws" = true) (k18 : PySem.W.keepIn K (.ref f18) = true)
    (a19 : PySem.W.nsIn K mainGlobals "_law_take" = some (some (.ref f19))) (l19 : K.lookup f19 = some ⟨oc19, od19, .func (PySem.W.fnOf "_law_take" "_law_take" (defArgs sTake) (defBody sTake) (defScope sTake) .none kV19 dc19 pm19 an19 cd19 ct19), sl19⟩) (c19 : PySem.W.codeIn K cd19 "_law_take" = true) (k19 : PySem.W.keepIn K (.ref f19) = true)
    (a20 : PySem.W.nsIn K mainGlobals "_law_length" = some (some (.ref f20))) (l20 : K.lookup f20 = some ⟨oc20, od20, .func (PySem.W.fnOf "_law_length" "_law_length" (defArgs sLength) (defBody sLength) (defScope sLength) .none kV20 dc20 pm20 an20 cd20 ct20), sl20⟩) (c20 : PySem.W.codeIn K cd20 "_law_length" = true) (k20 : PySem.W.keepIn K (.ref f20) = true)
    (a21 : PySem.W.nsIn K mainGlobals "_law_web" = some (some (.ref f21))) (l21 : K.lookup f21 = some ⟨oc21, od21, .func (PySem.W.fnOf "_law_web" "_law_web" (defArgs sWeb) (defBody sWeb) (defScope sWeb) .none kV21 dc21 pm21 an21 cd21 ct21), sl21⟩) (c21 : PySem.W.codeIn K cd21 "_law_web" = true) (k21 : PySem.W.keepIn K (.ref f21) = true)
    (a22 : PySem.W.nsIn K mainGlobals "_law_far" = some (some (.ref f22))) (l22 : K.lookup f22 = some ⟨oc22, od22, .func (PySem.W.fnOf "_law_far" "_law_far" (defArgs sFar) (defBody sFar) (defScope sFar) .none kV22 dc22 pm22 an22 cd22 ct22), sl22⟩) (c22 : PySem.W.codeIn K cd22 "_law_far" = true) (k22 : PySem.W.keepIn K (.ref f22) = true)
    (a23 : PySem.W.nsIn K mainGlobals "_law_lone" = some (some (.ref f23))) (l23 : K.lookup f23 = some ⟨oc23, od23, .func (PySem.W.fnOf "_law_lone" "_law_lone" (defArgs sLone) (defBody sLone) (defScope sLone) .none kV23 dc23 pm23 an23 cd23 ct23), sl23⟩) (c23 : PySem.W.codeIn K cd23 "_law_lone" = true) (k23 : PySem.W.keepIn K (.ref f23) = true)
    (a24 : PySem.W.nsIn K mainGlobals "_law_right" = some (some (.ref f24))) (l24 : K.lookup f24 = some ⟨oc24, od24, .func (PySem.W.fnOf "_law_right" "_law_right" (defArgs sRight) (defBody sRight) (defScope sRight) .none kV24 dc24 pm24 an24 cd24 ct24), sl24⟩) (c24 : PySem.W.codeIn K cd24 "_law_right" = true) (k24 : PySem.W.keepIn K (.ref f24) = true)
    (a25 : PySem.W.nsIn K mainGlobals "law" = some (some (.ref f25))) (l25 : K.lookup f25 = some ⟨oc25, od25, .func (PySem.W.fnOf "law" "law" (defArgs sLaw) (defBody sLaw) (defScope sLaw) .none kV25 dc25 pm25 an25 cd25 ct25), sl25⟩) (c25 : PySem.W.codeIn K cd25 "law" = true) (k25 : PySem.W.keepIn K (.ref f25) = true)
    (z_range : PySem.W.nsIn K mainGlobals "range" = some none)
    (z_len : PySem.W.nsIn K mainGlobals "len" = some none)
    (z_min : PySem.W.nsIn K mainGlobals "min" = some none)
    (z_max : PySem.W.nsIn K mainGlobals "max" = some none)
    (z_sorted : PySem.W.nsIn K mainGlobals "sorted" = some none)
    (z_list : PySem.W.nsIn K mainGlobals "list" = some none)
    (z_tuple : PySem.W.nsIn K mainGlobals "tuple" = some none)
    (z_isinstance : PySem.W.nsIn K mainGlobals "isinstance" = some none)
    (z_int : PySem.W.nsIn K mainGlobals "int" = some none)
    (z_bool : PySem.W.nsIn K mainGlobals "bool" = some none)
    (z_all : PySem.W.nsIn K mainGlobals "all" = some none)
    (z_any : PySem.W.nsIn K mainGlobals "any" = some none)
    (z_zip : PySem.W.nsIn K mainGlobals "zip" = some none)
    (z_abs : PySem.W.nsIn K mainGlobals "abs" = some none)
    (z_sum : PySem.W.nsIn K mainGlobals "sum" = some none)
    (z_enumerate : PySem.W.nsIn K mainGlobals "enumerate" = some none)
    (aM1 : PySem.W.nsIn K mainGlobals "MOST_LENGTH" = some (some (.int m1 tk1))) (eM1 : m1 = 10 ^ 30) (aM2 : PySem.W.nsIn K mainGlobals "MOST_DOUBLED" = some (some (.int m2 tk2))) (eM2 : m2 = 99) :
    ∃ fd : FuncData, (∀ (s : Shared) (v : Value), BindsTo s fd ⟨[v], []⟩ [("script", v)]) ∧ ∀ base : Heap, K.In base → base.Ns mainGlobals mg → FnOk l.prog w K mg base CX0 6 fa fd ["script"] (spLaw K) := by
  have e := hfa.symm.trans (PySem.W.mg_of X G a25)
  cases e
  subst eM1
  subst eM2
  have gM1 := PySem.W.mg_of X G aM1
  have gM2 := PySem.W.mg_of X G aM2
  have T : Bt mg := ⟨PySem.W.mg_none_of X G z_range, PySem.W.mg_none_of X G z_len, PySem.W.mg_none_of X G z_min, PySem.W.mg_none_of X G z_max, PySem.W.mg_none_of X G z_sorted, PySem.W.mg_none_of X G z_list, PySem.W.mg_none_of X G z_tuple, PySem.W.mg_none_of X G z_isinstance, PySem.W.mg_none_of X G z_int, PySem.W.mg_none_of X G z_bool, PySem.W.mg_none_of X G z_all, PySem.W.mg_none_of X G z_any, PySem.W.mg_none_of X G z_zip, PySem.W.mg_none_of X G z_abs, PySem.W.mg_none_of X G z_sum, PySem.W.mg_none_of X G z_enumerate⟩
  have F1 := fun_mk (st := sNear) l1 c1 k1
  have b1 := F1.binds (ps := ["web"]) fun _ _ _ _ _ _ us hl => match us, hl with | [_], _ => rfl
  have F2 := fun_mk (st := sLookF) l2 c2 k2
  have b2 := F2.binds (ps := ["web", "place"]) fun _ _ _ _ _ _ us hl => match us, hl with | [_, _], _ => rfl
  have F3 := fun_mk (st := sOpen) l3 c3 k3
  have b3 := F3.binds (ps := ["fars", "done"]) fun _ _ _ _ _ _ us hl => match us, hl with | [_, _], _ => rfl
  have F4 := fun_mk (st := sFars) l4 c4 k4
  have b4 := F4.binds (ps := ["web", "place"]) fun _ _ _ _ _ _ us hl => match us, hl with | [_, _], _ => rfl
  have F5 := fun_mk (st := sLook) l5 c5 k5
  have b5 := F5.binds (ps := ["web", "place"]) fun _ _ _ _ _ _ us hl => match us, hl with | [_, _], _ => rfl
  have F6 := fun_mk (st := sNbs) l6 c6 k6
  have b6 := F6.binds (ps := ["web", "place"]) fun _ _ _ _ _ _ us hl => match us, hl with | [_, _], _ => rfl
  have F7 := fun_mk (st := sLenB) l7 c7 k7
  have b7 := F7.binds (ps := ["web", "one", "other"]) fun _ _ _ _ _ _ us hl => match us, hl with | [_, _, _], _ => rfl
  have F8 := fun_mk (st := sTieL) l8 c8 k8
  have b8 := F8.binds (ps := ["web", "one", "other"]) fun _ _ _ _ _ _ us hl => match us, hl with | [_, _, _], _ => rfl
  have F9 := fun_mk (st := sTable) l9 c9 k9
  have b9 := F9.binds (ps := ["web"]) fun _ _ _ _ _ _ us hl => match us, hl with | [_], _ => rfl
  have F10 := fun_mk (st := sAbout) l10 c10 k10
  have b10 := F10.binds (ps := ["web"]) fun _ _ _ _ _ _ us hl => match us, hl with | [_], _ => rfl
  have F11 := fun_mk (st := sSteps) l11 c11 k11
  have b11 := F11.binds (ps := ["about", "fars", "one", "other"]) fun _ _ _ _ _ _ us hl => match us, hl with | [_, _, _, _], _ => rfl
  have F12 := fun_mk (st := sWay) l12 c12 k12
  have b12 := F12.binds (ps := ["about", "fars", "begun", "other"]) fun _ _ _ _ _ _ us hl => match us, hl with | [_, _, _, _], _ => rfl
  have F13 := fun_mk (st := sBar) l13 c13 k13
  have b13 := F13.binds (ps := ["about", "fars", "one", "other", "steps"]) fun _ _ _ _ _ _ us hl => match us, hl with | [_, _, _, _, _], _ => rfl
  have F14 := fun_mk (st := sVer) l14 c14 k14
  have b14 := F14.binds (ps := ["web"]) fun _ _ _ _ _ _ us hl => match us, hl with | [_], _ => rfl
  have F15 := fun_mk (st := sIsLen) l15 c15 k15
  have b15 := F15.binds (ps := ["thing"]) fun _ _ _ _ _ _ us hl => match us, hl with | [_], _ => rfl
  have F16 := fun_mk (st := sWithL) l16 c16 k16
  have b16 := F16.binds (ps := ["web", "lengths"]) fun _ _ _ _ _ _ us hl => match us, hl with | [_, _], _ => rfl
  have F17 := fun_mk (st := sSure) l17 c17 k17
  have b17 := F17.binds (ps := ["web"]) fun _ _ _ _ _ _ us hl => match us, hl with | [_], _ => rfl
  have F18 := fun_mk (st := sDraws) l18 c18 k18
  have b18 := F18.binds (ps := ["script", "many"]) fun _ _ _ _ _ _ us hl => match us, hl with | [_, _], _ => rfl
  have F19 := fun_mk (st := sTake) l19 c19 k19
  have b19 := F19.binds (ps := ["pot", "many"]) fun _ _ _ _ _ _ us hl => match us, hl with | [_, _], _ => rfl
  have F20 := fun_mk (st := sLength) l20 c20 k20
  have b20 := F20.binds (ps := ["pot", "scale"]) fun _ _ _ _ _ _ us hl => match us, hl with | [_, _], _ => rfl
  have F21 := fun_mk (st := sWeb) l21 c21 k21
  have b21 := F21.binds (ps := ["pot", "many", "extra", "scale"]) fun _ _ _ _ _ _ us hl => match us, hl with | [_, _, _, _], _ => rfl
  have F22 := fun_mk (st := sFar) l22 c22 k22
  have b22 := F22.binds (ps := ["web"]) fun _ _ _ _ _ _ us hl => match us, hl with | [_], _ => rfl
  have F23 := fun_mk (st := sLone) l23 c23 k23
  have b23 := F23.binds (ps := ["web"]) fun _ _ _ _ _ _ us hl => match us, hl with | [_], _ => rfl
  have F24 := fun_mk (st := sRight) l24 c24 k24
  have b24 := F24.binds (ps := ["web"]) fun _ _ _ _ _ _ us hl => match us, hl with | [_], _ => rfl
  have F25 := fun_mk (st := sLaw) l25 c25 k25
  refine ⟨PySem.W.fnOf "law" "law" (defArgs sLaw) (defBody sLaw) (defScope sLaw) .none kV25 dc25 pm25 an25 cd25 ct25, fun s v => .of_eq rfl, fun base _ _ => ?_⟩
  have C_near : Cal l.prog w K mg base "near_lists" ["web"] 1 (spP K RNear) := ⟨_, _, ok_near F1 T.range, PySem.W.mg_of X G a1, k1, b1⟩
  have C_lookF : Cal l.prog w K mg base "look_at_far_place" ["web", "place"] 1 (spP K RLook) := ⟨_, _, ok_lookF F2, PySem.W.mg_of X G a2, k2, b2⟩
  have C_open : Cal l.prog w K mg base "nearest_open" ["fars", "done"] 1 (spOpen K) := ⟨_, _, ok_open F3 T, PySem.W.mg_of X G a3, k3, b3⟩
  have C_fars : Cal l.prog w K mg base "fars_from" ["web", "place"] 2 (spN K RFars) := ⟨_, _, ok_fars F4 T C_lookF C_near C_open, PySem.W.mg_of X G a4, k4, b4⟩
  have C_look : Cal l.prog w K mg base "look_at_place" ["web", "place"] 1 (spP K RLook) := ⟨_, _, ok_look F5, PySem.W.mg_of X G a5, k5, b5⟩
  have C_nbs : Cal l.prog w K mg base "neighbours_of" ["web", "place"] 2 (spNbs K) := ⟨_, _, ok_nbs F6 T C_look, PySem.W.mg_of X G a6, k6, b6⟩
  have C_lenB : Cal l.prog w K mg base "length_between" ["web", "one", "other"] 1 (spP K RLenB) := ⟨_, _, ok_lenB F7, PySem.W.mg_of X G a7, k7, b7⟩
  have C_tieL : Cal l.prog w K mg base "tie_length" ["web", "one", "other"] 2 (spP K RLenB) := ⟨_, _, ok_tieL F8 C_look C_lenB, PySem.W.mg_of X G a8, k8, b8⟩
  have C_table : Cal l.prog w K mg base "table_of" ["web"] 3 (spP K RTable) := ⟨_, _, ok_table F9 T C_fars, PySem.W.mg_of X G a9, k9, b9⟩
  have C_about : Cal l.prog w K mg base "ties_about" ["web"] 3 (spAbout K) := ⟨_, _, ok_about F10 T C_nbs C_tieL, PySem.W.mg_of X G a10, k10, b10⟩
  have C_steps : Cal l.prog w K mg base "steps_to" ["about", "fars", "one", "other"] 1 (spN K RSteps) := ⟨_, _, ok_steps F11, PySem.W.mg_of X G a11, k11, b11⟩
  have C_way : Cal l.prog w K mg base "way_by" ["about", "fars", "begun", "other"] 2 (spWay K) := ⟨_, _, ok_way F12 T C_steps, PySem.W.mg_of X G a12, k12, b12⟩
  have C_bar : Cal l.prog w K mg base "bar_between" ["about", "fars", "one", "other", "steps"] 3 (spBar K) := ⟨_, _, ok_bar F13 T C_way, PySem.W.mg_of X G a13, k13, b13⟩
  have C_ver : Cal l.prog w K mg base "verdict" ["web"] 4 (spVer K) := ⟨_, _, ok_ver F14 T C_table C_about C_steps C_bar, PySem.W.mg_of X G a14, k14, b14⟩
  have C_isLen : Cal l.prog w K mg base "is_length" ["thing"] 1 (spP K RIsLen) := ⟨_, _, ok_isLen F15 T gM1, PySem.W.mg_of X G a15, k15, b15⟩
  have C_withL : Cal l.prog w K mg base "with_lengths" ["web", "lengths"] 2 (spP K RWith) := ⟨_, _, ok_withL F16 T C_isLen, PySem.W.mg_of X G a16, k16, b16⟩
  have C_sure : Cal l.prog w K mg base "sure_web" ["web"] 3 (spP K RSure) := ⟨_, _, ok_sure F17 T gM2 C_withL, PySem.W.mg_of X G a17, k17, b17⟩
  have C_draws : Cal l.prog w K mg base "_law_draws" ["script", "many"] 1 (spDraws K) := ⟨_, _, ok_draws F18 T, PySem.W.mg_of X G a18, k18, b18⟩
  have C_take : Cal l.prog w K mg base "_law_take" ["pot", "many"] 1 (spTake K) := ⟨_, _, ok_take F19 T, PySem.W.mg_of X G a19, k19, b19⟩
  have C_length : Cal l.prog w K mg base "_law_length" ["pot", "scale"] 2 (spLength K) := ⟨_, _, ok_length F20 C_take, PySem.W.mg_of X G a20, k20, b20⟩
  have C_web : Cal l.prog w K mg base "_law_web" ["pot", "many", "extra", "scale"] 3 (spWeb K) := ⟨_, _, ok_web F21 T C_take C_length, PySem.W.mg_of X G a21, k21, b21⟩
  have C_far : Cal l.prog w K mg base "_law_far" ["web"] 1 (spP K RFarL) := ⟨_, _, ok_far F22 T, PySem.W.mg_of X G a22, k22, b22⟩
  have C_lone : Cal l.prog w K mg base "_law_lone" ["web"] 2 (spLone K) := ⟨_, _, ok_lone F23 T C_far, PySem.W.mg_of X G a23, k23, b23⟩
  have C_right : Cal l.prog w K mg base "_law_right" ["web"] 5 (spP K RRight) := ⟨_, _, ok_right F24 T C_ver C_lone C_far, PySem.W.mg_of X G a24, k24, b24⟩
  exact ok_law F25 T C_draws C_take C_web C_sure C_ver C_right C_withL
end Lt

open PySem PySem.W PyProof.Rows
set_option maxRecDepth 100000 in
set_option maxHeartbeats 0 in
theorem PySem.Challenge.cw_lonetrack_k50_whole_lengths_and_lone_holds : PySem.Challenge.rw_lonetrack_k50_whole_lengths_and_lone.Holds := by
  w_on; o_law; k_head; (case hw => w_witness2)
  k_fill
  refine L2.walk_of (l := PySem.Challenge.rw_lonetrack_k50_whole_lengths_and_lone) (n := 63) (k := 6) (x := "script") (CX := fun _ => L2.CX0) (sp := fun w => Lt.spLaw _) rfl (by decide) rfl ⟨rfl, by decide, by decide⟩ (fun w h Y => PySem.W.kIn_of Y) ?F (fun _ _ a ns hl _ hS => ⟨a, ns, rfl, hS, hl, fun _ => rfl⟩) (fun _ _ _ _ _ h => h)
  case F =>
    intro w mg fa h KX G hmg
    refine' Lt.all_mk KX G hmg ?a1 ?l1 ?c1 ?k1 ?a2 ?l2 ?c2 ?k2 ?a3 ?l3 ?c3 ?k3 ?a4 ?l4 ?c4 ?k4 ?a5 ?l5 ?c5 ?k5 ?a6 ?l6 ?c6 ?k6 ?a7 ?l7 ?c7 ?k7 ?a8 ?l8 ?c8 ?k8 ?a9 ?l9 ?c9 ?k9 ?a10 ?l10 ?c10 ?k10 ?a11 ?l11 ?c11 ?k11 ?a12 ?l12 ?c12 ?k12 ?a13 ?l13 ?c13 ?k13 ?a14 ?l14 ?c14 ?k14 ?a15 ?l15 ?c15 ?k15 ?a16 ?l16 ?c16 ?k16 ?a17 ?l17 ?c17 ?k17 ?a18 ?l18 ?c18 ?k18 ?a19 ?l19 ?c19 ?k19 ?a20 ?l20 ?c20 ?k20 ?a21 ?l21 ?c21 ?k21 ?a22 ?l22 ?c22 ?k22 ?a23 ?l23 ?c23 ?k23 ?a24 ?l24 ?c24 ?k24 ?a25 ?l25 ?c25 ?k25 ?z_range ?z_len ?z_min ?z_max ?z_sorted ?z_list ?z_tuple ?z_isinstance ?z_int ?z_bool ?z_all ?z_any ?z_zip ?z_abs ?z_sum ?z_enumerate ?aM1 ?eM1 ?aM2 ?eM2
    (case a1 => k_is)
    (case l1 => k_is)
    (case c1 => k_is)
    (case k1 => k_is)
    (case a2 => k_is)
    (case l2 => k_is)
    (case c2 => k_is)
    (case k2 => k_is)
    (case a3 => k_is)
    (case l3 => k_is)
    (case c3 => k_is)
    (case k3 => k_is)
    (case a4 => k_is)
    (case l4 => k_is)
    (case c4 => k_is)
    (case k4 => k_is)
    (case a5 => k_is)
    (case l5 => k_is)
    (case c5 => k_is)
    (case k5 => k_is)
    (case a6 => k_is)
    (case l6 => k_is)
    (case c6 => k_is)
    (case k6 => k_is)
    (case a7 => k_is)
    (case l7 => k_is)
    (case c7 => k_is)
    (case k7 => k_is)
    (case a8 => k_is)
    (case l8 => k_is)
    (case c8 => k_is)
    (case k8 => k_is)
    (case a9 => k_is)
    (case l9 => k_is)
    (case c9 => k_is)
    (case k9 => k_is)
    (case a10 => k_is)
    (case l10 => k_is)
    (case c10 => k_is)
    (case k10 => k_is)
    (case a11 => k_is)
    (case l11 => k_is)
    (case c11 => k_is)
    (case k11 => k_is)
    (case a12 => k_is)
    (case l12 => k_is)
    (case c12 => k_is)
    (case k12 => k_is)
    (case a13 => k_is)
    (case l13 => k_is)
    (case c13 => k_is)
    (case k13 => k_is)
    (case a14 => k_is)
    (case l14 => k_is)
    (case c14 => k_is)
    (case k14 => k_is)
    (case a15 => k_is)
    (case l15 => k_is)
    (case c15 => k_is)
    (case k15 => k_is)
    (case a16 => k_is)
    (case l16 => k_is)
    (case c16 => k_is)
    (case k16 => k_is)
    (case a17 => k_is)
    (case l17 => k_is)
    (case c17 => k_is)
    (case k17 => k_is)
    (case a18 => k_is)
    (case l18 => k_is)
    (case c18 => k_is)
    (case k18 => k_is)
    (case a19 => k_is)
    (case l19 => k_is)
    (case c19 => k_is)
    (case k19 => k_is)
    (case a20 => k_is)
    (case l20 => k_is)
    (case c20 => k_is)
    (case k20 => k_is)
    (case a21 => k_is)
    (case l21 => k_is)
    (case c21 => k_is)
    (case k21 => k_is)
    (case a22 => k_is)
    (case l22 => k_is)
    (case c22 => k_is)
    (case k22 => k_is)
    (case a23 => k_is)
    (case l23 => k_is)
    (case c23 => k_is)
    (case k23 => k_is)
    (case a24 => k_is)
    (case l24 => k_is)
    (case c24 => k_is)
    (case k24 => k_is)
    (case a25 => k_is)
    (case l25 => k_is)
    (case c25 => k_is)
    (case k25 => k_is)
    (case z_range => k_is)
    (case z_len => k_is)
    (case z_min => k_is)
    (case z_max => k_is)
    (case z_sorted => k_is)
    (case z_list => k_is)
    (case z_tuple => k_is)
    (case z_isinstance => k_is)
    (case z_int => k_is)
    (case z_bool => k_is)
    (case z_all => k_is)
    (case z_any => k_is)
    (case z_zip => k_is)
    (case z_abs => k_is)
    (case z_sum => k_is)
    (case z_enumerate => k_is)
    (case aM1 => k_is)
    (case eM1 => first | rfl | decide +kernel)
    (case aM2 => k_is)
    (case eM2 => first | rfl | decide +kernel)
