import PyProof.Rows.All
import Wide.All
import OpenK.AllK
import Wide.FinOn
import HandS.Iter
import HandS.Dict
import HandS.Call
import KE.KDictCopyH
import KE.KDictDisplayH
import HandS.DictComp
import HandS.SetBool
import HandS.Strs
import HandS.SetFor
import KE.KDictPairs
import KE.KeyNested
import HandS.TupSets
import KE.SortData
import HandS.SortRule
import HandS.SortInts
import HandS.Deep
import HandS.ForMost
import HandS.Wide
import HandS.TryOnly
import HandS.WideBits
import HandS.Style
import HandS.IsInst
import HandS.Zip
import HandS.Rev
import HandS.RevRange
import HandS.Sort
import HandS.SortKw
import HandS.Conv
import HandS.Flow
import HandS.TupAny
import HandS.TupMul
import HandS.Flt
import KE.DataMinMax
import KE.DataCmp
import PyProof.DictRoadsH
import PyProof.Rows.TupTab
import HandS.Lambda
import HandS.DictTup
import KE.KRevSl
import PyProof.NeKinds
import KE.KEqDict
import KE.SortKeyHeap
import HandS.New
import HandS.RaiseMore
import HandS.ExcInit
import HandS.ExcField
import PyProof.InstNe
import PyProof.InstEq
import HandS.OwnIter
import HandS.Zip0
import KE.KTupSum
import KE.GoesMore
import KE.GoesZip
import KE.KDictZip
import HandS.RevTup
import HandS.MapObj
import KE.KExcIs
import HandS.ExcValue
import KE.KNestM
import PySem.Challenge.RW_drivenwheels_k07_whole_fits_by_own_state
set_option Elab.async false
set_option linter.all false
set_option maxRecDepth 100000
namespace DL
open PySem PySem.Spec PyProof.Rows L2
noncomputable abbrev K3 := Int × Bool × Int
noncomputable def bI (b : Bool) : Int := if b = true then 1 else 0
theorem bI_inj : ∀ {a b : Bool}, bI a = bI b → a = b := by decide
noncomputable def lv3 (k : K3) : List Leaf := [.num k.1, .num (bI k.2.1), .num k.2.2]
theorem lv3_inj {a b : K3} (h : lv3 a = lv3 b) : a = b := by
  obtain ⟨a1, a2, a3⟩ := a
  obtain ⟨b1, b2, b3⟩ := b
  simp only [lv3, List.cons.injEq, Leaf.num.injEq, and_true] at h
  obtain ⟨rfl, h2, rfl⟩ := h
  rw [bI_inj h2]
noncomputable def h3 (k : K3) : Int := reduceHash (Builtin.Tuple.tupleHashOf [hashInt k.1, hashInt (bI k.2.1), hashInt k.2.2])
noncomputable def v3 (k : K3) : List V := [.int k.1, .bl k.2.1, .int k.2.2]
noncomputable def ent3 (x : K3 × Addr) : DictEntry := ⟨h3 x.1, .ref x.2, .bool true⟩
noncomputable def full3 (xs : List (K3 × Addr)) : List (List Leaf × Addr × Value) := xs.map fun x => (lv3 x.1, x.2, .bool true)
structure Is3 (a : Addr) (xs : List (K3 × Addr)) (h : Heap) : Prop where
  sm : (a == sysModules) = false
  len : xs.length ≤ sizeLine
  nd : (xs.map (·.1)).Nodup
  ob : ∃ o es ep, h.get? a = some o ∧ o.ExactDict ∧ o.data = .dict es ep ∧ es.toList = xs.map ent3
/-- what stands at a: the dict of these states, each with the address of its key -/
noncomputable def StD (a : Addr) (xs : List (K3 × Addr)) : HO := .ext fun h => Is3 a xs h
noncomputable def Ks3 (K : PySem.W.Frag) (H : Hp) (xs : List (K3 × Addr)) : Prop := ∀ x ∈ xs, SqT K H x.2 (v3 x.1)
/-- a state is put in -/
noncomputable def put3 (xs : List (K3 × Addr)) (k : K3) (b : Addr) : List (K3 × Addr) := if k ∈ xs.map (·.1) then xs else xs ++ [(k, b)]
theorem full3_keys (xs : List (K3 × Addr)) : (full3 xs).map (·.1) = (xs.map (·.1)).map lv3 := by simp [full3]
theorem full3_len (xs : List (K3 × Addr)) : (full3 xs).length = xs.length := by simp [full3]
theorem full3_ents (P : Program) (w : World) (xs : List (K3 × Addr)) : (full3 xs).map (entryOfKey (tupleKind (leafKind P w))) = xs.map ent3 := by
  rw [full3, List.map_map]
  rfl
theorem full3_at (xs : List (K3 × Addr)) (k : K3) : (atKey (full3 xs) (lv3 k)).isSome = decide (k ∈ xs.map (·.1)) := by
  induction xs with
  | nil => rfl
  | cons x xs ih =>
    unfold atKey full3 at ih ⊢
    rw [List.map_cons, List.find?_cons]
    by_cases e : x.1 = k
    · subst e
      simp
    · have e' : ¬ lv3 x.1 = lv3 k := fun z => e (lv3_inj z)
      simp only [decide_eq_false e', Bool.false_eq_true]
      rw [ih]
      simp only [List.map_cons, List.mem_cons, decide_eq_decide]
      constructor
      · exact .inr
      · rintro (z | z)
        · exact absurd z.symm e
        · exact z
theorem full3_put (xs : List (K3 × Addr)) (k : K3) (b : Addr) : storedH (full3 xs) (lv3 k) b (.bool true) = full3 (put3 xs k b) := by
  unfold storedH put3
  rw [full3_at]
  by_cases h : k ∈ xs.map (·.1)
  · rw [decide_eq_true h, if_pos h]
    simp only [if_true]
    unfold full3
    rw [List.map_map]
    refine List.map_congr_left fun x _ => ?_
    show putAt _ _ _ = _
    unfold putAt
    split <;> rfl
  · rw [decide_eq_false h, if_neg h]
    simp only [Bool.false_eq_true, if_false]
    simp [full3]
theorem put3_nd {xs : List (K3 × Addr)} (h : (xs.map (·.1)).Nodup) (k : K3) (b : Addr) : ((put3 xs k b).map (·.1)).Nodup := by
  unfold put3
  split
  · exact h
  · rename_i hn
    rw [List.map_append, List.nodup_append]
    refine ⟨h, by simp, fun a ha c hc => ?_⟩
    simp at hc
    subst hc
    exact fun z => hn (z ▸ ha)
theorem put3_len (xs : List (K3 × Addr)) (k : K3) (b : Addr) : (put3 xs k b).length ≤ xs.length + 1 := by
  unfold put3
  split
  · exact Nat.le_succ _
  · simp
theorem Is3.at {a : Addr} {xs : List (K3 × Addr)} {h h' : Heap} (x : Is3 a xs h) (k : ∀ o, h.get? a = some o → h'.get? a = some o) : Is3 a xs h' :=
  ⟨x.sm, x.len, x.nd, let ⟨o, es, ep, e, r⟩ := x.ob; ⟨o, es, ep, k o e, r⟩⟩
theorem Is3.ok {P : Program} {w : World} {H : Hp} {a : Addr} {xs : List (K3 × Addr)} {h : Heap} (x : Is3 a xs h) : ObjOk P w H h a (StD a xs) :=
  ⟨x, let ⟨o, _, _, e, _⟩ := x.ob; ⟨o, e⟩, fun _ _ y k => y.at k⟩
section
variable {X : Cx} {pins : List (Addr × Obj)} {σ : L2.St} {H : Hp} {s : Shared} {a b : Addr} {xs : List (K3 × Addr)} {k : K3}
theorem is3_rd (I : Inv X pins σ H s) (e : Rd H a (StD a xs)) : Is3 a xs s.heap := (show ObjOk X.prog X.w H s.heap a (StD a xs) from e.ok I.hok).1
theorem key3 (I : Inv X pins σ H s) (h : SqT X.K H b (v3 k)) : (tupleKind (leafKind X.prog X.w)).is s.heap (lv3 k) b := by
  obtain ⟨its, rv, ⟨o, ho, hc, n, hd⟩, _⟩ := I.tuple h
  refine ⟨o, its.toArray, n, ho, hc, hd, ?_⟩
  cases rv with
  | cons r1 rv =>
    cases rv with
    | cons r2 rv =>
      cases rv with
      | cons r3 rv =>
        cases rv
        obtain ⟨t1, rfl⟩ := r1
        cases r2
        obtain ⟨t3, rfl⟩ := r3
        refine .cons (decide_eq_true rfl) (.cons ?_ (.cons (decide_eq_true rfl) .nil))
        exact decide_eq_true rfl
theorem dict3 (I : Inv X pins σ H s) (x : Is3 a xs s.heap) (q : Ks3 X.K H xs) : s.heap.DictOfH (tupleKind (leafKind X.prog X.w)) a (full3 xs) := by
  obtain ⟨o, es, ep, h1, h2, h3, h4⟩ := x.ob
  refine ⟨o, es, ep, h1, h2, h3, by rw [full3_ents]; exact h4, fun y hy => ?_, ?_⟩
  · obtain ⟨z, hz, rfl⟩ := List.mem_map.mp hy
    exact key3 I (q z hz)
  · rw [full3_keys]
    exact List.Pairwise.map _ (fun u v (huv : u ≠ v) (e : lv3 u = lv3 v) => huv (lv3_inj e)) x.nd
theorem is3_of {P : Program} {w : World} {h : Heap} (d : h.DictOfH (tupleKind (leafKind P w)) a (full3 xs)) (sm : (a == sysModules) = false) (l : xs.length ≤ sizeLine) (nd : (xs.map (·.1)).Nodup) : Is3 a xs h := by
  obtain ⟨o, es, ep, h1, h2, h3, h4, _⟩ := d
  exact ⟨sm, l, nd, o, es, ep, h1, h2, h3, by rw [← full3_ents P w]; exact h4⟩
theorem write3 {h' : Heap} {t' : Nat} {ys zs : List (K3 × Addr)} (I : Inv X pins σ H s) (e : H a = some (StD a zs)) (hs : Heap.SameBut a s.heap h') (x : Is3 a ys h') : Inv X pins σ (upd H a (StD a ys)) { s with heap := h', toks := t' } :=
  d_write (ob := StD a ys) I (by rw [e]; exact True.intro) hs (let ⟨o, _, _, q, _⟩ := x.ob; ⟨o, q⟩) x.ok
/-- d[k] = True -/
noncomputable def rSet3 (K : PySem.W.Frag) : V → V → V → Hp → (Hp → Prop) → Prop := fun o i v H Q => ∃ a b xs k, o = .ref a ∧ i = .ref b ∧ v = .bl true ∧ H a = some (StD a xs) ∧ Ks3 K H xs ∧ SqT K H b (v3 k) ∧ xs.length < sizeLine ∧ Q (upd H a (StD a (put3 xs k b)))
theorem put_at3 {A : Around} {E : Value → Shared → Prop} {Q : Unit → Shared → Prop} (hu : A.units + 1 < cLine) (I : Inv X pins σ H s) (e : H a = some (StD a xs)) (q : Ks3 X.K H xs) (hb : SqT X.K H b (v3 k)) (hl : xs.length < sizeLine)
    (h : ∀ s', Inv X pins σ (upd H a (StD a (put3 xs k b))) s' → Q () s') : wpAny (model X.prog X.w) A (setItem (.ref a) (.ref b) (.bool true)) Q E s := by
  have x := is3_rd I (.inl e)
  have hz : (full3 xs).length ≤ sizeLine := by rw [full3_len]; exact x.len
  refine wpAny_setItem_heap (hsz := hz) (tupleKind_room_in1 hu) (key3 I hb) (dict3 I x q) fun h' dd' hs => h _ ?_
  rw [full3_put] at dd'
  exact write3 I e hs (is3_of dd' x.sm (Nat.le_trans (put3_len ..) hl) (put3_nd x.nd k b))
theorem set_3 (hu : X.A.units + 1 < cLine) : PSet X (rSet3 X.K) := by
  intro pins s σ H o i v ov iv u Q I ro ri rv h
  obtain ⟨a, b, xs, k, rfl, rfl, rfl, ha, hq, hb, hl, q⟩ := h
  cases ro
  cases ri
  cases rv
  exact put_at3 hu I ha hq hb hl fun s' I' => ⟨_, I', q⟩
/-- k in d -/
noncomputable def rIn3 (K : PySem.W.Frag) : R2 := fun x y H Q => ∃ a b xs k, x = .ref b ∧ y = .ref a ∧ Rd H a (StD a xs) ∧ Ks3 K H xs ∧ SqT K H b (v3 k) ∧ Q (.bl (decide (k ∈ xs.map (·.1)))) H
theorem op_in3 (hu : X.A.units + 1 < cLine) : OpR X (compareOp .In) (rIn3 X.K) := by
  intro pins s σ H x y v u Q I rx ry h
  obtain ⟨a, b, xs, k, rfl, rfl, ha, hq, hb, q⟩ := h
  cases rx
  cases ry
  have y := is3_rd I ha
  refine wpAny_in_heap (tupleKind_room_in1 hu) (key3 I hb) y.sm (dict3 I y hq) ?_
  rw [full3_at]
  exact ⟨.bl _, H, I.tok _, rfl, q⟩
/-- {} -/
noncomputable def tDNew3 : TE := fun _ H Q => ∀ p, H p = none → Q (.ref p) (upd H p (StD p []))
theorem is3_new (h : Heap) (hb : sysModules < h.objs.size) : Is3 h.objs.size [] (h.push { cls := .type "dict", data := .dict #[] }) :=
  ⟨beq_eq_false_iff_ne.mpr (Ne.symm (Nat.ne_of_lt hb)), Nat.zero_le _, List.nodup_nil, _, #[], 0, Heap.get?_push_size _ rfl, ⟨rfl, rfl, rfl⟩, rfl, rfl⟩
theorem laid3 (I : Inv X pins σ H s) : Inv X pins σ (upd H s.heap.objs.size (StD s.heap.objs.size [])) { s with heap := s.heap.push { cls := .type "dict", data := .dict #[] } } :=
  I.laid (t' := s.toks) (fun _ _ q => Heap.get?_push_of_some _ q) (Nat.le_refl _) (is3_new s.heap I.big).ok
theorem pe_dnew3 {pos : Pos} : PE X (.Dict [] [] pos) tDNew3 :=
  ⟨fun pins s σ H Q I h => wpAny_Dict_empty ⟨.ref s.heap.objs.size, _, laid3 I, rfl, h _ (I.hok.fresh (Nat.le_refl _))⟩⟩
/-- {k: True} -/
noncomputable def tDisp3 (K : PySem.W.Frag) (tk tv : TE) : TE := fun σ H Q => ∀ p, H p = none → tk σ (upd H p (StD p [])) fun x H1 => tv σ H1 fun y H2 => y = .bl true ∧ H2 p = some (StD p []) ∧ ∃ b k, x = .ref b ∧ SqT K H2 b (v3 k) ∧ Q (.ref p) (upd H2 p (StD p [(k, b)]))
theorem pe_disp3 {k v : Expr} {pos : Pos} {tk tv : TE} (hu : X.A.units + 64 < cLine) (hk : PE X k tk) (hv : PE X v tv) : PE X (.Dict [some k] [v] pos) (tDisp3 X.K tk tv) := by
  refine ⟨fun pins s σ H Q I q => ?_⟩
  have fr := I.hok.fresh (Nat.le_refl s.heap.objs.size)
  have J0 := laid3 I
  rw [arm_eval_Dict, zip_pairTrees [some k] [v] X.env pos rfl rfl, dictDisplay_pairs _ (by simp [pairTrees]) (by simp [pairTrees])]
  refine wpAny_bind (wpAny_standAt (wpAny_bind (wpAny_subDictH (knd := tupleKind (leafKind X.prog X.w)) (Q := fun d s' => wpAny (model X.prog X.w) X.A (pure (Value.ref d)) (EP X pins σ Q) X.xe s') ?_ (by simp [pairTrees]) ?_)))
  · show X.A.units < cLine
    exact Nat.lt_of_le_of_lt (Nat.le_add_right _ 64) hu
  refine pairTrees_cons_walk (thn (hk.run pins _ σ _ _ J0 (q _ fr)) fun u s1 ⟨x, H1, J1, rx, q1⟩ => thn (hv.run pins s1 σ H1 _ J1 q1) fun w2 s2 ⟨y, H2, J2, ry, q2⟩ => pairTrees_nil_walk ?_)
  obtain ⟨rfl, e, b, kk, rfl, eb, q3⟩ := q2
  cases rx
  cases ry
  have x2 := is3_rd J2 (.inl e)
  refine ⟨[(lv3 kk, b, .bool true)], ⟨rfl, rfl, key3 J2 eb, trivial⟩, dict3 J2 x2 (fun _ z => nomatch z), fun h' tk dd' hs => wpAny_pure ?_⟩
  have dd2 : h'.DictOfH (tupleKind (leafKind X.prog X.w)) s.heap.objs.size (full3 [(kk, b)]) := dd'
  exact ⟨.ref s.heap.objs.size, _, write3 (t' := tk) J2 e hs (is3_of dd2 x2.sm (by show 1 ≤ sizeLine; decide) (by simp)), rfl, q3⟩
noncomputable def Itk3 (d : Addr) (o : Obj) (xs : List (K3 × Addr)) : It :=
  ⟨fun i H => H d = some (.frz o (StD d xs)) ∧ i < xs.length, fun i H x H' => H' = H ∧ ∃ k q, xs[i]? = some (k, q) ∧ x = .ref q, fun i H => H d = some (.frz o (StD d xs)) ∧ xs.length ≤ i⟩
theorem frz3 {d : Addr} {o : Obj} (I : Inv X pins σ H s) (h : H d = some (.frz o (StD d xs))) : (d == sysModules) = false ∧ s.heap.get? d = some o ∧ o.ExactDict ∧ ∃ es ep, o.data = .dict es ep ∧ es.toList = xs.map ent3 := by
  have x := is3_rd I (.inr ⟨o, h⟩)
  have ho : s.heap.get? d = some o := (show ObjOk X.prog X.w H s.heap d (.frz o (StD d xs)) from I.hok d _ h).1
  obtain ⟨o', es, ep, h1, h2, h3, h4⟩ := x.ob
  rw [ho] at h1
  cases h1
  exact ⟨x.sm, ho, h2, es, ep, h3, h4⟩
end
section
variable {P : Program} {w : World} {K : PySem.W.Frag} {tg : Expr} {d : Addr} {o : Obj} {es : Array DictEntry} {ep : Nat}
theorem turn_keys3 {xs : List (K3 × Addr)} (it : Addr) (hod : o.data = .dict es ep) : Turn P w K tg (Itk3 d o xs) [it] it (fun i h => h.IsKeyIter it d i xs.length ep) where
  mem := by simp
  obj := fun i h st b hb => by
    obtain rfl : b = it := by simpa using hb
    obtain ⟨oi, e, c, dd⟩ := st
    exact ⟨oi, e, fun v z => by rw [dd] at z; cases z⟩
  keep := fun i h h' st k => st.at fun oi e => k it (by simp) oi e
  item := by
    intro X hP hw hK hc i pins s σ H E I hf st hg
    subst hP hw hK
    obtain ⟨hd, hi⟩ := hg
    have ff := hf it (by simp)
    obtain ⟨hs, hgd, hx, es', ep', hdt, hen⟩ := frz3 I hd
    obtain ⟨rfl, rfl⟩ := dict_ep hod hdt
    have hsz : es'.size = xs.length := by rw [← Array.length_toList, hen, List.length_map]
    obtain ⟨⟨k, q⟩, hkq⟩ : ∃ p, xs[i]? = some p := ⟨xs[i], List.getElem?_eq_getElem hi⟩
    have hent : es'[i]? = some (ent3 (k, q)) := by rw [← Array.getElem?_toList, hen, List.getElem?_map, hkq]; rfl
    refine next_key_item st hgd hdt hsz hent fun h' st' sb => ?_
    have I1 : Inv X pins σ H { s with heap := h' } := I.turned (t' := s.toks) (fun b ob hb e => (sb.2 b hb).trans e) ff.1 ff.2.1 ff.2.2.2.1 ff.2.2.2.2.1 ff.2.2.2.2.2
    obtain ⟨oi, e, c, dd⟩ := id st'
    exact ⟨.ref q, rfl, go_of (s := { s with heap := h' }) e c dd (by decide) ⟨.ref q, H, I1, rfl, ⟨rfl, k, q, hkq, rfl⟩, st', fun b hb => (hf b hb).1⟩⟩
  done := by
    intro X hP hw hK hc i pins s σ H E I hf st hg
    subst hP hw hK
    obtain ⟨hd, hi⟩ := hg
    have ff := hf it (by simp)
    obtain ⟨hs, hgd, hx, es', ep', hdt, hen⟩ := frz3 I hd
    obtain ⟨rfl, rfl⟩ := dict_ep hod hdt
    have hsz : es'.size = xs.length := by rw [← Array.length_toList, hen, List.length_map]
    exact next_key_end (I.ok.hd hc) st hgd hdt hsz hi fun h' eb => ⟨rfl, I.turned (t' := s.toks) (fun b ob hb e => eb b ob hb e) ff.1 ff.2.1 ff.2.2.2.1 ff.2.2.2.2.1 ff.2.2.2.2.2⟩
  self := fun A i s Q E st h => by
    refine wpAny_pyIter_slot st.typeIs F.slot_dict_keyiterator_iter (wpAny_call_entry F.slot_dict_keyiterator_iter st.typeIs F.entry_dict_keyiterator_iter ?_ (F.args_dict_keyiterator_iter_1 _))
    show wpAny _ _ (ret (.ref it)) _ _ s
    exact wpAny_pure ⟨_, rfl, "dict_keyiterator", _, st.typeIs, F.slot_dict_keyiterator_next.lookup, h⟩
end
section
variable {X : Cx} {tg e : Expr} {td : TE}
noncomputable def iKeys3 (td : TE) : TI := fun σ H R => td σ H fun x H1 => ∃ d o xs, x = .ref d ∧ H1 d = some (.frz o (StD d xs)) ∧ R (Itk3 d o xs) H1
theorem pi_keys3 (he : PE X e td) : PI X tg e (iKeys3 td) := by
  refine ⟨fun pins s σ H R I h => ?_⟩
  refine thn (he.run pins s σ H _ I h) fun u s1 out => ?_
  obtain ⟨x, H1, I1, rx, d, o, xs, rfl, hd, q⟩ := out
  cases rx
  obtain ⟨hs, hgd, hx, es, ep, hdt, hen⟩ := frz3 I1 hd
  have hsz : es.size = xs.length := by rw [← Array.length_toList, hen, List.length_map]
  refine iter_keys hs hgd hx hdt (pi_one (tk := s1.toks) I1 _ (turn_keys3 _ hdt) ⟨_, Heap.get?_push_size _ rfl, rfl, ?_⟩ q)
  rw [hsz]
  rfl
/-- len -/
theorem len_raw3 {A : Around} {E : Value → Shared → Prop} {s : Shared} {d : Addr} {es : Array DictEntry} {ep : Nat} {Q : Value → Shared → Prop} (hd : (d == sysModules) = false) (hm : s.heap.DictRaw d es ep) (hfit : (es.size : Int) < 2 ^ 63)
    (h : Q (.int es.size (s.toks + 1)) { s with toks := s.toks + 1 + 1 }) : wpAny (model X.prog X.w) A (call (.builtin "len") [.ref d]) Q E s := by
  refine Calls.call_function_entry kind_len plain_len entry_len (args_len1 _) ?_
  unfold Builtin.«len»
  refine wpAny_bind (m := oneArg "len" _) (wpAny_pure (wpAny_bind (m := callSpecial? (.ref d) (Str.ofString "__len__")) (wpAny_callSpecial?_slot (name := Str.ofString "__len__") hm.typeIs F.slot_dict_len (call_len_raw hd hm ?_))))
  show wpAny _ _ _ _ _ { s with toks := s.toks + 1 }
  refine wpAny_bind (wpAny_holding (wpAny_pure (wpAny_bind (wpAny_letGo ?_))))
  show wpAny _ _ (if ((es.size : Nat) : Int) < 0 then _ else _) _ _ _
  rw [if_neg (Int.not_lt.mpr (Int.natCast_nonneg _))]
  show wpAny _ _ (if ((es.size : Nat) : Int) ≥ 2 ^ 63 then _ else _) _ _ _
  rw [if_neg (Int.not_le.mpr hfit)]
  exact wpAny_bind (wpAny_mkInt (wpAny_pure ⟨_, rfl, h⟩))
theorem call_len3 : CallR X (.builtin "len") (fun ys H Q => ∃ a xs, ys = [.ref a] ∧ Rd H a (StD a xs) ∧ Q (.int xs.length) H) := by
  intro pins s σ H ys us Q I r h
  obtain ⟨a, xs, rfl, ha, q⟩ := h
  obtain ⟨u, rfl, ru⟩ := vals1 r
  cases ru
  have x := is3_rd I ha
  obtain ⟨o, es, ep, h1, h2, h3, h4⟩ := x.ob
  have hsz : es.size = xs.length := by rw [← Array.length_toList, h4, List.length_map]
  have hz := x.len
  rw [sizeLine_eq] at hz
  refine len_raw3 x.sm ⟨o, h1, h2, h3⟩ (by rw [hsz]; omega) ?_
  rw [hsz]
  exact ⟨.int xs.length, H, I.tok _, ⟨_, rfl⟩, q⟩
end
end DL
set_option maxHeartbeats 2000000
namespace DL
open PySem PySem.Spec PyProof.Rows L2 PpSet
section
variable {X : Cx}
theorem addI_ok {pins : List (Addr × Obj)} {σ : L2.St} {H : Hp} {s : Shared} {E : Value → Shared → Prop} {D : Addr} {S : Int → Bool} {n : Nat} {k : Int} {tk : Tok} {Q : Value → Shared → Prop} (I : Inv X pins σ H s) (hD : H D = some (SetO X.w D S n)) (room : n + 1 < scanBound)
    (h : ∀ s', Inv X pins σ (upd H D (SetO X.w D (fun j => S j || decide (j = k)) (if S k = true then n else n + 1))) s' → Q .none s') : wpAny (model X.prog X.w) X.A (call (.builtin "set.add") [.ref D, .int k tk]) Q E s := by
  refine setR_add (setO_get I hD) room fun h' sb new => h _ ?_
  exact I.write (e := D) (t' := s.toks + 1) (by rw [hD]; trivial) (.inl rfl) (fun b u hb hu => (sb.2 b hb).trans hu) (let ⟨o, _, _, _, ho, _⟩ := new; ⟨o, ho⟩) (setO_new new)
/-- {elt for target in iter if ..}, elt an int: D the new set -/
noncomputable def tScI (w : World) (wi : TI) (g : TG) (tt : TT) (te : TE) (vs : List Nat) : TE := fun σ H Q => wi σ H fun J H1 => ∀ D, H1 D = none → ∃ W : Nat → Nat → Hp → Prop, (∃ m, W 0 m (upd H1 D (SetO w D (fun _ => false) 0))) ∧ ∀ i m H, W i m H →
  (J.stop i H ∧ Q (.ref D) H) ∨ (J.go i H ∧ ∃ Nx : Hp → Prop, (∀ H', Nx H' → ∃ m', m' < m ∧ W (i + 1) m' H') ∧ ∀ x H', J.yld i H x H' → g x (wipe σ vs) H' fun σ2 H2 => wipe σ2 vs = wipe σ vs ∧ tt σ2 H2 fun b H3 =>
    if b = true then te σ2 H3 fun y H4 => ∃ (c : Int) (S : Int → Bool) (n : Nat), y = .int c ∧ H4 D = some (SetO w D S n) ∧ n + 1 < scanBound ∧ Nx (upd H4 D (SetO w D (fun j => S j || decide (j = c)) (if S c = true then n else n + 1))) else Nx H3)
theorem scI_core {pns : List (Addr × Obj)} {s : Shared} {σ : L2.St} {H : Hp} {Q : VK} {em tge itr : Expr} {iff : List Expr} {sco : Scope} {ow : List (PySem.Str × Nat)} {pos pos' : Pos} {wi : TI} {g : TG} {tt : TT} {te : TE} {usf : Option (Value → Sem Unit)} {Qz : Value → Shared → Prop}
    (hca : X.calm = true) (hN : X.N.Nodup) (I : Inv X pns σ H s) (hit : PI X tge itr wi) (bo : BlkOk X.N X.env.scope sco ow)
    (htg : ∀ (s : Shared) (H : Hp) (C : Addr) (cl : List (PySem.Str × Addr)) (ft : List Addr), PG (X.blk s H sco (compEnvC sco cl C X.env) ft) tge g) (hts : ∀ (s : Shared) (H : Hp) (C : Addr) (cl : List (PySem.Str × Addr)) (ft : List Addr), PTs (X.blk s H sco (compEnvC sco cl C X.env) ft) iff tt)
    (hem : ∀ (s : Shared) (H : Hp) (C : Addr) (cl : List (PySem.Str × Addr)) (ft : List Addr), PE (X.blk s H sco (compEnvC sco cl C X.env) ft) em te) (hfo : ∀ x, foldedSetIterable itr X.env x = pure x)
    (h : tScI X.w wi g tt te (ow.map (·.2)) σ H Q)
    (hEnd : ∀ D C s' m H', Inv X pns σ H' s' → Q (.ref D) H' → s'.heap.Ns C m → FpOk X pns H' C → compPost (model X.prog X.w) X.A X.xe usf Qz (.ref D) C (.ok .next) s') :
    wpAny (model X.prog X.w) X.A (comprehension (.SetComp em [⟨tge, itr, iff, 0⟩] sco pos) sco X.env pos' (newSet (.type "set")) false (eval itr X.env) usf) Qz X.xe s := by
  have hfree : ∀ y ∈ sco.names, y.2 = .free → ∃ c, X.env.cells.lookup y.1 = some c := fun y hy e => by
    rcases bo.free y hy e with k | k
    · exact I.ok.has _ (.inl k)
    · exact I.ok.has _ (.inr k)
  refine wpAny_comprehension_free (use := usf) rfl hfo (closure_ok hfree) bo.kind (fun y hy e => by rw [bo.uniq y hy, e])
    (thn (hit.run pns s σ H _ I h) fun xv z1 hx => thn hx fun itv z2 h2 => ?_)
  obtain ⟨it, ft, tn, J, G2, e, J2, Tn, stn2, g2, q⟩ := h2
  subst e
  refine newSet_ok (newEnv_comp ?_)
  generalize hDD : z2.heap.objs.size = D
  have hDn : G2 D = none := J2.hok.fresh (Nat.le_of_eq hDD)
  obtain ⟨W, ⟨m0, w0⟩, trn⟩ := q D hDn
  -- the new list
  generalize hs3 : ({ z2 with heap := z2.heap.push { cls := .type "set", dict := none, data := .set #[] 0 (.fresh 0 0 (!X.w.params.followText "set-order")) } } : Shared) = z3
  have J3 : Inv X pns σ (upd G2 D (SetO X.w D (fun _ => false) 0)) z3 := by
    rw [← hs3]
    refine J2.laid (t' := z2.toks) (fun b o e => Heap.get?_push_of_some _ e) (Nat.le_of_eq hDD) ?_
    rw [← hDD]
    exact setO_new (setR_fresh X.w)
  have h3 : z3.heap = z2.heap.push { cls := .type "set", dict := none, data := .set #[] 0 (.fresh 0 0 (!X.w.params.followText "set-order")) } := by rw [← hs3]
  have szs : ∀ b ∈ ft, b < z2.heap.objs.size := fun b hb => by
    obtain ⟨o, e, _⟩ := Tn.obj _ _ stn2 b hb
    exact Heap.lt_size e
  have g3 : ∀ b ∈ ft, FpOk X pns (upd G2 D (SetO X.w D (fun _ => false) 0)) b ∧ b < z3.heap.objs.size := fun b hb => by
    have hle := szs b hb
    refine ⟨⟨?_, (g2 b hb).2⟩, by rw [h3, Heap.size_push]; exact Nat.lt_succ_of_lt hle⟩
    rw [upd_ne (by rw [← hDD]; exact Nat.ne_of_lt hle)]
    exact (g2 b hb).1
  have stn3 : tn 0 z3.heap := Tn.keep _ _ _ stn2 fun b _ o e => by rw [h3]; exact Heap.get?_push_of_some _ e
  have J4 := block_start J3 bo hN g3
  have ppg := htg z3 (upd G2 D (SetO X.w D (fun _ => false) 0)) z3.heap.objs.size (cellsFrom (z3.heap.objs.size + 1) sco.names (cloFrom X.env.cells sco.names [])) ft
  have ppt := hts z3 (upd G2 D (SetO X.w D (fun _ => false) 0)) z3.heap.objs.size (cellsFrom (z3.heap.objs.size + 1) sco.names (cloFrom X.env.cells sco.names [])) ft
  have ppe := hem z3 (upd G2 D (SetO X.w D (fun _ => false) 0)) z3.heap.objs.size (cellsFrom (z3.heap.objs.size + 1) sco.names (cloFrom X.env.cells sco.names [])) ft
  show codeAny _ _ (.compStart (.SetComp em [⟨tge, itr, iff, 0⟩] sco pos) 0 (.ref it) (.ref D) (compEnvC sco (cellsFrom (z3.heap.objs.size + 1) sco.names (cloFrom X.env.cells sco.names [])) z3.heap.objs.size X.env)) (compPost (model X.prog X.w) X.A X.xe usf Qz (.ref D) z3.heap.objs.size) { z3 with heap := pushCells (z3.heap.push { cls := .type "dict", data := .dict #[] }) sco.names }
  have nft : ∀ b ∈ ft, (upd G2 D (SetO X.w D (fun _ => false) 0)) b = none := fun b hb => (g3 b hb).1.1
  generalize hce : compEnvC sco (cellsFrom (z3.heap.objs.size + 1) sco.names (cloFrom X.env.cells sco.names [])) z3.heap.objs.size X.env = cen at J4 ppg ppt ppe ⊢
  have cLo : cen.locals = z3.heap.objs.size := by subst hce; rfl
  generalize hH3 : upd G2 D (SetO X.w D (fun _ => false) 0) = G3 at J3 J4 ppg ppt ppe w0 nft g3
  generalize hs4 : ({ z3 with heap := pushCells (z3.heap.push { cls := .type "dict", data := .dict #[] }) sco.names } : Shared) = z4 at J4 ⊢
  have stn4 : tn 0 z4.heap := Tn.keep _ _ _ stn3 fun b _ o e => by rw [← hs4]; exact pushCells_keeps _ _ _ _ (Heap.get?_push_of_some _ e)
  have stt : ∀ {σ' : L2.St} {H' : Hp} {s' : Shared}, Inv (X.blk z3 G3 sco cen ft) [] σ' H' s' → (∀ b ∈ ft, H' b = none) → ∀ b ∈ ft, FpOk (X.blk z3 G3 sco cen ft) [] H' b := fun {σ' H' s'} I' hn b hb =>
    ⟨hn b hb, (I'.ok.exf b hb).1, I'.ok.exfs b hb, .inl hb, fun x c e => (I'.ok.exf b hb).2 x c e, fun p hp => absurd (show p ∈ ([] : List (Addr × Obj)) ++ [] from hp) (by simp)⟩
  have lop : codeAny (model X.prog X.w) X.A (.compLoop (.SetComp em [⟨tge, itr, iff, 0⟩] sco pos) 0 (.ref it) (.ref D) cen) (compPost (model X.prog X.w) X.A X.xe usf Qz (.ref D) z3.heap.objs.size) z4 := by
    refine compLoopS_any (fun n s' => ∃ i H', Inv (X.blk z3 G3 sco cen ft) [] (wipe σ (ow.map (·.2))) H' s' ∧ tn i s'.heap ∧ (∀ b ∈ ft, H' b = none) ∧ W i n H') ?_ m0 ⟨0, G3, J4, stn4, nft, w0⟩
    rintro n z5 ⟨i, G5, J5, stn5, n5, w5⟩
    rcases trn i n G5 w5 with ⟨stop, qq⟩ | ⟨go, Nx, hNx, step⟩
    · have td := Tn.done (X.blk z3 G3 sco cen ft) rfl rfl rfl hca i [] z5 _ G5 (fun _ _ => False) J5 (stt J5 n5) stn5 stop
      refine thnF td fun r z6 ⟨hr, J6⟩ => ?_
      subst hr
      -- back in the def's context
      have J7 : Inv X pns σ G5 z6 := J3.call' (ch := ft) J6.os J6.base J6.hok J6.bare fun b hb => ⟨(g3 b hb).1.2.2.2.1, (g3 b hb).1.2.1, (g3 b hb).1.2.2.2.2.1, (g3 b hb).1.2.2.2.2.2⟩
      have nC : G5 z3.heap.objs.size = none := by
        have z : G5 cen.locals = none := J6.free
        rw [cLo] at z
        exact z
      obtain ⟨m, hn, _⟩ := J6.loc
      have hn : z6.heap.Ns cen.locals m := hn
      rw [cLo] at hn
      exact hEnd D z3.heap.objs.size z6 m G5 J7 qq hn (J3.fpOk (Nat.le_refl _) nC)
    · have ti := Tn.item (X.blk z3 G3 sco cen ft) rfl rfl rfl hca i [] z5 _ G5 (fun _ _ => False) J5 (stt J5 n5) stn5 go
      refine thnF ti fun r z6 ⟨u, hr, h6⟩ => ?_
      subst hr
      refine thnF h6 fun _ z7 ⟨x, G7, J7, r7, y7, stn7, n7⟩ => ?_
      have J7' := J7.pinned (stt J7 n7) (Tn.obj _ _ stn7)
      refine thnF (ppg.run _ z7 _ G7 x u _ J7' r7 (step x G7 y7)) fun _ z8 ⟨σ8, G8, J8, hw8, q8⟩ => ?_
      refine thnF (ppt.run _ z8 σ8 G8 _ J8 q8) fun b z9 ⟨G9, J9, q9⟩ => ?_
      -- the trn's end
      have fin : ∀ {s' : Shared} {H' : Hp}, Inv (X.blk z3 G3 sco cen ft) ([] ++ pinsAt ft z7.heap) σ8 H' s' → Nx H' → ∃ m, m < n ∧ ∃ i H', Inv (X.blk z3 G3 sco cen ft) [] (wipe σ (ow.map (·.2))) H' s' ∧ tn i s'.heap ∧ (∀ b ∈ ft, H' b = none) ∧ W i m H' := fun {s' H'} I' nx => by
        obtain ⟨m', hm, w'⟩ := hNx H' nx
        have pin' : ∀ b ∈ ft, ∀ o, z7.heap.get? b = some o → s'.heap.get? b = some o ∧ H' b = none := fun b hb o e =>
          let z := I'.pin (b, o) (List.mem_append_right _ (List.mem_append_right _ (mem_pinsAt hb e)))
          ⟨z.1, z.2.1⟩
        have hl : (wipe σ (ow.map (·.2))).length = σ8.length := by rw [← hw8, wipe_length]
        refine ⟨m', hm, i + 1, H', (I'.unpinned (pins := [])).weak hl (fun j v e => ?_), Tn.keep _ _ _ stn7 fun b hb o e => (pin' b hb o e).1, fun b hb => ?_, w'⟩
        · rw [← hw8] at e
          exact (wipe_some e).1
        · obtain ⟨o, e, _⟩ := Tn.obj _ _ stn7 b hb
          exact (pin' b hb o e).2
      cases b with
      | false =>
        simp only [Bool.false_eq_true, if_false] at q9 ⊢
        exact fin J9 q9
      | true =>
        simp only [if_true] at q9 ⊢
        refine thnF (ppe.run _ z9 σ8 G9 _ J9 q9) fun z z10 ⟨yv, G10, J10, r10, cb, S0, n0, ey, hD10, hz10, nx⟩ => ?_
        subst ey
        obtain ⟨tk, rfl⟩ := r10
        exact addI_ok (X := X.blk z3 G3 sco cen ft) J10 hD10 hz10 fun z11 J11 => fin J11 nx
  exact codeAny_compStart_set lop (Tn.self X.A 0 _ _ _ stn4 lop)
/-- as a value -/
theorem pe_scI {em tge itr : Expr} {iff : List Expr} {sco : Scope} {ow : List (PySem.Str × Nat)} {pos : Pos} {wi : TI} {g : TG} {tt : TT} {te : TE} (hca : X.calm = true) (hN : X.N.Nodup) (hit : PI X tge itr wi) (bo : BlkOk X.N X.env.scope sco ow)
    (htg : ∀ (s : Shared) (H : Hp) (C : Addr) (cl : List (PySem.Str × Addr)) (ft : List Addr), PG (X.blk s H sco (compEnvC sco cl C X.env) ft) tge g) (hts : ∀ (s : Shared) (H : Hp) (C : Addr) (cl : List (PySem.Str × Addr)) (ft : List Addr), PTs (X.blk s H sco (compEnvC sco cl C X.env) ft) iff tt)
    (hem : ∀ (s : Shared) (H : Hp) (C : Addr) (cl : List (PySem.Str × Addr)) (ft : List Addr), PE (X.blk s H sco (compEnvC sco cl C X.env) ft) em te) (hfo : ∀ x, foldedSetIterable itr X.env x = pure x := by intro _; rfl) :
    PE X (.SetComp em [⟨tge, itr, iff, 0⟩] sco pos) (tScI X.w wi g tt te (ow.map (·.2))) := by
  refine ⟨fun pns s σ H Q I h => ?_⟩
  rw [eval_SetComp]
  refine scI_core hca hN I hit bo htg hts hem hfo h fun D C s' m H' I' q hn f => ⟨m, hn, fun h'' sb => ?_⟩
  obtain ⟨f0, g1, g2, g3, g4, g5⟩ := f
  exact ⟨.ref D, H', I'.turned (t' := s'.toks) (fun b o hb e => (sb.2 b hb).trans e) f0 g1 g3 g4 g5, rfl, q⟩
end
end DL
set_option maxHeartbeats 2000000
namespace DL
open PySem PySem.Spec PyProof.Rows L2 PpSet
section
variable {P : Program} {w : World} {A : Around} {E : Value → Shared → Prop} {s : Shared}
theorem call_set_lstI {l : Addr} {items : Array Value} (ns : List Int) {Q : Value → Shared → Prop} (hh : A.handled = none) (hli0 : s.heap.IsList l items) (hin : IntsAre items.toList ns) (hb : ns.length + 1 < scanBound)
    (h : ∀ (h' : Heap) (tk c : Nat), SetR w h' s.heap.objs.size (fun j => decide (j ∈ ns)) c → c ≤ ns.length → (∀ b o, s.heap.get? b = some o → h'.get? b = some o) → Q (.ref s.heap.objs.size) { s with heap := h', toks := tk }) :
    wpAny (model P w) A (call (.type "set") [.ref l]) Q E s := by
  have hsize : items.size = ns.length := by
    have q := IntsAre.length hin
    rw [Array.length_toList] at q
    exact q
  obtain ⟨c, tl, hmr⟩ := F.called_set.mro
  have hmd := F.called_set.made
  have hsb := F.called_set.sub
  refine wpAny_call (codeAny_of_tree ?_)
  show wpAny _ _ (callAny (.type "set") _) _ _ _
  refine wpAny_pure ⟨Code.quiet_builtin _ (by decide +kernel), codeAny_builtin F.entry_type_call ?_⟩
  rw [Around.under_plain (weight_type_call_type "set" [.ref l] []) rfl]
  have h1 := F.called_set.notType
  have h2 := F.called_set.canCreate
  have hcal := F.typeCall_set_1 (.ref l)
  repeat (any_goals (first | assumption | wp_step))

  refine codeAny_mono (code_set_led1 (.ref l) (E := E) (Q₁ := fun obj s₁ => obj = .ref s.heap.objs.size ∧ s₁ = { s with heap := s.heap.push { cls := .type "set", dict := none, data := .set #[] 0 (.fresh 0 0 (!w.params.followText "set-order")) } }) ⟨rfl, rfl⟩) fun r s₁ hr => ?_
  cases r with
  | error e => exact hr
  | ok fl =>
    cases fl with
    | ret obj =>
      obtain ⟨rfl, rfl⟩ := hr
      have hSet : (s.heap.push { cls := .type "set", dict := none, data := .set #[] 0 (.fresh 0 0 (!w.params.followText "set-order")) }).get? s.heap.objs.size = some { cls := .type "set", dict := none, data := .set #[] 0 (.fresh 0 0 (!w.params.followText "set-order")) } := Heap.get?_push_size _ rfl
      have hTy : Shared.TypeIs { s with heap := s.heap.push { cls := .type "set", dict := none, data := .set #[] 0 (.fresh 0 0 (!w.params.followText "set-order")) } } (.ref s.heap.objs.size) "set" := ⟨_, hSet, rfl⟩
      have hini := F.called_set.init.lookup
      have hbnd := F.called_set.init.bind (.ref s.heap.objs.size)
      repeat (any_goals (first | assumption | wp_step))

      refine codeAny_mono (codeAny_call_builtin (R := wants (fun r s₂ => r = .none ∧ ∃ h' tk c, s₂ = { s with heap := h', toks := tk } ∧ SetR w h' s.heap.objs.size (fun j => decide (j ∈ ns)) c ∧ c ≤ ns.length ∧
          (∀ b o, s.heap.get? b = some o → h'.get? b = some o)) E) F.called_set.init.plain F.entry_set_init (check_set_init_1 hTy ?_)) fun r₂ s₂ hr₂ => ?_
      · obtain ⟨ol, hob, hcl, nl, hdl⟩ := hli0
        obtain ⟨ocls, odict, odata, oslots⟩ := ol
        simp only at hcl hdl
        subst hcl; subst hdl
        have hob' : (s.heap.push { cls := .type "set", dict := none, data := .set #[] 0 (.fresh 0 0 (!w.params.followText "set-order")) }).get? l = some { cls := .type "list", dict := odict, data := .seq items nl, slots := oslots } := Heap.get?_push_of_some _ hob
        have hsls := F.sub_list_set
        have hslf := F.sub_list_frozenset
        have hneq : (Value.type "list" == Value.type "dict") = false := by decide
        have hli1 : (s.heap.push { cls := .type "set", dict := none, data := .set #[] 0 (.fresh 0 0 (!w.params.followText "set-order")) }).IsList l items := ⟨_, hob', rfl, nl, rfl⟩
        unfold Builtin.«set.__init__» noKeywords Builtin.Frozenset.updateFrom
        generalize hPI : pyIter = PI
        wp_walk
        subst hPI

        refine wpAny_pyIter_list hli1 ?_
        refine wpAny_bind (wpAny_runValue ?_)
        have hlS0 : l < s.heap.objs.size := Heap.lt_size hob
        have hh3 : A.in1.in1.in1.handled = none := by simp [hh]
        have hz1 : (s.heap.push { cls := .type "set", dict := none, data := .set #[] 0 (.fresh 0 0 (!w.params.followText "set-order")) }).objs.size = s.heap.objs.size + 1 := Heap.size_push ..
        have hnI : l ≠ (s.heap.push { cls := .type "set", dict := none, data := .set #[] 0 (.fresh 0 0 (!w.params.followText "set-order")) }).objs.size := by
          rw [Heap.size_push]; exact Nat.ne_of_lt (Nat.lt_succ_of_lt hlS0)
        have hSfr : s.heap.objs.size ∉ [(s.heap.push { cls := .type "set", dict := none, data := .set #[] 0 (.fresh 0 0 (!w.params.followText "set-order")) }).objs.size, l] := by
          rw [Heap.size_push]; simp only [List.mem_cons, List.mem_singleton, List.not_mem_nil, or_false, not_or]
          exact ⟨Nat.ne_of_lt (Nat.lt_succ_self _), Nat.ne_of_gt hlS0⟩
        have hvl : ∀ (i : Nat) (v : Value), items[i]? = some v → ∃ k t, ns[i]? = some k ∧ v = .int k t := fun i v hv => by
          have hi : i < ns.length := by rw [← hsize]; exact (Array.getElem?_eq_some_iff.mp hv).1
          obtain ⟨t, e⟩ := PyProof.Rows.IntsAre.int_at hin i v (by rw [Array.getElem?_toList]; exact hv)
          refine ⟨ns[i], t, List.getElem?_eq_getElem hi, ?_⟩
          rw [e, List.getD_eq_getElem?_getD, List.getElem?_eq_getElem hi] <;> rfl
        refine set_update_ints ((Walks.list hh3 _ l hnI items).toS) s.heap.objs.size
          hSfr ns hsize hb hvl (items.size - 0) 0 _ (by omega) (Nat.zero_le _)
          ⟨⟨_, Heap.get?_push_size _ rfl, rfl, rfl⟩, (hli1.push _)⟩ ?hS0 ?hR
        case hS0 =>
          have hgt : ((s.heap.push { cls := .type "set", dict := none, data := .set #[] 0 (.fresh 0 0 (!w.params.followText "set-order")) }).push { cls := .type "list_iterator", data := .fields #[.ref l, .int 0 0] }).get? s.heap.objs.size
              = some { cls := .type "set", dict := none, data := .set #[] 0 (.fresh 0 0 (!w.params.followText "set-order")) } := Heap.get?_push_of_some _ hSet
          exact ⟨0, Nat.le_refl 0, setR_new_at hgt⟩
        case hR =>
          intro s' c' hm hc' hS'
          obtain ⟨h', g2, d', tk', os'⟩ := s'
          have eg : g2 = s.gens := hm.gens
          have ed : d' = s.drawn := hm.drawn
          have eo : os' = s.os := hm.os
          subst eg; subst ed; subst eo
          show wpAny _ _ _ _ _ _
          refine wpAny_pure ?_
          show wpAny _ _ (ret Value.none) _ _ _
          rw [hsize] at hc'
          refine wpAny_pure ⟨rfl, h', tk', c', rfl, hS', hc', fun b o e => ?_⟩
          have hb0 : b < s.heap.objs.size := Heap.lt_size e
          have hb1 : b ≠ s.heap.objs.size := Nat.ne_of_lt hb0
          have hb2 : b ≠ (s.heap.push { cls := .type "set", dict := none, data := .set #[] 0 (.fresh 0 0 (!w.params.followText "set-order")) }).objs.size := by
            rw [Heap.size_push]; exact Nat.ne_of_lt (Nat.lt_succ_of_lt hb0)
          exact hm.heap b o (by simp only [List.mem_cons, List.mem_singleton, List.not_mem_nil, or_false, not_or]; exact ⟨hb1, hb2⟩) (Heap.get?_push_of_some _ (Heap.get?_push_of_some _ e))

      · cases r₂ with
        | error e => exact hr₂
        | ok fl₂ =>
          cases fl₂ with
          | ret r =>
            obtain ⟨rfl, h', tk, c', rfl, hS', hc', hk'⟩ := hr₂
            repeat (any_goals (first | assumption | wp_step))
            exact h _ _ _ hS' hc' hk'
          | _ => exact hr₂.elim
    | _ => exact hr.elim
end
end DL
set_option maxHeartbeats 2000000
namespace DL
open PySem PySem.Spec PyProof.Rows L2
section
variable {X : Cx}
theorem put_dc3 {pins : List (Addr × Obj)} {σ : L2.St} {H : Hp} {s : Shared} {a b : Addr} {xs : List (K3 × Addr)} {k : K3} {E : Value → Shared → Prop} {Q : Unit → Shared → Prop} (hu : X.A.units < cLine) (I : Inv X pins σ H s) (e : H a = some (StD a xs)) (q : Ks3 X.K H xs) (hb : SqT X.K H b (v3 k)) (hl : xs.length < sizeLine)
    (h : ∀ s', Inv X pins σ (upd H a (StD a (put3 xs k b))) s' → Q () s') : wpAny (model X.prog X.w) X.A (dictSet a (.ref b) (.bool true)) Q E s := by
  have x := is3_rd I (.inl e)
  refine wpAny_dictSet_heap (knd := tupleKind (leafKind X.prog X.w)) (hsz := by rw [full3_len]; exact x.len) hu (key3 I hb) (dict3 I x q) fun h' dd' hs => h _ ?_
  rw [full3_put] at dd'
  exact write3 I e hs (is3_of dd' x.sm (Nat.le_trans (put3_len ..) hl) (put3_nd x.nd k b))
/-- {k: True for target in iter if ..}, k a state: D the new dict -/
noncomputable def tDcS (K : PySem.W.Frag) (wi : TI) (g : TG) (tt : TT) (tk tv : TE) (vs : List Nat) : TE := fun σ H Q => wi σ H fun J H1 => ∀ D, H1 D = none → ∃ W : Nat → Nat → Hp → Prop, (∃ m, W 0 m (upd H1 D (StD D []))) ∧ ∀ i m H, W i m H →
  (J.stop i H ∧ Q (.ref D) H) ∨ (J.go i H ∧ ∃ Nx : Hp → Prop, (∀ H', Nx H' → ∃ m', m' < m ∧ W (i + 1) m' H') ∧ ∀ x H', J.yld i H x H' → g x (wipe σ vs) H' fun σ2 H2 => wipe σ2 vs = wipe σ vs ∧ tt σ2 H2 fun b H3 =>
    if b = true then tk σ2 H3 fun y H4 => tv σ2 H4 fun z H5 => ∃ xs b k, y = .ref b ∧ z = .bl true ∧ H5 D = some (StD D xs) ∧ Ks3 K H5 xs ∧ SqT K H5 b (v3 k) ∧ xs.length < sizeLine ∧ Nx (upd H5 D (StD D (put3 xs k b))) else Nx H3)
theorem dcS_core {pns : List (Addr × Obj)} {s : Shared} {σ : L2.St} {H : Hp} {Q : VK} {ekx evx tge itr : Expr} {iff : List Expr} {sco : Scope} {ow : List (PySem.Str × Nat)} {pos pos' : Pos} {wi : TI} {g : TG} {tt : TT} {tk tv : TE} {usf : Option (Value → Sem Unit)} {Qz : Value → Shared → Prop}
    (hca : X.calm = true) (hroom : X.A.units < cLine) (hN : X.N.Nodup) (I : Inv X pns σ H s) (hit : PI X tge itr wi) (bo : BlkOk X.N X.env.scope sco ow)
    (htg : ∀ (s : Shared) (H : Hp) (C : Addr) (cl : List (PySem.Str × Addr)) (ft : List Addr), PG (X.blk s H sco (compEnvC sco cl C X.env) ft) tge g) (hts : ∀ (s : Shared) (H : Hp) (C : Addr) (cl : List (PySem.Str × Addr)) (ft : List Addr), PTs (X.blk s H sco (compEnvC sco cl C X.env) ft) iff tt)
    (hke : ∀ (s : Shared) (H : Hp) (C : Addr) (cl : List (PySem.Str × Addr)) (ft : List Addr), PE (X.blk s H sco (compEnvC sco cl C X.env) ft) ekx tk)
    (hem : ∀ (s : Shared) (H : Hp) (C : Addr) (cl : List (PySem.Str × Addr)) (ft : List Addr), PE (X.blk s H sco (compEnvC sco cl C X.env) ft) evx tv) (hfo : ∀ x, foldedSetIterable itr X.env x = pure x)
    (h : tDcS X.K wi g tt tk tv (ow.map (·.2)) σ H Q)
    (hEnd : ∀ D C s' m H', Inv X pns σ H' s' → Q (.ref D) H' → s'.heap.Ns C m → FpOk X pns H' C → compPost (model X.prog X.w) X.A X.xe usf Qz (.ref D) C (.ok .next) s') :
    wpAny (model X.prog X.w) X.A (comprehension (.DictComp ekx evx [⟨tge, itr, iff, 0⟩] sco pos) sco X.env pos' newDict false (eval itr X.env) usf) Qz X.xe s := by
  have hfree : ∀ y ∈ sco.names, y.2 = .free → ∃ c, X.env.cells.lookup y.1 = some c := fun y hy e => by
    rcases bo.free y hy e with k | k
    · exact I.ok.has _ (.inl k)
    · exact I.ok.has _ (.inr k)
  refine wpAny_comprehension_free (use := usf) rfl hfo (closure_ok hfree) bo.kind (fun y hy e => by rw [bo.uniq y hy, e])
    (thn (hit.run pns s σ H _ I h) fun xv z1 hx => thn hx fun itv z2 h2 => ?_)
  obtain ⟨it, ft, tn, J, G2, e, J2, Tn, stn2, g2, q⟩ := h2
  subst e
  refine wpAny_newObj_type (newEnv_comp ?_)
  generalize hDD : z2.heap.objs.size = D
  have hDn : G2 D = none := J2.hok.fresh (Nat.le_of_eq hDD)
  obtain ⟨W, ⟨m0, w0⟩, trn⟩ := q D hDn
  -- the new list
  generalize hs3 : ({ z2 with heap := z2.heap.push { cls := .type "dict", data := .dict #[] } } : Shared) = z3
  have J3 : Inv X pns σ (upd G2 D (StD D [])) z3 := by
    rw [← hs3]
    refine J2.laid (t' := z2.toks) (fun b o e => Heap.get?_push_of_some _ e) (Nat.le_of_eq hDD) ?_
    rw [← hDD]
    exact (is3_new z2.heap J2.big).ok
  have h3 : z3.heap = z2.heap.push { cls := .type "dict", data := .dict #[] } := by rw [← hs3]
  have szs : ∀ b ∈ ft, b < z2.heap.objs.size := fun b hb => by
    obtain ⟨o, e, _⟩ := Tn.obj _ _ stn2 b hb
    exact Heap.lt_size e
  have g3 : ∀ b ∈ ft, FpOk X pns (upd G2 D (StD D [])) b ∧ b < z3.heap.objs.size := fun b hb => by
    have hle := szs b hb
    refine ⟨⟨?_, (g2 b hb).2⟩, by rw [h3, Heap.size_push]; exact Nat.lt_succ_of_lt hle⟩
    rw [upd_ne (by rw [← hDD]; exact Nat.ne_of_lt hle)]
    exact (g2 b hb).1
  have stn3 : tn 0 z3.heap := Tn.keep _ _ _ stn2 fun b _ o e => by rw [h3]; exact Heap.get?_push_of_some _ e
  have J4 := block_start J3 bo hN g3
  have ppg := htg z3 (upd G2 D (StD D [])) z3.heap.objs.size (cellsFrom (z3.heap.objs.size + 1) sco.names (cloFrom X.env.cells sco.names [])) ft
  have ppt := hts z3 (upd G2 D (StD D [])) z3.heap.objs.size (cellsFrom (z3.heap.objs.size + 1) sco.names (cloFrom X.env.cells sco.names [])) ft
  have ppk := hke z3 (upd G2 D (StD D [])) z3.heap.objs.size (cellsFrom (z3.heap.objs.size + 1) sco.names (cloFrom X.env.cells sco.names [])) ft
  have ppe := hem z3 (upd G2 D (StD D [])) z3.heap.objs.size (cellsFrom (z3.heap.objs.size + 1) sco.names (cloFrom X.env.cells sco.names [])) ft
  show codeAny _ _ (.compStart (.DictComp ekx evx [⟨tge, itr, iff, 0⟩] sco pos) 0 (.ref it) (.ref D) (compEnvC sco (cellsFrom (z3.heap.objs.size + 1) sco.names (cloFrom X.env.cells sco.names [])) z3.heap.objs.size X.env)) (compPost (model X.prog X.w) X.A X.xe usf Qz (.ref D) z3.heap.objs.size) { z3 with heap := pushCells (z3.heap.push { cls := .type "dict", data := .dict #[] }) sco.names }
  have nft : ∀ b ∈ ft, (upd G2 D (StD D [])) b = none := fun b hb => (g3 b hb).1.1
  generalize hce : compEnvC sco (cellsFrom (z3.heap.objs.size + 1) sco.names (cloFrom X.env.cells sco.names [])) z3.heap.objs.size X.env = cen at J4 ppg ppt ppk ppe ⊢
  have cLo : cen.locals = z3.heap.objs.size := by subst hce; rfl
  generalize hH3 : upd G2 D (StD D []) = G3 at J3 J4 ppg ppt ppk ppe w0 nft g3
  generalize hs4 : ({ z3 with heap := pushCells (z3.heap.push { cls := .type "dict", data := .dict #[] }) sco.names } : Shared) = z4 at J4 ⊢
  have stn4 : tn 0 z4.heap := Tn.keep _ _ _ stn3 fun b _ o e => by rw [← hs4]; exact pushCells_keeps _ _ _ _ (Heap.get?_push_of_some _ e)
  have stt : ∀ {σ' : L2.St} {H' : Hp} {s' : Shared}, Inv (X.blk z3 G3 sco cen ft) [] σ' H' s' → (∀ b ∈ ft, H' b = none) → ∀ b ∈ ft, FpOk (X.blk z3 G3 sco cen ft) [] H' b := fun {σ' H' s'} I' hn b hb =>
    ⟨hn b hb, (I'.ok.exf b hb).1, I'.ok.exfs b hb, .inl hb, fun x c e => (I'.ok.exf b hb).2 x c e, fun p hp => absurd (show p ∈ ([] : List (Addr × Obj)) ++ [] from hp) (by simp)⟩
  have lop : codeAny (model X.prog X.w) X.A (.compLoop (.DictComp ekx evx [⟨tge, itr, iff, 0⟩] sco pos) 0 (.ref it) (.ref D) cen) (compPost (model X.prog X.w) X.A X.xe usf Qz (.ref D) z3.heap.objs.size) z4 := by
    refine compLoop_anyD (fun n s' => ∃ i H', Inv (X.blk z3 G3 sco cen ft) [] (wipe σ (ow.map (·.2))) H' s' ∧ tn i s'.heap ∧ (∀ b ∈ ft, H' b = none) ∧ W i n H') ?_ m0 ⟨0, G3, J4, stn4, nft, w0⟩
    rintro n z5 ⟨i, G5, J5, stn5, n5, w5⟩
    rcases trn i n G5 w5 with ⟨stop, qq⟩ | ⟨go, Nx, hNx, step⟩
    · have td := Tn.done (X.blk z3 G3 sco cen ft) rfl rfl rfl hca i [] z5 _ G5 (fun _ _ => False) J5 (stt J5 n5) stn5 stop
      refine thnF td fun r z6 ⟨hr, J6⟩ => ?_
      subst hr
      -- back in the def's context
      have J7 : Inv X pns σ G5 z6 := J3.call' (ch := ft) J6.os J6.base J6.hok J6.bare fun b hb => ⟨(g3 b hb).1.2.2.2.1, (g3 b hb).1.2.1, (g3 b hb).1.2.2.2.2.1, (g3 b hb).1.2.2.2.2.2⟩
      have nC : G5 z3.heap.objs.size = none := by
        have z : G5 cen.locals = none := J6.free
        rw [cLo] at z
        exact z
      obtain ⟨m, hn, _⟩ := J6.loc
      have hn : z6.heap.Ns cen.locals m := hn
      rw [cLo] at hn
      exact hEnd D z3.heap.objs.size z6 m G5 J7 qq hn (J3.fpOk (Nat.le_refl _) nC)
    · have ti := Tn.item (X.blk z3 G3 sco cen ft) rfl rfl rfl hca i [] z5 _ G5 (fun _ _ => False) J5 (stt J5 n5) stn5 go
      refine thnF ti fun r z6 ⟨u, hr, h6⟩ => ?_
      subst hr
      refine thnF h6 fun _ z7 ⟨x, G7, J7, r7, y7, stn7, n7⟩ => ?_
      have J7' := J7.pinned (stt J7 n7) (Tn.obj _ _ stn7)
      refine thnF (ppg.run _ z7 _ G7 x u _ J7' r7 (step x G7 y7)) fun _ z8 ⟨σ8, G8, J8, hw8, q8⟩ => ?_
      refine thnF (ppt.run _ z8 σ8 G8 _ J8 q8) fun b z9 ⟨G9, J9, q9⟩ => ?_
      -- the trn's end
      have fin : ∀ {s' : Shared} {H' : Hp}, Inv (X.blk z3 G3 sco cen ft) ([] ++ pinsAt ft z7.heap) σ8 H' s' → Nx H' → ∃ m, m < n ∧ ∃ i H', Inv (X.blk z3 G3 sco cen ft) [] (wipe σ (ow.map (·.2))) H' s' ∧ tn i s'.heap ∧ (∀ b ∈ ft, H' b = none) ∧ W i m H' := fun {s' H'} I' nx => by
        obtain ⟨m', hm, w'⟩ := hNx H' nx
        have pin' : ∀ b ∈ ft, ∀ o, z7.heap.get? b = some o → s'.heap.get? b = some o ∧ H' b = none := fun b hb o e =>
          let z := I'.pin (b, o) (List.mem_append_right _ (List.mem_append_right _ (mem_pinsAt hb e)))
          ⟨z.1, z.2.1⟩
        have hl : (wipe σ (ow.map (·.2))).length = σ8.length := by rw [← hw8, wipe_length]
        refine ⟨m', hm, i + 1, H', (I'.unpinned (pins := [])).weak hl (fun j v e => ?_), Tn.keep _ _ _ stn7 fun b hb o e => (pin' b hb o e).1, fun b hb => ?_, w'⟩
        · rw [← hw8] at e
          exact (wipe_some e).1
        · obtain ⟨o, e, _⟩ := Tn.obj _ _ stn7 b hb
          exact (pin' b hb o e).2
      cases b with
      | false =>
        simp only [Bool.false_eq_true, if_false] at q9 ⊢
        exact fin J9 q9
      | true =>
        simp only [if_true] at q9 ⊢
        refine thnF (ppk.run _ z9 σ8 G9 _ J9 q9) fun z z10 ⟨yk, G10, J10, r10, q10⟩ => ?_
        refine thnF (ppe.run _ z10 σ8 G10 _ J10 q10) fun z2 z11 ⟨yv, G11, J11, r11, kv3, b3, kk, ek, ez, hD11, hq11, hk11, hz11, nx⟩ => ?_
        subst ek ez
        cases r11
        cases r10
        exact put_dc3 (X := X.blk z3 G3 sco cen ft) hroom J11 hD11 hq11 hk11 hz11 fun z12 J12 => fin J12 nx
  exact codeAny_compStart_dict lop (Tn.self X.A 0 _ _ _ stn4 lop)
/-- as a value -/
theorem pe_dcS {ekx evx tge itr : Expr} {iff : List Expr} {sco : Scope} {ow : List (PySem.Str × Nat)} {pos : Pos} {wi : TI} {g : TG} {tt : TT} {tk tv : TE} (hca : X.calm = true) (hroom : X.A.units < cLine) (hN : X.N.Nodup) (hit : PI X tge itr wi) (bo : BlkOk X.N X.env.scope sco ow)
    (htg : ∀ (s : Shared) (H : Hp) (C : Addr) (cl : List (PySem.Str × Addr)) (ft : List Addr), PG (X.blk s H sco (compEnvC sco cl C X.env) ft) tge g) (hts : ∀ (s : Shared) (H : Hp) (C : Addr) (cl : List (PySem.Str × Addr)) (ft : List Addr), PTs (X.blk s H sco (compEnvC sco cl C X.env) ft) iff tt)
    (hke : ∀ (s : Shared) (H : Hp) (C : Addr) (cl : List (PySem.Str × Addr)) (ft : List Addr), PE (X.blk s H sco (compEnvC sco cl C X.env) ft) ekx tk)
    (hem : ∀ (s : Shared) (H : Hp) (C : Addr) (cl : List (PySem.Str × Addr)) (ft : List Addr), PE (X.blk s H sco (compEnvC sco cl C X.env) ft) evx tv) (hfo : ∀ x, foldedSetIterable itr X.env x = pure x := by intro _; rfl) :
    PE X (.DictComp ekx evx [⟨tge, itr, iff, 0⟩] sco pos) (tDcS X.K wi g tt tk tv (ow.map (·.2))) := by
  refine ⟨fun pns s σ H Q I h => ?_⟩
  rw [arm_eval_DictComp]
  refine dcS_core hca hroom hN I hit bo htg hts hke hem hfo h fun D C s' m H' I' q hn f => ⟨m, hn, fun h'' sb => ?_⟩
  obtain ⟨f0, g1, g2, g3, g4, g5⟩ := f
  exact ⟨.ref D, H', I'.turned (t' := s'.toks) (fun b o hb e => (sb.2 b hb).trans e) f0 g1 g3 g4 g5, rfl, q⟩
end
end DL
set_option maxHeartbeats 2000000
namespace DL
open PySem PySem.Spec PyProof.Rows L2 PpSet
end DL
namespace DL
open PySem PySem.Spec PyProof.Rows L2
noncomputable abbrev Tl := List (Int × Int)
noncomputable def hT (t : Tl) : Int := reduceHash (Builtin.Tuple.tupleHashOf (t.map fun p => reduceHash (Builtin.Tuple.tupleHashOf [hashInt p.1, hashInt p.2])))
noncomputable def entT (x : Tl × Addr) : DictEntry := ⟨hT x.1, .ref x.2, .bool true⟩
structure IsT (a : Addr) (xs : List (Tl × Addr)) (h : Heap) : Prop where
  sm : (a == sysModules) = false
  len : xs.length ≤ sizeLine
  nd : (xs.map (·.1)).Nodup
  ob : ∃ o es ep, h.get? a = some o ∧ o.ExactDict ∧ o.data = .dict es ep ∧ es.toList = xs.map entT
/-- what stands at a: the dict of these tales, each with the address of its key -/
noncomputable def TlD (a : Addr) (xs : List (Tl × Addr)) : HO := .ext fun h => IsT a xs h
/-- at b a tale stands -/
noncomputable def TlV (K : PySem.W.Frag) (H : Hp) (b : Addr) (t : Tl) : Prop := ∃ qs : List Addr, SqT K H b (qs.map V.ref) ∧ Paired (fun q (p : Int × Int) => SqT K H q [V.int p.1, V.int p.2]) qs t
noncomputable def KsT (K : PySem.W.Frag) (H : Hp) (xs : List (Tl × Addr)) : Prop := ∀ x ∈ xs, TlV K H x.2 x.1
noncomputable def putT (xs : List (Tl × Addr)) (x : Tl × Addr) : List (Tl × Addr) := if x.1 ∈ xs.map (·.1) then xs else xs ++ [x]
theorem IsT.at {a : Addr} {xs : List (Tl × Addr)} {h h' : Heap} (x : IsT a xs h) (k : ∀ o, h.get? a = some o → h'.get? a = some o) : IsT a xs h' :=
  ⟨x.sm, x.len, x.nd, let ⟨o, es, ep, e, r⟩ := x.ob; ⟨o, es, ep, k o e, r⟩⟩
theorem IsT.ok {P : Program} {w : World} {H : Hp} {a : Addr} {xs : List (Tl × Addr)} {h : Heap} (x : IsT a xs h) : ObjOk P w H h a (TlD a xs) :=
  ⟨x, let ⟨o, _, _, e, _⟩ := x.ob; ⟨o, e⟩, fun _ _ y k => y.at k⟩
end DL
set_option maxHeartbeats 4000000
namespace DL
open PySem PySem.Spec PyProof.Rows L2
/-- from each slot the leaps come to each -/
noncomputable def Full (m : Nat) : Prop := ∀ i j, i ≤ m → j ≤ m → ∃ k, k ≤ m ∧ lcgI m i k = j
theorem full_of {m : Nat} (h : MaskOk m) : Full m := fun _ _ hi hj => lcgI_all h hi hj
noncomputable def orb (m : Nat) : Nat → Nat → List Nat
  | 0, _ => []
  | n + 1, x => x :: orb m n ((x * 5 + 1) % (m + 1))
theorem lcg_shift (m : Nat) : ∀ k x, lcgI m ((x * 5 + 1) % (m + 1)) k = lcgI m x (k + 1)
  | 0, _ => rfl
  | k + 1, x => by
    have e := lcg_shift m k x
    simp only [lcgI] at e ⊢
    rw [e]
theorem orb_mem (m : Nat) : ∀ n x y, y ∈ orb m n x → ∃ k, k < n ∧ lcgI m x k = y
  | 0, x, y, h => nomatch h
  | n + 1, x, y, h => by
    rcases List.mem_cons.mp h with e | h
    · exact ⟨0, n.succ_pos, e.symm⟩
    · obtain ⟨k, hk, e⟩ := orb_mem m n _ y h
      exact ⟨k + 1, Nat.succ_lt_succ hk, by rw [← lcg_shift]; exact e⟩
theorem lcg_comp (m x a : Nat) : ∀ b, lcgI m (lcgI m x a) b = lcgI m x (a + b)
  | 0 => rfl
  | b + 1 => by
    have e := lcg_comp m x a b
    show (lcgI m (lcgI m x a) b * 5 + 1) % (m + 1) = (lcgI m x (a + b) * 5 + 1) % (m + 1)
    rw [e]
noncomputable def bitsOf (l : List Nat) : Nat := l.foldl (fun acc x => acc ||| (1 <<< x)) 0
theorem bits_mem : ∀ (l : List Nat) (acc j : Nat), (l.foldl (fun acc x => acc ||| (1 <<< x)) acc).testBit j = true → acc.testBit j = true ∨ j ∈ l
  | [], acc, j, h => .inl h
  | x :: l, acc, j, h => by
    rcases bits_mem l _ j h with h | h
    · rw [Nat.testBit_or, Bool.or_eq_true] at h
      rcases h with h | h
      · exact .inl h
      · refine .inr (List.mem_cons.mpr (.inl ?_))
        rw [Nat.one_shiftLeft, Nat.testBit_two_pow] at h
        exact (of_decide_eq_true h).symm
    · exact .inr (List.mem_cons_of_mem _ h)
set_option exponentiation.threshold 600 in
theorem full511 : Full 511 := by
  have hb : bitsOf (orb 511 512 0) = 2 ^ 512 - 1 := by decide +kernel
  have h0 : lcgI 511 0 512 = 0 := by decide +kernel
  have all : ∀ j, j ≤ 511 → ∃ k, k < 512 ∧ lcgI 511 0 k = j := fun j hj => by
    have h1 : (bitsOf (orb 511 512 0)).testBit j = true := by
      rw [hb, Nat.testBit_two_pow_sub_one]
      exact decide_eq_true (by omega)
    rcases bits_mem _ 0 j h1 with h | h
    · simp at h
    · exact orb_mem 511 512 0 j h
  intro i j hi hj
  obtain ⟨a, ha, ea⟩ := all i hi
  obtain ⟨b, hb', eb⟩ := all j hj
  by_cases c : a ≤ b
  · exact ⟨b - a, by omega, by rw [← ea, lcg_comp, Nat.add_sub_cancel' c]; exact eb⟩
  · refine ⟨b + 512 - a, by omega, ?_⟩
    rw [← ea, lcg_comp, show a + (b + 512 - a) = 512 + b by omega, ← lcg_comp, h0]
    exact eb
section
variable {m : Nat}
theorem full_run (F : Full m) (h : Int) {j : Nat} (hj : j ≤ m) : ∃ n, n ≤ m + 12 ∧ runI m (SetTable.bits h) n = j := by
  obtain ⟨k, h1, h2⟩ := F _ j (runI_le m (SetTable.bits h) 12) hj
  refine ⟨12 + k, by omega, ?_⟩
  rw [runI_tail (bits_lt h)]
  exact h2
theorem full_way (F : Full m) (h : Int) {j : Nat} (hj : j ≤ m) : ∃ k, k < 10 * SetTable.turns m ∧ way m h k = j := by
  obtain ⟨n, h1, h2⟩ := full_run F h hj
  obtain ⟨k, h3, h4⟩ := run_nth m (SetTable.bits h) n
  refine ⟨k, ?_, (congrArg SetTable.Probe.j h4).trans h2⟩
  unfold SetTable.turns
  omega
theorem wayB (h : Int) (k : Nat) : way m h k ≤ m := by
  have s : SetTable.bits h % (m + 1) ≤ m := Nat.lt_succ_iff.mp (Nat.mod_lt _ m.succ_pos)
  have b := runEnd_bd s
  have := nth_in (m := m) k (runAt m (SetTable.bits h % (m + 1)) (SetTable.bits h)) (by simp only [runAt]; omega)
  exact Nat.le_trans (Nat.le_add_right _ _) this
/-- the first free place of a way, where one is free at all -/
theorem first_free {p : Nat → Prop} (F : Full m) (h : Int) {j : Nat} (hj : j ≤ m) (hp : p j) : ∃ K, K < 10 * SetTable.turns m ∧ p (way m h K) ∧ ∀ k, k < K → ¬ p (way m h k) := by
  obtain ⟨k, h1, h2⟩ := full_way F h hj
  obtain ⟨K, a, b, c⟩ := st_least (p := fun k => p (way m h k)) k (by show p (way m h k); rw [h2]; exact hp)
  exact ⟨K, Nat.lt_of_le_of_lt a h1, b, c⟩
end
/-- a table: each slot is found again by its hash -/
structure TabB (t : SetTable) (hs : List Int) : Prop where
  full : Full t.mask
  odd : t.mask % 2 = 1
  dum : t.dummies = #[]
  rise : Ris t.place.toList
  num : t.place.toList.length = hs.length
  bnd : ∀ x ∈ t.place.toList, x ≤ t.mask
  find : ∀ (i : Nat) (h : Int) (j : Nat), hs[i]? = some h → t.place.toList[i]? = some j → ∃ k, way t.mask h k = j ∧ ∀ k', k' < k → way t.mask h k' ∈ t.place.toList
theorem TabB.gap {t : SetTable} {hs : List Int} (T : TabB t hs) (hl : hs.length ≤ t.mask) (h : Int) : ∃ K, K < 10 * SetTable.turns t.mask ∧ way t.mask h K ∉ t.place.toList ∧ ∀ k, k < K → way t.mask h k ∈ t.place.toList := by
  obtain ⟨j, h1, h2⟩ := st_missing t.place.toList (t.mask + 1) (by rw [T.num]; omega)
  obtain ⟨K, a, b, c⟩ := first_free (p := fun j => j ∉ t.place.toList) T.full h (Nat.lt_succ_iff.mp h1) h2
  exact ⟨K, a, b, fun k hk => Classical.not_not.mp (c k hk)⟩
theorem TabB.ahead {t : SetTable} {hs : List Int} (T : TabB t hs) {h : Int} {K i j : Nat} (hK : way t.mask h K ∉ t.place.toList) (hi : hs[i]? = some h) (hj : t.place.toList[i]? = some j) : ∃ k, k < K ∧ way t.mask h k = j := by
  obtain ⟨k, e, b⟩ := T.find i h j hi hj
  have m := List.mem_of_getElem? hj
  refine ⟨k, Nat.lt_of_not_le fun c => ?_, e⟩
  rcases Nat.lt_or_eq_of_le c with c | c
  · exact hK (b K c)
  · rw [c, e] at hK; exact hK m
theorem TabB.add {t : SetTable} {hs : List Int} (T : TabB t hs) {h : Int} {K : Nat} (hK : way t.mask h K ∉ t.place.toList) (hb : ∀ k, k < K → way t.mask h k ∈ t.place.toList) :
    let p := SetTable.below t.place (way t.mask h K)
    let t' := (t.put (way t.mask h K)).1
    (t.put (way t.mask h K)).2 = p ∧ p ≤ hs.length ∧ TabB t' (hs.take p ++ h :: hs.drop p) ∧ t'.mask = t.mask ∧ t'.led = t.led ∧ t'.plain = t.plain ∧ t'.fill = hs.length + 1 := by
  intro p t'
  have hp1 : p ≤ t.place.toList.length := (below_cut T.rise _).1
  have hp2 : p ≤ hs.length := T.num ▸ hp1
  have hpl : t'.place.toList = t.place.toList.take p ++ way t.mask h K :: t.place.toList.drop p := put_place t _
  have hdm : t'.dummies = #[] := put_dm T.dum _
  have hlen : t'.place.toList.length = hs.length + 1 := by rw [hpl, len_ins _ hp1, T.num]
  have keep : ∀ y, y ∈ t.place.toList → y ∈ t'.place.toList := fun y hy => by rw [hpl]; exact mem_ins.mpr (.inr hy)
  refine ⟨rfl, hp2, ⟨T.full, T.odd, hdm, ?_, by rw [hlen, len_ins _ hp2], fun x hx => ?_, fun i h' j h1 h2 => ?_⟩, rfl, rfl, rfl, ?_⟩
  · exact ris_insert T.rise fun e => hK (by rw [← Array.getElem?_toList] at e; exact List.mem_of_getElem? e)
  · rw [hpl] at hx
    rcases mem_ins.mp hx with rfl | hx
    · exact wayB h K
    · exact T.bnd x hx
  · rw [hpl, tins_get _ hp1] at h2
    rw [tins_get hs hp2] at h1
    show ∃ k, way t.mask h' k = j ∧ ∀ k', k' < k → way t.mask h' k' ∈ t'.place.toList
    rcases Nat.lt_trichotomy i p with c | c | c
    · rw [if_pos c] at h1 h2
      obtain ⟨k, a, b⟩ := T.find i h' j h1 h2
      exact ⟨k, a, fun k' hk => keep _ (b k' hk)⟩
    · rw [if_neg (by omega), if_pos c] at h1 h2
      cases h1
      cases h2
      exact ⟨K, rfl, fun k' hk => keep _ (hb k' hk)⟩
    · rw [if_neg (by omega), if_neg (by omega)] at h1 h2
      obtain ⟨k, a, b⟩ := T.find (i - 1) h' j h1 h2
      exact ⟨k, a, fun k' hk => keep _ (b k' hk)⟩
  · show t'.place.toList.length + t'.dummies.size = _
    rw [hlen, hdm]
    rfl
structure OwnB (m : Nat) (done : List Int) (ow : Array (Option Nat)) : Prop where
  size : ow.size = m + 1
  back : ∀ j k, j ≤ m → oAt ow j = some k → ∃ h K, done[k]? = some h ∧ way m h K = j ∧ ∀ k', k' < K → oAt ow (way m h k') ≠ none
  has : ∀ k, k < done.length → ∃ j, j ≤ m ∧ oAt ow j = some k
  few : ∃ ps : List Nat, ps.length = done.length ∧ ∀ j, j ≤ m → oAt ow j ≠ none → j ∈ ps
theorem free_at {m : Nat} (F : Full m) (ow : Array (Option Nat)) (h : Int) {j : Nat} (hj : j ≤ m) (hf : oAt ow j = none) :
    ∃ K, SetTable.layClean.free m ow (SetTable.turns m) (SetTable.bits h % (m + 1)) (SetTable.bits h) = some (way m h K) ∧ oAt ow (way m h K) = none ∧ ∀ k, k < K → oAt ow (way m h k) ≠ none := by
  obtain ⟨n, h1, h2⟩ := full_run F h hj
  let N := off m (SetTable.bits h % (m + 1)) (SetTable.bits h) n
  have hN : way m h N = j := by
    have := nth_off m n (SetTable.bits h % (m + 1)) (SetTable.bits h)
    exact (congrArg SetTable.Probe.j this).trans (by rw [itL_run]; exact h2)
  obtain ⟨K, a, b, c⟩ := st_least (p := fun k => oAt ow (way m h k) = none) N (by show oAt ow (way m h N) = none; rw [hN]; exact hf)
  refine ⟨K, free_spec m ow _ n _ _ K (by unfold SetTable.turns; omega) a (fun k hk => ?_) (by rw [b]; rfl), b, c⟩
  have := c k hk
  rw [Option.isNone_eq_false_iff, Option.isSome_iff_ne_none]
  exact this
theorem OwnB.more {m : Nat} (F : Full m) {done : List Int} {ow : Array (Option Nat)} (W : OwnB m done ow) (hl : done.length ≤ m) (h : Int) :
    ∃ j, SetTable.layClean.free m ow (SetTable.turns m) (SetTable.bits h % (m + 1)) (SetTable.bits h) = some j ∧ OwnB m (done ++ [h]) (ow.setIfInBounds j (some done.length)) := by
  obtain ⟨ps, f1, f2⟩ := W.few
  obtain ⟨g, g1, g2⟩ := st_missing ps (m + 1) (by omega)
  have hg : oAt ow g = none := Classical.byContradiction fun c => g2 (f2 g (Nat.lt_succ_iff.mp g1) c)
  obtain ⟨K, e1, e2, e3⟩ := free_at F ow h (Nat.lt_succ_iff.mp g1) hg
  have hw : way m h K < ow.size := by rw [W.size]; exact Nat.lt_succ_iff.mpr (wayB h K)
  generalize hj : way m h K = j at e1 e2 hw
  have own := oAt_set_self (some done.length) hw
  have oth : ∀ i, i ≠ j → oAt (ow.setIfInBounds j (some done.length)) i = oAt ow i := fun i hi => oAt_set_ne _ hi
  have stay : ∀ i, oAt ow i ≠ none → oAt (ow.setIfInBounds j (some done.length)) i ≠ none := fun i hi => by
    by_cases c : i = j
    · subst c; rw [own]; simp
    · rw [oth i c]; exact hi
  refine ⟨j, e1, by simp [W.size], fun i k hi e => ?_, fun k hk => ?_, j :: ps, by simp [f1], fun i hi e => ?_⟩
  · by_cases c : i = j
    · subst c
      rw [own] at e
      cases e
      exact ⟨h, K, by simp, hj, fun k' hk => stay _ (e3 k' hk)⟩
    · rw [oth i c] at e
      obtain ⟨h', K', a1, a2, a3⟩ := W.back i k hi e
      have := (List.getElem?_eq_some_iff.mp a1).1
      exact ⟨h', K', by rw [List.getElem?_append_left this]; exact a1, a2, fun k' hk => stay _ (a3 k' hk)⟩
  · by_cases c : k = done.length
    · subst c
      exact ⟨j, by rw [W.size] at hw; omega, own⟩
    · have hk' : k < done.length := by simp at hk; omega
      obtain ⟨i, a1, a2⟩ := W.has k hk'
      exact ⟨i, a1, by rw [oth i (fun z => by rw [z, e2] at a2; cases a2)]; exact a2⟩
  · by_cases c : i = j
    · simp [c]
    · rw [oth i c] at e
      exact List.mem_cons_of_mem _ (f2 i hi e)
theorem lay_all {m : Nat} (F : Full m) : ∀ (rest done : List Int) (ow : Array (Option Nat)), OwnB m done ow → done.length + rest.length ≤ m →
    ∃ ow', rest.foldl (stepF m) (some (ow, done.length)) = some (ow', (done ++ rest).length) ∧ OwnB m (done ++ rest) ow'
  | [], done, ow, W, _ => ⟨ow, by simp, by simpa using W⟩
  | h :: rest, done, ow, W, hl => by
    simp only [List.length_cons] at hl
    obtain ⟨j, e, W1⟩ := W.more F (by omega) h
    obtain ⟨ow', e2, W2⟩ := lay_all F rest (done ++ [h]) _ W1 (by simp; omega)
    simp only [List.append_assoc, List.singleton_append, List.length_append, List.length_singleton] at e2 W2
    refine ⟨ow', ?_, W2⟩
    rw [List.foldl_cons, stepF_some e, e2, List.length_append]
theorem own0 (m : Nat) : OwnB m [] (Array.replicate (m + 1) none) :=
  ⟨by simp, fun j k hj e => absurd e (by rw [oAt_init hj]; simp), fun k hk => absurd hk (by simp), [], rfl, fun j hj e => absurd (oAt_init hj) e⟩
theorem laid_anew (t : SetTable) {hs : Array Int} {wanted M : Nat} (hw : SetTable.sizeAbove wanted - 1 = M) (F : Full M) (ho : M % 2 = 1) (hn : hs.size ≤ M) :
    ∃ t' order, t.relaid hs wanted = some (t', order) ∧ order.toList.Perm (List.range hs.size) ∧ TabB t' (order.toList.map fun i => hs.getD i 0) ∧ t'.mask = M ∧ t'.led = t.led ∧ t'.plain = t.plain := by
  obtain ⟨ow, e, W⟩ := lay_all F hs.toList [] _ (own0 M) (by simpa using hn)
  have hL : SetTable.layClean M hs = some ow := by
    rw [layClean_eq]
    exact congrArg (Option.map (·.1)) e
  have rise := ris_live (fun j => ow.getD j none) (List.range (M + 1)) (show List.Pairwise _ _ from by first | exact List.pairwise_lt_range | exact List.pairwise_lt_range _)
  change Ris ((liveOf M ow).map (·.1)) ∧ ∀ x ∈ (liveOf M ow).map (·.1), x ∈ List.range (M + 1) at rise
  rw [List.nil_append] at W
  have live : ∀ j k, (j, k) ∈ liveOf M ow ↔ j ≤ M ∧ oAt ow j = some k := fun j k => mem_live W.size
  have hcount : (liveOf M ow).length = hs.size := by
    obtain ⟨ps, f1, f2⟩ := W.few
    have nd : List.Nodup ((liveOf M ow).map (·.1) : List Nat) := rise.1.imp fun h => Nat.ne_of_lt h
    have up := nat_nodup_len _ ps nd fun x hx => by
      obtain ⟨⟨y, k⟩, hq, rfl⟩ := List.mem_map.mp hx
      have := (live y k).mp hq
      exact f2 y this.1 (by rw [this.2]; simp)
    have dn := nat_nodup_len (List.range hs.size) ((liveOf M ow).map (·.2) : List Nat) List.nodup_range fun k hk => by
      obtain ⟨j, a, b⟩ := W.has k (by simpa using hk)
      exact List.mem_map.mpr ⟨(j, k), (live j k).mpr ⟨a, b⟩, rfl⟩
    simp at up dn f1
    omega
  refine ⟨tabOf t M ow, ((liveOf M ow).map (·.2)).toArray, by rw [relaid_eq, hw, hL]; rfl, ?_, ⟨F, ho, rfl, rise.1, by simp [tabOf], fun x hx => ?_, fun i h j h1 h2 => ?_⟩, rfl, rfl, rfl⟩
  · refine perm_range _ _ (by simpa using hcount) fun k hk => ?_
    obtain ⟨j, a, b⟩ := W.has k (by simpa using hk)
    exact List.mem_map.mpr ⟨(j, k), (live j k).mpr ⟨a, b⟩, rfl⟩
  · exact Nat.lt_succ_iff.mp (List.mem_range.mp (rise.2 x hx))
  · change (((liveOf M ow).map (·.2)).map fun i => hs.getD i 0)[i]? = some h at h1
    change ((liveOf M ow).map (·.1))[i]? = some j at h2
    simp only [List.getElem?_map] at h1 h2
    cases q : (liveOf M ow)[i]? with
    | none => rw [q] at h2; cases h2
    | some y =>
      obtain ⟨y, k⟩ := y
      rw [q] at h1 h2
      obtain rfl : y = j := Option.some.inj h2
      obtain rfl : hs.getD k 0 = h := Option.some.inj h1
      obtain ⟨a, b⟩ := (live y k).mp (List.mem_of_getElem? q)
      obtain ⟨h0, K, c1, c2, c3⟩ := W.back y k a b
      have e0 : hs.getD k 0 = h0 := by simp [Array.getD_eq_getD_getElem?, ← Array.getElem?_toList, c1]
      rw [e0]
      refine ⟨K, c2, fun k' hk => ?_⟩
      obtain ⟨z, hz⟩ := Option.ne_none_iff_exists'.mp (c3 k' hk)
      exact List.mem_map.mpr ⟨(_, z), (live _ z).mpr ⟨wayB h0 k', hz⟩, rfl⟩
end DL
set_option maxHeartbeats 4000000
namespace DL
open PySem PySem.Spec PyProof.Rows L2
section
variable {P : Program} {w : World} {A : Around} {E : Value → Shared → Prop} {s : Shared}
/-- the set of tuples at ad: its rows L, as they stand in the table -/
structure SetB (P : Program) (w : World) (h : Heap) (ad : Addr) (L : List (Addr × List Int)) (en : Array (Int × Value)) (ep : Nat) (tb : SetTable) : Prop where
  obj : ∃ o, h.get? ad = some o ∧ o.ExactSet ∧ o.data = .set en ep tb
  row : en.toList = rowsOf P w L
  tab : TabB tb (L.map fun p => thash P w p.2)
  msk : tb.mask = 7 ∨ tb.mask = 31 ∨ tb.mask = 127 ∨ tb.mask = 511
  one : (L.map (·.2)).Nodup
  are : ∀ p ∈ L, L2.IsT P w h p.2 p.1
  pln : tb.plain = true
  see : w.params.followText "set-order" = true ∨ tb.led = true
  gap : L.length * 5 < tb.mask * 3
  few : L.length < 300
variable {ad : Addr} {L : List (Addr × List Int)} {en : Array (Int × Value)} {ep : Nat} {tb : SetTable}
theorem SetB.len (R : SetB P w s.heap ad L en ep tb) : en.size = L.length := by
  simpa [rowsOf] using congrArg List.length R.row
theorem SetB.num (R : SetB P w s.heap ad L en ep tb) : tb.place.size = L.length := by simpa using R.tab.num
theorem SetB.fit (R : SetB P w s.heap ad L en ep tb) : tb.fits en.size = true := by
  have h1 := R.num
  have h2 := R.len
  have h3 := R.gap
  simp only [SetTable.fits, SetTable.fill, R.tab.dum, Bool.and_eq_true, beq_iff_eq, decide_eq_true_eq, Array.size_empty]
  omega
theorem SetB.nth (R : SetB P w s.heap ad L en ep tb) {i : Nat} {p : Addr × List Int} (h : L[i]? = some p) : en[i]? = some (thash P w p.2, Value.ref p.1) := by
  rw [← Array.getElem?_toList, R.row]
  simp [rowsOf, h]
theorem SetB.stays (R : SetB P w s.heap ad L en ep tb) : ¬ tb.gaveWay = true := by simp [SetTable.gaveWay, R.tab.odd]
noncomputable abbrev wayT (tb : SetTable) (h : Int) (c : Nat) : SetTable.Probe := L2.nth tb.mask (runAt tb.mask (SetTable.bits h % (tb.mask + 1)) (SetTable.bits h)) c
theorem nodum (m : Nat) : ∀ (n : Nat) (p : SetTable.Probe), p.dummy = none → (L2.nth m p n).dummy = none
  | 0, _, h => h
  | n + 1, p, h => nodum m n (adv m p) (by unfold adv; split <;> exact h)
/-- from the c-th step of the search on -/
theorem SetB.seek (R : SetB P w s.heap ad L en ep tb) {x : Addr} {k : List Int} (hx : L2.IsT P w s.heap k x) (hu : A.units < cLine) {K : Nat} (hKf : K < 10 * SetTable.turns tb.mask)
    (hK : way tb.mask (thash P w k) K ∉ tb.place.toList) (hKb : ∀ c, c < K → way tb.mask (thash P w k) c ∈ tb.place.toList) {Q : SetFound → Shared → Prop}
    (yes : k ∈ L.map (·.2) → Q (.there none) s) (no : k ∉ L.map (·.2) → Q (.free (way tb.mask (thash P w k) K) false) s) :
    ∀ (f c : Nat) (st : Option SetTable.Probe), st.getD (tb.probeStart (thash P w k)) = wayT tb (thash P w k) c → c ≤ K → K - c < f →
      (∀ (i : Nat) p, L[i]? = some p → p.2 = k → ∃ c', c ≤ c' ∧ c' < K ∧ tb.place.toList[i]? = some (way tb.mask (thash P w k) c')) →
      wpAny (model P w) A (setSearchFrom ad (.ref x) (thash P w k) true f st) Q E s := by
  obtain ⟨o, ho, hex, hd⟩ := R.obj
  let H : Nat → Int := fun i => (en[i]?.map (·.1)).getD 0
  have hH : ∀ (i : Nat) p, L[i]? = some p → H i = thash P w p.2 := fun i p hp => by
    show (en[i]?.map (·.1)).getD 0 = _
    rw [R.nth hp] <;> rfl
  intro f
  induction f with
  | zero => intro c st _ _ hf; exact absurd hf (Nat.not_lt_zero _)
  | succ f ih =>
    intro c st hst hc hf hre
    rw [setSearchFrom_succ]
    refine wpAny_bind (wpAny_setState_of ho hd R.fit ?_)
    dsimp only
    refine wp_if_neg R.stays ?_
    try refine wpAny_bind (wpAny_pure ?_)
    have on : ∀ q, L2.nth tb.mask (wayT tb (thash P w k) c) q = wayT tb (thash P w k) (c + q) := fun q => (nth_add tb.mask c _ q).symm
    have onj : ∀ q, (L2.nth tb.mask (wayT tb (thash P w k) c) q).j = way tb.mask (thash P w k) (c + q) := fun q => congrArg SetTable.Probe.j (on q)
    rcases go_spec tb R.tab.rise R.tab.dum H (thash P w k) (10 * SetTable.turns tb.mask) (K - c) (wayT tb (thash P w k) c) (nodum tb.mask c _ rfl) (by omega)
      (fun q hq => by rw [onj]; exact hKb (c + q) (by omega)) (by rw [onj, Nat.add_sub_cancel' hc]; exact hK) with ⟨q, i, hq, hi, hh, hno, hpr⟩ | ⟨hno, hpr⟩
    · rw [onj] at hi
      have met : tb.probe H (thash P w k) (st.getD (tb.probeStart (thash P w k))) = some (.candidate (way tb.mask (thash P w k) (c + q)) i (wayT tb (thash P w k) (c + (q + 1)))) := by
        rw [hst, ← onj, ← on]; exact hpr
      rw [met]
      dsimp only
      have hil : i < L.length := by
        have := (List.getElem?_eq_some_iff.mp hi).1
        rw [R.tab.num, List.length_map] at this
        exact this
      obtain ⟨p, hp⟩ : ∃ p, L[i]? = some p := ⟨_, List.getElem?_eq_getElem hil⟩
      have hpm := List.mem_of_getElem? hp
      have stand : tb.slot (way tb.mask (thash P w k) (c + q)) = .live i := slot_live R.tab.rise hi
      have on_ : wpAny (model P w) A (searchRest ad (.ref x) (thash P w k) true f en tb (way tb.mask (thash P w k) (c + q)) i (wayT tb (thash P w k) (c + (q + 1)))) Q E s := by
        unfold searchRest
        rw [R.nth hp]
        dsimp only
        refine wpAny_bind (wpAny_holding (wpAny_eqBool_tuple hu (R.are p hpm) hx ?_))
        refine wpAny_bind (wpAny_setState_of ho hd R.fit ?_)
        dsimp only
        by_cases same : p.2 = k
        · exact wp_if_pos (by simp [same]) (wpAny_pure (yes (List.mem_map.mpr ⟨p, hpm, same⟩)))
        · refine wp_if_neg (by simp [same]) ?_
          try refine wpAny_bind (wpAny_pure ?_)
          rw [sameMem]
          dsimp only
          simp only [if_true, stand, R.nth hp]
          refine wpAny_bind (wpAny_isSame_ref_self (wpAny_bind (wpAny_pure ?_)))
          simp only [if_true]
          refine wp_if_neg (by simp [same]) ?_
          refine ih (c + (q + 1)) _ rfl (by omega) (by omega) fun i0 p0 h0 hk0 => ?_
          obtain ⟨c', a1, a2, a3⟩ := hre i0 p0 h0 hk0
          suffices past : ¬ c' ≤ c + q from ⟨c', by omega, a2, a3⟩
          intro z
          rcases Nat.lt_or_eq_of_le z with z | z
          · exact hno (c' - c) i0 (by omega) (by rw [onj, Nat.add_sub_cancel' a1]; exact a3) ((hH i0 p0 h0).trans (congrArg (thash P w) hk0))
          · rw [z] at a3
            have := slot_live R.tab.rise a3
            rw [stand] at this
            injection this with this
            rw [← this, hp] at h0
            exact same ((congrArg Prod.snd (Option.some.inj h0)).trans hk0)
      by_cases hl : tb.led = true
      · refine wp_if_neg (by simp [hl]) ?_
        try refine wpAny_bind (wpAny_pure ?_)
        exact on_
      · refine wp_if_pos (by simp [hl]) ?_
        refine wpAny_bind (seen_tup hx (fun y hy => ?_) ?_)
        · obtain ⟨e, he, rfl⟩ := List.mem_map.mp hy
          have he1 : e ∈ en ∧ e.1 = thash P w k := by simpa using he
          have he2 : e ∈ rowsOf P w L := by rw [← R.row]; simpa using he1.1
          obtain ⟨p2, hp2, rfl⟩ := List.mem_map.mp he2
          exact ⟨p2.2, p2.1, rfl, R.are p2 hp2⟩
        · refine wp_if_neg (by decide) ?_
          try refine wpAny_bind (wpAny_pure ?_)
          exact on_
    · have met : tb.probe H (thash P w k) (st.getD (tb.probeStart (thash P w k))) = some (.empty (way tb.mask (thash P w k) K) none) := by
        have e2 := onj (K - c)
        rw [Nat.add_sub_cancel' hc] at e2
        rw [hst, ← e2]
        exact hpr
      rw [met]
      dsimp only
      refine wpAny_pure (no fun hm => ?_)
      obtain ⟨p0, h0, hk0⟩ := List.mem_map.mp hm
      obtain ⟨i0, hi0, e0⟩ := List.getElem_of_mem h0
      have h00 : L[i0]? = some p0 := by rw [List.getElem?_eq_getElem hi0, e0]
      obtain ⟨c', a1, a2, a3⟩ := hre i0 p0 h00 hk0
      exact hno (c' - c) i0 (by omega) (by rw [onj, Nat.add_sub_cancel' a1]; exact a3) ((hH i0 p0 h00).trans (congrArg (thash P w) hk0))
theorem SetB.look (R : SetB P w s.heap ad L en ep tb) {x : Addr} {k : List Int} (hx : L2.IsT P w s.heap k x) (hu : A.units < cLine) {Q : SetFound → Shared → Prop}
    (yes : k ∈ L.map (·.2) → Q (.there none) s)
    (no : ∀ K, k ∉ L.map (·.2) → way tb.mask (thash P w k) K ∉ tb.place.toList → (∀ c, c < K → way tb.mask (thash P w k) c ∈ tb.place.toList) → Q (.free (way tb.mask (thash P w k) K) false) s) :
    wpAny (model P w) A (setSearch ad (.ref x) (thash P w k) true) Q E s := by
  have g := R.gap
  obtain ⟨K, h1, h2, h3⟩ := R.tab.gap (by rw [List.length_map]; omega) (thash P w k)
  have big : K < 100000 := by
    have : SetTable.turns tb.mask = tb.mask + 15 := rfl
    have := R.msk
    omega
  unfold setSearch
  refine R.seek hx hu h1 h2 h3 yes (fun z => no K z h2 h3) 100000 0 none rfl K.zero_le (by omega) fun i p hp hk => ?_
  have hi : (L.map fun p => thash P w p.2)[i]? = some (thash P w k) := by simp [hp, hk]
  have hil : i < tb.place.toList.length := by
    rw [R.tab.num, List.length_map]
    exact (List.getElem?_eq_some_iff.mp hp).1
  obtain ⟨c, hc, e⟩ := R.tab.ahead h2 hi (List.getElem?_eq_getElem hil)
  exact ⟨c, c.zero_le, hc, by rw [e]; exact List.getElem?_eq_getElem hil⟩
/-- laid anew, larger -/
theorem relay_B {o : Obj} (ho : s.heap.get? ad = some o) (hex : o.ExactSet) (hd : o.data = .set en ep tb) (hr : en.toList = rowsOf P w L) (hn : tb.place.size = en.size) (hdm : tb.dummies = #[]) (hfl : en.size ≤ tb.mask)
    (nd : (L.map (·.2)).Nodup) (are : ∀ p ∈ L, L2.IsT P w s.heap p.2 p.1) (pl : tb.plain = true) (ld : w.params.followText "set-order" = true ∨ tb.led = true) (few : L.length < 300) {wanted M : Nat}
    (hw : SetTable.sizeAbove wanted - 1 = M) (hM : Full M) (hM2 : M = 7 ∨ M = 31 ∨ M = 127 ∨ M = 511) (hw2 : SetTable.sizeAbove wanted ≤ 512) (hg : L.length * 5 < M * 3) {Q : Unit → Shared → Prop}
    (hQ : ∀ h' L' en' ep' tb', Heap.SameBut ad s.heap h' → SetB P w h' ad L' en' ep' tb' → L'.Perm L → Q () { s with heap := h' }) : wpAny (model P w) A (setRelay ad wanted) Q E s := by
  have hsl : en.size = L.length := by simpa [rowsOf] using congrArg List.length hr
  have hfit : tb.fits en.size = true := by
    simp only [SetTable.fits, SetTable.fill, hdm, Bool.and_eq_true, beq_iff_eq, decide_eq_true_eq, Array.size_empty]
    omega
  obtain ⟨tb', order, e, hp, T, em, el, epl⟩ := laid_anew tb (hs := en.map (·.1)) hw hM (by omega) (by rw [Array.size_map]; omega)
  rw [Array.size_map, hsl] at hp
  obtain ⟨L2, r1, r2, r3⟩ := order_rows L en order hr hp
  rw [← r3] at T
  have hs2 : (order.filterMap (en[·]?)).size = en.size := by
    have := congrArg List.length r1
    simp only [rowsOf, List.length_map, r2.length_eq, Array.length_toList] at this
    omega
  have hline : (1000 : Nat) ≤ sizeLine := by rw [sizeLine_eq]; omega
  rw [setRelay_eq]
  refine wpAny_bind (wpAny_setState_of ho hd hfit ?_)
  dsimp only
  refine wp_if_neg (by omega) ?_
  try refine wpAny_bind (wpAny_pure ?_)
  rw [e]
  dsimp only
  refine wpAny_bind ?_
  refine wp_if_neg (by simp [hs2]) ?_
  try refine wpAny_bind (wpAny_pure ?_)
  refine wpAny_pure ?_
  dsimp only
  refine wpAny_storeSet_of ho hd ?_ (by omega)
  have sb : Heap.SameBut ad s.heap (s.heap.update ad (Obj.putSet (order.filterMap (en[·]?)) tb')) := Heap.SameBut.update ..
  exact hQ _ L2 _ (ep + 1) tb' sb ⟨⟨_, store_at ho hd, ⟨hex.1, hex.2.1, hex.2.2⟩, rfl⟩, r1, T, by rw [em]; exact hM2, (r2.map (·.2)).nodup_iff.mpr nd, fun p k => isT_same (are p (r2.mem_iff.mp k)) ho hd sb,
    by rw [epl]; exact pl, by rw [el]; exact ld, by rw [r2.length_eq, em]; exact hg, by rw [r2.length_eq]; exact few⟩ r2
theorem size_308 : SetTable.sizeAbove (SetTable.grown 77) = 512 := by decide +kernel
/-- one more -/
theorem SetB.put (R : SetB P w s.heap ad L en ep tb) {x : Addr} {k : List Int} (hx : L2.IsT P w s.heap k x) (hu : A.units < cLine) (few : L.length + 1 < 300) {Q : Bool → Shared → Prop}
    (hQ : ∀ b h' L' en' ep' tb', Heap.SameBut ad s.heap h' → SetB P w h' ad L' en' ep' tb' → (k ∈ L.map (·.2) → L' = L) → (k ∉ L.map (·.2) → L'.Perm ((x, k) :: L)) → Q b { s with heap := h' }) :
    wpAny (model P w) A (setAddHashed ad (.ref x) (thash P w k)) Q E s := by
  obtain ⟨o, ho, hex, hd⟩ := R.obj
  have hlen := R.len
  have hgap := R.gap
  have hline : (1000 : Nat) ≤ sizeLine := by rw [sizeLine_eq]; omega
  unfold setAddHashed
  refine wpAny_holding ?_
  rw [show (100000 : Nat) = 99999 + 1 from rfl, setAddHashedIn_succ]
  refine wpAny_bind (wpAny_setState_of ho hd R.fit ?_)
  dsimp only
  refine wp_if_neg (by simp [byScan, Value.scannable]) ?_
  try refine wpAny_bind (wpAny_pure ?_)
  refine wpAny_bind (R.look hx hu (fun hm => ?_) fun K hm hK hb => ?_)
  · exact wpAny_pure (hQ false s.heap L en ep tb (Heap.SameBut.refl ad s.heap) R (fun _ => rfl) fun z => absurd hm z)
  · dsimp only
    refine wpAny_bind (wpAny_setState_of ho hd R.fit ?_)
    dsimp only
    obtain ⟨q1, q2, q3, q4, q5, q6, q7⟩ := R.tab.add hK hb
    have pl1 : (tb.put (way tb.mask (thash P w k) K)).1.plain = true := q6.trans R.pln
    generalize hpt : tb.put (way tb.mask (thash P w k) K) = pt at q1 q3 q4 q5 q6 q7 pl1 ⊢
    obtain ⟨tb1, pos⟩ := pt
    dsimp only at q1 q3 q4 q5 q6 q7 pl1 ⊢
    subst q1
    first
      | (refine wpAny_bind ?_; refine wp_if_pos pl1 ?_; refine hashBy_tup hx ?_)
      | refine wp_if_pos pl1 (wpAny_bind (hashBy_tup hx ?_))
    simp only [if_true]
    have rows1 : (SetTable.insertAt en (SetTable.below tb.place (way tb.mask (thash P w k) K)) (thash P w k, Value.ref x)).toList = rowsOf P w (L.take (SetTable.below tb.place (way tb.mask (thash P w k) K)) ++ (x, k) :: L.drop (SetTable.below tb.place (way tb.mask (thash P w k) K))) := by
      rw [SetTable.toList_insertAt, rows_put, R.row]
    generalize SetTable.below tb.place (way tb.mask (thash P w k) K) = pos at q2 q3 rows1 ⊢
    have pm : (L.take pos ++ (x, k) :: L.drop pos).Perm ((x, k) :: L) := put_perm L pos (x, k)
    have hl1 := pm.length_eq
    rw [List.length_cons] at hl1
    have hh1 : (L.map fun p => thash P w p.2).take pos ++ thash P w k :: (L.map fun p => thash P w p.2).drop pos = (L.take pos ++ (x, k) :: L.drop pos).map fun p => thash P w p.2 := by simp [List.map_take, List.map_drop]
    rw [hh1] at q3
    have nd1 : ((L.take pos ++ (x, k) :: L.drop pos).map (·.2)).Nodup := (pm.map (·.2)).nodup_iff.mpr (List.nodup_cons.mpr ⟨hm, R.one⟩)
    have hn1 : (SetTable.insertAt en pos (thash P w k, Value.ref x)).size = L.length + 1 := by
      have := congrArg List.length rows1
      simp only [rowsOf, List.length_map, Array.length_toList] at this
      omega
    generalize SetTable.insertAt en pos (thash P w k, Value.ref x) = en1 at rows1 hn1 ⊢
    generalize L.take pos ++ (x, k) :: L.drop pos = L1 at pm hl1 q3 nd1 rows1
    refine wpAny_bind (wpAny_storeSet_of ho hd ?_ (by omega))
    have sb : Heap.SameBut ad s.heap (s.heap.update ad (Obj.putSet en1 tb1)) := Heap.SameBut.update ..
    have ho1 := store_at (es' := en1) (t' := tb1) ho hd
    generalize s.heap.update ad (Obj.putSet en1 tb1) = h1 at sb ho1 ⊢
    have are1 : ∀ p ∈ L1, L2.IsT P w h1 p.2 p.1 := fun p hp => by
      rcases List.mem_cons.mp (pm.mem_iff.mp hp) with rfl | hp
      · exact isT_same hx ho hd sb
      · exact isT_same (R.are p hp) ho hd sb
    have ld1 : w.params.followText "set-order" = true ∨ tb1.led = true := by rw [q5]; exact R.see
    have hnum : tb1.place.size = L.length + 1 := by have := q3.num; simpa [hl1] using this
    rw [List.length_map] at q7
    by_cases hf : tb1.tooFull = true
    · first
        | (refine wpAny_bind ?_; refine wp_if_pos (by simp [hf]) ?_)
        | (refine wp_if_pos (by simp [hf]) ?_; refine wpAny_bind ?_)
      have full : (L.length + 1) * 5 ≥ tb1.mask * 3 := by
        have := hf
        simp only [SetTable.tooFull, decide_eq_true_eq, q7] at this
        exact this
      rw [hlen]
      have go : ∀ M, SetTable.sizeAbove (SetTable.grown (L.length + 1)) - 1 = M → Full M → (M = 7 ∨ M = 31 ∨ M = 127 ∨ M = 511) → SetTable.sizeAbove (SetTable.grown (L.length + 1)) ≤ 512 → (L.length + 1) * 5 < M * 3 →
          wpAny (model P w) A (setRelay ad (SetTable.grown (L.length + 1))) (fun _ s' => wpAny (model P w) A (pure true) Q E s') E { s with heap := h1 } := fun M a1 a2 a3 a4 a5 => by
        refine relay_B (s := { s with heap := h1 }) ho1 ⟨hex.1, hex.2.1, hex.2.2⟩ rfl rows1 (by rw [hnum, hn1]) q3.dum (by rw [hn1, q4]; have := R.msk; omega) nd1 are1 pl1 ld1 (by omega) a1 a2 a3 a4 (by rw [hl1]; exact a5) ?_
        intro h2 L2 en2 ep2 tb2 sb2 R2 pm2
        exact wpAny_pure (hQ true h2 L2 en2 ep2 tb2 (sb.trans sb2) R2 (fun z => absurd z hm) fun _ => pm2.trans pm)
      have cs : L.length = 4 ∨ L.length = 18 ∨ L.length = 76 := by
        rw [q4] at full
        rcases R.msk with e | e | e | e <;> rw [e] at full hgap <;> omega
      rcases cs with e | e | e
      · refine go 31 (by rw [e, size_20]) (full_of (.inr (.inl rfl))) (.inr (.inl rfl)) (by rw [e, size_20]; decide) (by omega)
      · refine go 127 (by rw [e, size_76]) (full_of (.inr (.inr rfl))) (.inr (.inr (.inl rfl))) (by rw [e, size_76]; decide) (by omega)
      · refine go 511 (by rw [e, size_308]) full511 (.inr (.inr (.inr rfl))) (by rw [e, size_308]; decide) (by omega)
    · have hroom : (L.length + 1) * 5 < tb1.mask * 3 := by
        have := hf
        simp only [SetTable.tooFull, decide_eq_true_eq, q7] at this
        omega
      first
        | refine wp_if_neg (by simp [hf]) ?_
        | (refine wpAny_bind ?_; refine wp_if_neg (by simp [hf]) ?_; refine wpAny_pure ?_)
      exact wpAny_pure (hQ true h1 L1 en1 (ep + 1) tb1 sb ⟨⟨_, ho1, ⟨hex.1, hex.2.1, hex.2.2⟩, rfl⟩, rows1, q3, by rw [q4]; exact R.msk, nd1, are1, pl1, ld1, by rw [hl1]; exact hroom, by omega⟩ (fun z => absurd z hm) fun _ => pm)
end
end DL
set_option maxHeartbeats 4000000
namespace DL
open PySem PySem.Spec PyProof.Rows L2
section
variable {P : Program} {w : World} {A : Around} {E : Value → Shared → Prop} {s : Shared}
theorem SetB.keep {h h' : Heap} {ad : Addr} {L : List (Addr × List Int)} {en : Array (Int × Value)} {ep : Nat} {tb : SetTable} (R : SetB P w h ad L en ep tb) (ha : ∀ o, h.get? ad = some o → h'.get? ad = some o) (ht : ∀ p ∈ L, L2.IsT P w h' p.2 p.1) : SetB P w h' ad L en ep tb := by
  obtain ⟨⟨o, ho, r⟩, row, tab, msk, one, are, pln, see, gap, few⟩ := R
  exact ⟨⟨o, ha o ho, r⟩, row, tab, msk, one, ht, pln, see, gap, few⟩
end
end DL
namespace DL
open PySem PySem.Spec PyProof.Rows L2
/-- data: tuples and lists that stay as they are, by what is in them; lists that change, by their number in the store -/
inductive D where
  | non | bl (b : Bool) | int (i : Int) | str (x : Str) | tup (xs : List D) | lst (xs : List D) | ref (n : Nat)
  /-- the script -/
  | scr (xs : List D)
  /-- a tuple of numbers and texts that was made here: a key -/
  | key (ks : List L2.Key)
  /-- a tuple that was made here and has no attributes of its own: what dict() may walk -/
  | ptup (xs : List D)
inductive Cell where
  | lst (xs : List D)
  /-- a dict whose keys are tuples of numbers and texts -/
  | dct (kvs : List (List L2.Key × D))
  /-- a dict that is locked: a loop walks it -/
  | dlk (kvs : List (List L2.Key × D))
  /-- a dict whose keys are numbers and texts -/
  | dkk (kvs : List (L2.Key × D))
  | dkl (kvs : List (L2.Key × D))
  /-- a dict of states (each value True); the same, locked -/
  | sts (ks : List K3)
  | stl (ks : List K3)
  /-- a dict of tales (each value True) -/
  | tks (ts : List Tl)
  /-- an instance of the class of this name, its attributes -/
  | ins (cn : Str) (fs : List (Str × D))
  /-- a caught exception of the class of this name, its fields -/
  | exn (cn : Str) (ds : List D)
noncomputable abbrev DStore := List Cell
noncomputable abbrev DEnv := List (Option D)
noncomputable abbrev QE := D → DStore → Prop
noncomputable abbrev St := L2.St
section
variable (K : PySem.W.Frag) (H : Hp) (η μ : List Addr)
mutual
inductive RV : D → V → Prop
  | non : RV .non .non
  | bl (b : Bool) : RV (.bl b) (.bl b)
  | int (i : Int) : RV (.int i) (.int i)
  | str (x : Str) : RV (.str x) (.str x)
  | tup {a : Addr} {xs : List V} {ds : List D} : SqT K H a xs → RVs ds xs → RV (.tup ds) (.ref a)
  | lst {a : Addr} {xs : List V} {ds : List D} : a ∉ μ → a ∉ η → H a = some (.lst xs) → RVs ds xs → RV (.lst ds) (.ref a)
  | scr {a : Addr} {xs : List V} {ds : List D} : ((∃ o, H a = some (.frz o (.lst xs))) ∨ ∀ H', SqL K H' a xs) → RVs ds xs → RV (.scr ds) (.ref a)
  | ref {n : Nat} {a : Addr} : μ[n]? = some a → RV (.ref n) (.ref a)
  | key {a : Addr} {ks : List L2.Key} : H a = some (.tup (ks.map kV)) → RV (.key ks) (.ref a)
  | ptup {a : Addr} {o : Obj} {xs : List V} {ds : List D} : H a = some (.frz o (.tup xs)) → o.dict = none → RVs ds xs → RV (.ptup ds) (.ref a)
inductive RVs : List D → List V → Prop
  | nil : RVs [] []
  | cons {d : D} {v : V} {ds : List D} {vs : List V} : RV d v → RVs ds vs → RVs (d :: ds) (v :: vs)
end
end
/-- no table of code objects -/
noncomputable def NT (o : HO) : Prop := ∀ ps, o ≠ .tbl ps
theorem nt_lst {xs : List V} : NT (.lst xs) := fun _ z => nomatch z
theorem nt_dK {xs : List (L2.Key × V)} : NT (.dK xs) := fun _ z => nomatch z
/-- values stay what they are -/
structure Ext (η μ : List Addr) (H : Hp) (η' μ' : List Addr) (H' : Hp) : Prop where
  pre : ∃ more, μ' = μ ++ more
  keep : ∀ a o, NT o → H a = some o → a ∉ μ → a ∉ η → H' a = some o ∧ a ∉ μ' ∧ a ∉ η'
  tup : ∀ a xs, H a = some (.tup xs) → H' a = some (.tup xs)
  frz : ∀ a o u, H a = some (.frz o u) → H' a = some (.frz o u)
/-- what evaluation does: hidden things stay -/
structure Grow (μ : List Addr) (H : Hp) (μ' : List Addr) (H' : Hp) : Prop where
  pre : ∃ more, μ' = μ ++ more
  keep : ∀ a o, NT o → H a = some o → a ∉ μ → H' a = some o ∧ a ∉ μ'
  tup : ∀ a xs, H a = some (.tup xs) → H' a = some (.tup xs)
  frz : ∀ a o u, H a = some (.frz o u) → H' a = some (.frz o u)
section
variable {K : PySem.W.Frag} {H H' H1 H2 : Hp} {η η' η1 η2 μ μ' μ1 μ2 : List Addr}
theorem Grow.refl : Grow μ H μ H := ⟨⟨[], by simp⟩, fun a o _ h n => ⟨h, n⟩, fun _ _ h => h, fun _ _ _ h => h⟩
theorem Grow.trans (a : Grow μ H μ1 H1) (b : Grow μ1 H1 μ2 H2) : Grow μ H μ2 H2 :=
  ⟨by obtain ⟨m, rfl⟩ := a.pre; obtain ⟨n, rfl⟩ := b.pre; exact ⟨m ++ n, by simp⟩,
   fun c o t h n => b.keep c o t (a.keep c o t h n).1 (a.keep c o t h n).2, fun c xs h => b.tup c xs (a.tup c xs h), fun c o u h => b.frz c o u (a.frz c o u h)⟩
theorem Ext.refl : Ext η μ H η μ H := ⟨⟨[], by simp⟩, fun a o _ h n m => ⟨h, n, m⟩, fun _ _ h => h, fun _ _ _ h => h⟩
theorem Ext.trans (a : Ext η μ H η1 μ1 H1) (b : Ext η1 μ1 H1 η2 μ2 H2) : Ext η μ H η2 μ2 H2 :=
  ⟨by obtain ⟨m, rfl⟩ := a.pre; obtain ⟨n, rfl⟩ := b.pre; exact ⟨m ++ n, by simp⟩,
   fun c o t h n m => b.keep c o t (a.keep c o t h n m).1 (a.keep c o t h n m).2.1 (a.keep c o t h n m).2.2, fun c xs h => b.tup c xs (a.tup c xs h), fun c o u h => b.frz c o u (a.frz c o u h)⟩
theorem Grow.ext (g : Grow μ H μ' H') : Ext η μ H η μ' H' :=
  ⟨g.pre, fun a o t h n m => ⟨(g.keep a o t h n).1, (g.keep a o t h n).2, m⟩, g.tup, g.frz⟩
theorem SqT.ext (e : Ext η μ H η' μ' H') {a : Addr} {xs : List V} (h : SqT K H a xs) : SqT K H' a xs := by
  rcases h with (h | ⟨o, h⟩) | h
  · exact .inl (.inl (e.tup _ _ h))
  · exact .inl (.inr ⟨o, e.frz _ _ _ h⟩)
  · exact .inr h
mutual
theorem RV.ext (e : Ext η μ H η' μ' H') : ∀ {d : D} {v : V}, RV K H η μ d v → RV K H' η' μ' d v
  | _, _, .non => .non
  | _, _, .bl b => .bl b
  | _, _, .int i => .int i
  | _, _, .str x => .str x
  | _, _, .tup h r => .tup (SqT.ext e h) (RVs.ext e r)
  | _, _, .lst hm hn h r => .lst (e.keep _ _ nt_lst h hm hn).2.1 (e.keep _ _ nt_lst h hm hn).2.2 (e.keep _ _ nt_lst h hm hn).1 (RVs.ext e r)
  | _, _, .scr h r => .scr (h.imp (fun ⟨o, z⟩ => ⟨o, e.frz _ _ _ z⟩) id) (RVs.ext e r)
  | _, _, .ref h => .ref (by
      obtain ⟨m, rfl⟩ := e.pre
      rw [List.getElem?_append_left (List.getElem?_eq_some_iff.mp h).1]; exact h)
  | _, _, .key h => .key (e.tup _ _ h)
  | _, _, .ptup h h2 r => .ptup (e.frz _ _ _ h) h2 (RVs.ext e r)
theorem RVs.ext (e : Ext η μ H η' μ' H') : ∀ {ds : List D} {vs : List V}, RVs K H η μ ds vs → RVs K H' η' μ' ds vs
  | _, _, .nil => .nil
  | _, _, .cons h r => .cons (RV.ext e h) (RVs.ext e r)
end
theorem RVs.length : ∀ {ds : List D} {vs : List V}, RVs K H η μ ds vs → ds.length = vs.length
  | _, _, .nil => rfl
  | _, _, .cons _ r => by simp [RVs.length r]
theorem RVs.get : ∀ {ds : List D} {vs : List V} {i : Nat} {d : D}, RVs K H η μ ds vs → ds[i]? = some d → ∃ v, vs[i]? = some v ∧ RV K H η μ d v
  | _, _, _, _, .nil, e => by simp at e
  | _, _, 0, _, .cons r _, e => by simp at e; subst e; exact ⟨_, rfl, r⟩
  | _, _, i + 1, d, .cons _ t, e => by
    obtain ⟨v, h1, h2⟩ := RVs.get (i := i) (d := d) t (by simpa using e)
    exact ⟨v, by simpa using h1, h2⟩
theorem RVs.append : ∀ {ds es : List D} {vs ws : List V}, RVs K H η μ ds vs → RVs K H η μ es ws → RVs K H η μ (ds ++ es) (vs ++ ws)
  | _, _, _, _, .nil, s => s
  | _, _, _, _, .cons r t, s => .cons r (RVs.append t s)
theorem RVs.set {d : D} {v : V} (r : RV K H η μ d v) : ∀ {ds : List D} {vs : List V} (i : Nat), RVs K H η μ ds vs → RVs K H η μ (ds.set i d) (vs.set i v)
  | _, _, _, .nil => .nil
  | _, _, 0, .cons _ t => .cons r t
  | _, _, i + 1, .cons q t => .cons q (RVs.set r i t)
theorem RVs.take : ∀ {ds : List D} {vs : List V} (n : Nat), RVs K H η μ ds vs → RVs K H η μ (ds.take n) (vs.take n)
  | _, _, 0, _ => by simpa using .nil
  | _, _, _ + 1, .nil => .nil
  | _, _, n + 1, .cons r t => .cons r (RVs.take n t)
theorem RVs.drop : ∀ {ds : List D} {vs : List V} (n : Nat), RVs K H η μ ds vs → RVs K H η μ (ds.drop n) (vs.drop n)
  | _, _, 0, r => r
  | _, _, _ + 1, .nil => .nil
  | _, _, n + 1, .cons _ t => RVs.drop n t
/-- the environment -/
structure RE (K : PySem.W.Frag) (H : Hp) (η μ : List Addr) (ρ : DEnv) (σ : St) : Prop where
  len : ρ.length = σ.length
  get : ∀ (i : Nat) (d : D), ρ[i]? = some (some d) → ∃ v, σ[i]? = some (some v) ∧ RV K H η μ d v
theorem RE.ext (e : Ext η μ H η' μ' H') {ρ : DEnv} {σ : St} (r : RE K H η μ ρ σ) : RE K H' η' μ' ρ σ :=
  ⟨r.len, fun i d h => let ⟨v, a, b⟩ := r.get i d h; ⟨v, a, b.ext e⟩⟩
theorem RE.set {ρ : DEnv} {σ : St} (r : RE K H η μ ρ σ) {d : D} {v : V} (h : RV K H η μ d v) (i : Nat) : RE K H η μ (ρ.set i (some d)) (σ.set i (some v)) := by
  refine ⟨by simp [r.len], fun j e q => ?_⟩
  by_cases hj : i = j
  · subst hj
    have hl : i < ρ.length := by
      have := (List.getElem?_eq_some_iff.mp q).1
      simpa using this
    rw [List.getElem?_set_self hl] at q
    cases q
    exact ⟨v, by rw [List.getElem?_set_self (by rw [← r.len]; exact hl)], h⟩
  · rw [List.getElem?_set_ne hj] at q ⊢
    exact r.get j e q
theorem RE.del {ρ : DEnv} {σ : St} (r : RE K H η μ ρ σ) (i : Nat) : RE K H η μ (ρ.set i none) (σ.set i none) := by
  refine ⟨by simp [r.len], fun j e q => ?_⟩
  by_cases hj : i = j
  · subst hj
    have hl : i < ρ.length := by
      have := (List.getElem?_eq_some_iff.mp q).1
      simpa using this
    rw [List.getElem?_set_self hl] at q
    cases q
  · rw [List.getElem?_set_ne hj] at q ⊢
    exact r.get j e q
/-- the pairs of a dict -/
inductive RKs {κ : Type} (K : PySem.W.Frag) (H : Hp) (η μ : List Addr) : List (κ × D) → List (κ × V) → Prop
  | nil : RKs K H η μ [] []
  | cons {k : κ} {d : D} {v : V} {ds : List (κ × D)} {vs : List (κ × V)} : RV K H η μ d v → RKs K H η μ ds vs → RKs K H η μ ((k, d) :: ds) ((k, v) :: vs)
theorem RKs.ext {κ : Type} (e : Ext η μ H η' μ' H') : ∀ {ds : List (κ × D)} {vs : List (κ × V)}, RKs K H η μ ds vs → RKs K H' η' μ' ds vs
  | _, _, .nil => .nil
  | _, _, .cons h r => .cons (h.ext e) (RKs.ext e r)
theorem Ks3.ext (e : Ext η μ H η' μ' H') {xs : List (K3 × Addr)} (h : Ks3 K H xs) : Ks3 K H' xs := fun x hx => SqT.ext e (h x hx)
theorem TlV.ext (e : Ext η μ H η' μ' H') {b : Addr} {t : Tl} (h : TlV K H b t) : TlV K H' b t := by
  obtain ⟨qs, h1, h2⟩ := h
  refine ⟨qs, SqT.ext e h1, ?_⟩
  clear h1
  induction h2 with
  | nil => exact .nil
  | cons a _ ih => exact .cons (SqT.ext e a) ih
theorem KsT.ext (e : Ext η μ H η' μ' H') {xs : List (Tl × Addr)} (h : KsT K H xs) : KsT K H' xs := fun x hx => (h x hx).ext e
/-- the fields of an exception's class -/
noncomputable def xfld (c : Str) : List Str := if c = "NoPlan" then ["leg"] else if c = "NoRead" then ["wheel"] else if c = "NoTale" then ["end"] else if c = "NoText" then ["row"] else if c = "NoLine" then ["line"] else if c = "NoWheel" then ["wheel"] else if c = "NoBeat" then ["when"] else []
noncomputable def xnm : List Str := ["NoPlan", "NoRead", "NoText", "NoLine", "NoTale", "NoWay", "NoWheel", "NoBeat", "Done"]
/-- isinstance of an exception of the class c: the names of classes that say yes -/
noncomputable def isX (c x : Str) : Bool := x == c || ((["NoText", "NoLine", "NoPlan", "NoRead"] : List Str).contains c && (x == ("NotSuch" : Str) || x == ("ValueError" : Str))) || ((["NoTale", "NoWay", "NoWheel", "NoBeat", "Done"] : List Str).contains c && (x == ("Lost" : Str) || x == ("LookupError" : Str)))
/-- at a: an exception of the class at C that was caught, its dict (none | at d) -/
noncomputable def exk (a C : Addr) (d : Option Addr) : HO := .ext fun h => ∃ (oe : Obj) (vs : Array Value), h.get? a = some oe ∧ Zc (.ref C) d oe ∧ oe.data = .fields vs
/-- how the fields of a caught exception stand -/
noncomputable def XFk (c : Str) (vs : List V) (d : Option Addr) (H : Hp) (η μ : List Addr) : Prop := (xfld c = [] ∧ vs = [] ∧ d = none) ∨ ∃ f v dx, xfld c = [f] ∧ vs = [v] ∧ d = some dx ∧ H dx = some (.xd [(f, v)]) ∧ dx ∉ μ ∧ dx ∉ η
theorem XFk.ext (e : Ext η μ H η' μ' H') {c : Str} {vs : List V} {d : Option Addr} (h : XFk c vs d H η μ) : XFk c vs d H' η' μ' := by
  rcases h with h | ⟨f, v, dx, h1, h2, h3, h4, h5, h6⟩
  · exact .inl h
  · obtain ⟨k1, k2, k3⟩ := e.keep dx (.xd [(f, v)]) (fun ps z => by cases z) h4 h5 h6
    exact .inr ⟨f, v, dx, h1, h2, h3, k1, k2, k3⟩
noncomputable def COk (K : PySem.W.Frag) (H : Hp) (η μ : List Addr) : Cell → Option HO → Addr → Prop
  | .lst ds, o, _ => ∃ vs, o = some (.lst vs) ∧ RVs K H η μ ds vs
  | .dct ds, o, _ => ∃ vs, o = some (.dT vs) ∧ RKs K H η μ ds vs
  | .dlk ds, o, _ => ∃ ob vs, o = some (.frz ob (.dT vs)) ∧ RKs K H η μ ds vs
  | .dkk ds, o, _ => ∃ vs, o = some (.dK vs) ∧ RKs K H η μ ds vs
  | .dkl ds, o, _ => ∃ ob vs, o = some (.frz ob (.dK vs)) ∧ RKs K H η μ ds vs
  | .sts ks, o, a => ∃ xs, o = some (StD a xs) ∧ xs.map (·.1) = ks ∧ Ks3 K H xs
  | .stl ks, o, a => ∃ ob xs, o = some (.frz ob (StD a xs)) ∧ xs.map (·.1) = ks ∧ Ks3 K H xs
  | .tks ts, o, a => ∃ xs, o = some (TlD a xs) ∧ (∀ t, t ∈ ts ↔ t ∈ xs.map (·.1)) ∧ KsT K H xs
  | .ins cn fs, o, _ => ∃ C dx vs, PySem.W.nsIn K mainGlobals cn = some (some (.ref C)) ∧ o = some (.ins C dx vs) ∧ RKs K H η μ fs vs
  | .exn cn ds, o, a => ∃ C d vs, PySem.W.nsIn K mainGlobals cn = some (some (.ref C)) ∧ o = some (exk a C d) ∧ RVs K H η μ ds vs ∧ cn ∈ xnm ∧ XFk cn vs d H η μ
theorem COk.ext (e : Ext η μ H η' μ' H') {c : Cell} {o : Option HO} {a : Addr} (h : COk K H η μ c o a) : COk K H' η' μ' c o a := by
  cases c with
  | lst ds => obtain ⟨vs, a, b⟩ := h; exact ⟨vs, a, b.ext e⟩
  | dct ds => obtain ⟨vs, a, b⟩ := h; exact ⟨vs, a, b.ext e⟩
  | dlk ds => obtain ⟨ob, vs, a, b⟩ := h; exact ⟨ob, vs, a, b.ext e⟩
  | dkk ds => obtain ⟨vs, a, b⟩ := h; exact ⟨vs, a, b.ext e⟩
  | dkl ds => obtain ⟨ob, vs, a, b⟩ := h; exact ⟨ob, vs, a, b.ext e⟩
  | sts ks => obtain ⟨xs, a, b, c⟩ := h; exact ⟨xs, a, b, c.ext e⟩
  | stl ks => obtain ⟨ob, xs, a, b, c⟩ := h; exact ⟨ob, xs, a, b, c.ext e⟩
  | tks ks => obtain ⟨xs, a, b, c⟩ := h; exact ⟨xs, a, b, c.ext e⟩
  | ins cn fs => obtain ⟨C, dx, vs, a, b, c⟩ := h; exact ⟨C, dx, vs, a, b, c.ext e⟩
  | exn cn ds => obtain ⟨C, d, vs, a, b, c, m, x⟩ := h; exact ⟨C, d, vs, a, b, c.ext e, m, x.ext e⟩
theorem COk.isSome {c : Cell} {o : Option HO} {a : Addr} (h : COk K H η μ c o a) : o ≠ none := by
  cases c with
  | lst ds => obtain ⟨vs, rfl, b⟩ := h; exact fun z => nomatch z
  | dct ds => obtain ⟨vs, rfl, b⟩ := h; exact fun z => nomatch z
  | dlk ds => obtain ⟨ob, vs, rfl, b⟩ := h; exact fun z => nomatch z
  | dkk ds => obtain ⟨vs, rfl, b⟩ := h; exact fun z => nomatch z
  | dkl ds => obtain ⟨ob, vs, rfl, b⟩ := h; exact fun z => nomatch z
  | sts ks => obtain ⟨xs, rfl, b⟩ := h; exact fun z => nomatch z
  | stl ks => obtain ⟨ob, xs, rfl, b⟩ := h; exact fun z => nomatch z
  | tks ks => obtain ⟨xs, rfl, b⟩ := h; exact fun z => nomatch z
  | ins cn fs => obtain ⟨C, dx, vs, _, rfl, b⟩ := h; exact fun z => nomatch z
  | exn cn ds => obtain ⟨C, d, vs, _, rfl, b⟩ := h; exact fun z => nomatch z
theorem COk.notTup {c : Cell} {xs : List V} {a : Addr} (h : COk K H η μ c (some (.tup xs)) a) : False := by
  cases c with
  | lst ds => obtain ⟨vs, e, b⟩ := h; cases e
  | dct ds => obtain ⟨vs, e, b⟩ := h; cases e
  | dlk ds => obtain ⟨ob, vs, e, b⟩ := h; cases e
  | dkk ds => obtain ⟨vs, e, b⟩ := h; cases e
  | dkl ds => obtain ⟨ob, vs, e, b⟩ := h; cases e
  | sts ks => obtain ⟨xs, e, b⟩ := h; cases e
  | stl ks => obtain ⟨ob, xs, e, b⟩ := h; cases e
  | tks ks => obtain ⟨xs, e, b⟩ := h; cases e
  | ins cn fs => obtain ⟨C, dx, vs, _, e, b⟩ := h; cases e
  | exn cn ds => obtain ⟨C, d, vs, _, e, b⟩ := h; cases e
/-- the tables of code objects that are tracked: the one of the def that makes a lambda -/
noncomputable def lamQ : Str := "next_pace.<locals>.<lambda>"
noncomputable def tbs (K : PySem.W.Frag) : List Addr := match PySem.W.tabIn K "next_pace" with
  | some (_, P) => [P]
  | none => []
/-- a table: each code object in it bears the lambda's name, and is in no cell -/
structure TabX (η μ : List Addr) (H : Hp) (P : Addr) : Prop where
  m : P ∉ μ
  n : P ∉ η
  t : ∃ ps : Array Value, H P = some (.tbl ps) ∧ TriplesOk ps.toList ∧ ∀ (pos : Pos) (cv : Value), codeAmong pos ps.toList = some cv → ∃ c, cv = .ref c ∧ H c = some (LamX.CodeO c lamQ) ∧ c ∉ μ ∧ c ∉ η
/-- whatever is in no cell and not hidden stays so -/
noncomputable def KpX (η μ : List Addr) (H : Hp) (η' μ' : List Addr) (H' : Hp) : Prop := ∀ a o, H a = some o → a ∉ μ → a ∉ η → H' a = some o ∧ a ∉ μ' ∧ a ∉ η'
theorem TabX.of {P : Addr} (t : TabX η μ H P) (k : KpX η μ H η' μ' H') : TabX η' μ' H' P := by
  obtain ⟨m, n, ps, h1, h2, h3⟩ := t
  obtain ⟨k1, k2, k3⟩ := k P _ h1 m n
  refine ⟨k2, k3, ps, k1, h2, fun pos cv hc => ?_⟩
  obtain ⟨c, e, h4, h5, h6⟩ := h3 pos cv hc
  obtain ⟨j1, j2, j3⟩ := k c _ h4 h5 h6
  exact ⟨c, e, j1, j2, j3⟩
structure Rp (K : PySem.W.Frag) (η μ : List Addr) (S : DStore) (H : Hp) : Prop where
  len : μ.length = S.length
  nodup : μ.Nodup
  cell : ∀ (n : Nat) (c : Cell), S[n]? = some c → ∃ a, μ[n]? = some a ∧ COk K H η μ c (H a) a
  hid : ∀ a ∈ η, a ∉ μ ∧ H a ≠ none ∧ (∀ xs, H a ≠ some (.tup xs)) ∧ ∀ o u, H a ≠ some (.frz o u)
  tb : ∀ P ∈ tbs K, TabX η μ H P
theorem Rp.at (r : Rp K η μ S H) {a : Addr} (h : a ∈ μ) : ∃ (n : Nat) (c : Cell), S[n]? = some c ∧ μ[n]? = some a ∧ COk K H η μ c (H a) a := by
  obtain ⟨n, hn, e⟩ := List.getElem_of_mem h
  have hn' : n < S.length := by rw [← r.len]; exact hn
  obtain ⟨b, hb, hc⟩ := r.cell n S[n] (List.getElem?_eq_getElem hn')
  have : b = a := by
    rw [List.getElem?_eq_getElem hn] at hb
    cases hb; exact e
  subst this
  exact ⟨n, S[n], List.getElem?_eq_getElem hn', hb, hc⟩
theorem Rp.fresh {S : DStore} (r : Rp K η μ S H) {p : Addr} (h : H p = none) : p ∉ μ ∧ p ∉ η :=
  ⟨fun z => let ⟨_, _, _, _, c⟩ := r.at z; c.isSome h, fun z => (r.hid p z).2.1 h⟩
theorem grow_new {S : DStore} (r : Rp K η μ S H) {p : Addr} {o : HO} (h : H p = none) : Grow μ H μ (upd H p o) :=
  ⟨⟨[], by simp⟩, fun a u _ e n => ⟨by rw [upd_ne (ne_of_none e h)]; exact e, n⟩, fun a xs e => by rw [upd_ne (ne_of_none e h)]; exact e, fun a u w e => by rw [upd_ne (ne_of_none e h)]; exact e⟩
theorem kx_new {p : Addr} {o : HO} (h : H p = none) : KpX η μ H η μ (upd H p o) := fun a u e n m => ⟨by rw [upd_ne (ne_of_none e h)]; exact e, n, m⟩
theorem kx_cell {p : Addr} {o : HO} (h : H p = none) : KpX η μ H η (μ ++ [p]) (upd H p o) := fun a u e n m => ⟨by rw [upd_ne (ne_of_none e h)]; exact e, fun z => by
    rcases List.mem_append.mp z with z | z
    · exact n z
    · exact ne_of_none e h (by simpa using z), m⟩
theorem kx_set {a : Addr} {o : HO} (hm : a ∈ μ) : KpX η μ H η μ (upd H a o) := fun b u e n m => ⟨by rw [upd_ne (fun z => n (by rw [z]; exact hm))]; exact e, n, m⟩
theorem kx_hide {p : Addr} {o : HO} (h : H p = none) : KpX η μ H (p :: η) μ (upd H p o) := fun a u e n m => ⟨by rw [upd_ne (ne_of_none e h)]; exact e, n, fun z => by
    rcases List.mem_cons.mp z with z | z
    · exact ne_of_none e h z
    · exact m z⟩
theorem kx_hset {p : Addr} {o : HO} : KpX (p :: η) μ H (p :: η) μ (upd H p o) := fun a u e n m => ⟨by rw [upd_ne (fun z => m (by simp [z]))]; exact e, n, m⟩
theorem kx_show {p : Addr} : KpX (p :: η) μ H η μ H := fun a o h n m => ⟨h, n, fun z => m (by simp [z])⟩
theorem kx_showC {p : Addr} : KpX (p :: η) μ H η (μ ++ [p]) H := fun a o h n m => ⟨h, fun z => by
    rcases List.mem_append.mp z with z | z
    · exact n z
    · exact m (by simp at z; simp [z]), fun z => m (by simp [z])⟩
/-- a new thing that is not in the store -/
theorem rp_new {S : DStore} (r : Rp K η μ S H) {p : Addr} {o : HO} (h : H p = none) : Rp K η μ S (upd H p o) := by
  have g := (grow_new (o := o) r h).ext (η := η)
  have f := r.fresh h
  refine ⟨r.len, r.nodup, fun n c e => ?_, fun a ha => ?_, fun P hP => (r.tb P hP).of (kx_new h)⟩
  · obtain ⟨a, ha, hc⟩ := r.cell n c e
    have : a ≠ p := fun z => f.1 (z ▸ List.mem_of_getElem? ha)
    exact ⟨a, ha, by rw [upd_ne this]; exact hc.ext g⟩
  · have : a ≠ p := fun z => f.2 (z ▸ ha)
    rw [upd_ne this]; exact r.hid a ha
theorem rv_new_lst {S : DStore} (r : Rp K η μ S H) {p : Addr} {ds : List D} {vs : List V} (h : H p = none) (q : RVs K H η μ ds vs) : RV K (upd H p (.lst vs)) η μ (.lst ds) (.ref p) :=
  .lst (r.fresh h).1 (r.fresh h).2 upd_same (q.ext (grow_new r h).ext)
theorem rv_new_tup {S : DStore} (r : Rp K η μ S H) {p : Addr} {ds : List D} {vs : List V} (h : H p = none) (q : RVs K H η μ ds vs) : RV K (upd H p (.tup vs)) η μ (.tup ds) (.ref p) :=
  .tup (.inl (.inl upd_same)) (q.ext (grow_new r h).ext)
/-- a new list in the store -/
theorem grow_cell {S : DStore} (r : Rp K η μ S H) {p : Addr} {o : HO} (h : H p = none) : Grow μ H (μ ++ [p]) (upd H p o) :=
  ⟨⟨[p], rfl⟩, fun a u _ e n => ⟨by rw [upd_ne (ne_of_none e h)]; exact e, fun z => by
    rcases List.mem_append.mp z with z | z
    · exact n z
    · exact ne_of_none e h (by simpa using z)⟩, fun a xs e => by rw [upd_ne (ne_of_none e h)]; exact e, fun a u w e => by rw [upd_ne (ne_of_none e h)]; exact e⟩
theorem rp_cellC {S : DStore} (r : Rp K η μ S H) {p : Addr} {o : HO} {c : Cell} (h : H p = none) (q : COk K (upd H p o) η (μ ++ [p]) c (some o) p) : Rp K η (μ ++ [p]) (S ++ [c]) (upd H p o) := by
  have g := (grow_cell (o := o) r h).ext (η := η)
  have f := r.fresh h
  refine ⟨by simp [r.len], ?_, fun n c' e => ?_, fun a ha => ?_, fun P hP => (r.tb P hP).of (kx_cell h)⟩
  · rw [List.nodup_append]
    exact ⟨r.nodup, by simp, fun a ha b hb => by simp at hb; subst hb; exact fun z => f.1 (z ▸ ha)⟩
  · by_cases hn : n < S.length
    · rw [List.getElem?_append_left hn] at e
      obtain ⟨a, ha, hc⟩ := r.cell n c' e
      have : a ≠ p := fun z => f.1 (z ▸ List.mem_of_getElem? ha)
      refine ⟨a, by rw [List.getElem?_append_left (by rw [r.len]; exact hn)]; exact ha, by rw [upd_ne this]; exact hc.ext g⟩
    · have hn' : n = S.length := by
        have := (List.getElem?_eq_some_iff.mp e).1
        simp at this
        omega
      subst hn'
      simp at e
      subst e
      exact ⟨p, by rw [← r.len]; simp, by rw [upd_same]; exact q⟩
  · have : a ≠ p := fun z => f.2 (z ▸ ha)
    have q := r.hid a ha
    rw [upd_ne this]
    exact ⟨fun z => by
      rcases List.mem_append.mp z with z | z
      · exact q.1 z
      · exact this (by simpa using z), q.2⟩
theorem rp_cell {S : DStore} (r : Rp K η μ S H) {p : Addr} {ds : List D} {vs : List V} (h : H p = none) (q : RVs K H η μ ds vs) : Rp K η (μ ++ [p]) (S ++ [.lst ds]) (upd H p (.lst vs)) :=
  rp_cellC r h ⟨vs, rfl, q.ext ((grow_cell (o := .lst vs) r h).ext (η := η))⟩
theorem rp_cellD {S : DStore} (r : Rp K η μ S H) {p : Addr} {ds : List (List L2.Key × D)} {vs : List (List L2.Key × V)} (h : H p = none) (q : RKs K H η μ ds vs) : Rp K η (μ ++ [p]) (S ++ [.dct ds]) (upd H p (.dT vs)) :=
  rp_cellC r h ⟨vs, rfl, q.ext ((grow_cell (o := .dT vs) r h).ext (η := η))⟩
theorem rv_cell {S : DStore} (r : Rp K η μ S H) {p : Addr} {H' : Hp} : RV K H' η (μ ++ [p]) (.ref S.length) (.ref p) := .ref (by rw [← r.len]; simp)
/-- a cell is changed -/
theorem grow_set {S : DStore} (r : Rp K η μ S H) {a : Addr} {n : Nat} {o u0 : HO} (h : μ[n]? = some a) (e0 : H a = some u0) (nf : ∀ o u, u0 ≠ .frz o u := by intro _ _ z; cases z) : Grow μ H μ (upd H a o) := by
  have hm : a ∈ μ := List.mem_of_getElem? h
  obtain ⟨_, c, _, _, hc⟩ := r.at hm
  refine ⟨⟨[], by simp⟩, fun b u _ e n => ⟨?_, n⟩, fun b xs e => ?_, fun b u w e => ?_⟩
  · have ne : b ≠ a := fun z => n (by rw [z]; exact hm)
    rw [upd_ne ne]; exact e
  · rw [upd_ne (fun z => by subst z; rw [e] at hc; exact hc.notTup)]; exact e
  · rw [upd_ne (fun z => by subst z; rw [e0] at e; cases e; exact nf _ _ rfl)]; exact e
/-- a cell holds another thing -/
theorem rp_setC {S : DStore} (r : Rp K η μ S H) {a : Addr} {n : Nat} {c' : Cell} {o : HO} (h : μ[n]? = some a) (g : ∀ c b, b ≠ a → COk K H η μ c (H b) b → COk K (upd H a o) η μ c (H b) b) (q : COk K (upd H a o) η μ c' (some o) a) : Rp K η μ (S.set n c') (upd H a o) := by
  refine ⟨by simp [r.len], r.nodup, fun m c e => ?_, fun b hb => ?_, fun P hP => (r.tb P hP).of (kx_set (List.mem_of_getElem? h))⟩
  · by_cases hm : n = m
    · subst hm
      have hl : n < S.length := by
        have := (List.getElem?_eq_some_iff.mp e).1
        simpa using this
      rw [List.getElem?_set_self hl] at e
      cases e
      exact ⟨a, h, by rw [upd_same]; exact q⟩
    · rw [List.getElem?_set_ne hm] at e
      obtain ⟨b, hb, hc⟩ := r.cell m c e
      have : b ≠ a := fun z => by
        subst z
        exact hm ((List.getElem?_inj (List.getElem?_eq_some_iff.mp h).1 r.nodup).mp (h.trans hb.symm))
      exact ⟨b, hb, by rw [upd_ne this]; exact g c b this hc⟩
  · have : b ≠ a := fun z => (r.hid b hb).1 (z ▸ List.mem_of_getElem? h)
    rw [upd_ne this]; exact r.hid b hb
theorem rp_set {S : DStore} (r : Rp K η μ S H) {a : Addr} {n : Nat} {ds : List D} {vs : List V} {u0 : HO} (h : μ[n]? = some a) (e0 : H a = some u0) (q : RVs K H η μ ds vs) (nf : ∀ o u, u0 ≠ .frz o u := by intro _ _ z; cases z) : Rp K η μ (S.set n (.lst ds)) (upd H a (.lst vs)) := by
  have g := (grow_set (o := .lst vs) r h e0 nf).ext (η := η)
  exact rp_setC r h (fun c b _ hc => hc.ext g) ⟨vs, rfl, q.ext g⟩
theorem rp_setD {S : DStore} (r : Rp K η μ S H) {a : Addr} {n : Nat} {ds : List (List L2.Key × D)} {vs : List (List L2.Key × V)} {u0 : HO} (h : μ[n]? = some a) (e0 : H a = some u0) (q : RKs K H η μ ds vs) (nf : ∀ o u, u0 ≠ .frz o u := by intro _ _ z; cases z) : Rp K η μ (S.set n (.dct ds)) (upd H a (.dT vs)) := by
  have g := (grow_set (o := .dT vs) r h e0 nf).ext (η := η)
  exact rp_setC r h (fun c b _ hc => hc.ext g) ⟨vs, rfl, q.ext g⟩
theorem rp_lock {S : DStore} (r : Rp K η μ S H) {a : Addr} {n : Nat} {ds : List (List L2.Key × D)} {vs : List (List L2.Key × V)} {ob : Obj} (h : μ[n]? = some a) (e0 : H a = some (.dT vs)) (q : RKs K H η μ ds vs) : Rp K η μ (S.set n (.dlk ds)) (upd H a (.frz ob (.dT vs))) := by
  have g := (grow_set (o := .frz ob (.dT vs)) r h e0).ext (η := η)
  exact rp_setC r h (fun c b _ hc => hc.ext g) ⟨ob, vs, rfl, q.ext g⟩
theorem rp_setK {S : DStore} (r : Rp K η μ S H) {a : Addr} {n : Nat} {ds : List (L2.Key × D)} {vs : List (L2.Key × V)} {u0 : HO} (h : μ[n]? = some a) (e0 : H a = some u0) (q : RKs K H η μ ds vs) (nf : ∀ o u, u0 ≠ .frz o u := by intro _ _ z; cases z) : Rp K η μ (S.set n (.dkk ds)) (upd H a (.dK vs)) := by
  have g := (grow_set (o := .dK vs) r h e0 nf).ext (η := η)
  exact rp_setC r h (fun c b _ hc => hc.ext g) ⟨vs, rfl, q.ext g⟩
section unlock
variable {a : Addr} {ob : Obj} {u o : HO}
/-- what a lock holds: no tuple, no list -/
structure Lk (u : HO) : Prop where
  t : ∀ xs, u ≠ .tup xs
  l : ∀ xs, u ≠ .lst xs
theorem lkT {vs : List (List L2.Key × V)} : Lk (.dT vs) := ⟨(fun _ z => nomatch z), (fun _ z => nomatch z)⟩
theorem sqt_un {b : Addr} {xs : List V} (lk : Lk u) (e0 : H a = some (.frz ob u)) (h : SqT K H b xs) : SqT K (upd H a o) b xs := by
  rcases h with (h | ⟨o', h⟩) | h
  · exact .inl (.inl (by rw [upd_ne (fun z => by rw [z, e0] at h; cases h)]; exact h))
  · exact .inl (.inr ⟨o', by rw [upd_ne (fun z => by rw [z, e0] at h; cases h; exact lk.t _ rfl)]; exact h⟩)
  · exact .inr h
mutual
theorem RV.un (lk : Lk u) (hm : a ∈ μ) (e0 : H a = some (.frz ob u)) : ∀ {d : D} {v : V}, RV K H η μ d v → RV K (upd H a o) η μ d v
  | _, _, .non => .non
  | _, _, .bl b => .bl b
  | _, _, .int i => .int i
  | _, _, .str x => .str x
  | _, _, .tup h r => .tup (sqt_un lk e0 h) (RVs.un lk hm e0 r)
  | _, _, .lst h1 h2 h r => .lst h1 h2 (by rw [upd_ne (fun z => h1 (by rw [z]; exact hm))]; exact h) (RVs.un lk hm e0 r)
  | _, _, .scr h r => .scr (h.imp (fun ⟨o, z⟩ => ⟨o, by rw [upd_ne (fun y => by rw [y, e0] at z; cases z; exact lk.l _ rfl)]; exact z⟩) id) (RVs.un lk hm e0 r)
  | _, _, .ref h => .ref h
  | _, _, .key h => .key (by rw [upd_ne (fun z => by rw [z, e0] at h; cases h)]; exact h)
  | _, _, .ptup h h2 r => .ptup (by rw [upd_ne (fun z => by rw [z, e0] at h; cases h; exact lk.t _ rfl)]; exact h) h2 (RVs.un lk hm e0 r)
theorem RVs.un (lk : Lk u) (hm : a ∈ μ) (e0 : H a = some (.frz ob u)) : ∀ {ds : List D} {ws : List V}, RVs K H η μ ds ws → RVs K (upd H a o) η μ ds ws
  | _, _, .nil => .nil
  | _, _, .cons h r => .cons (RV.un lk hm e0 h) (RVs.un lk hm e0 r)
end
theorem RKs.un {κ : Type} (lk : Lk u) (hm : a ∈ μ) (e0 : H a = some (.frz ob u)) : ∀ {ds : List (κ × D)} {ws : List (κ × V)}, RKs K H η μ ds ws → RKs K (upd H a o) η μ ds ws
  | _, _, .nil => .nil
  | _, _, .cons h r => .cons (h.un lk hm e0) (RKs.un lk hm e0 r)
theorem tlv_un {b : Addr} {t : Tl} (lk : Lk u) (e0 : H a = some (.frz ob u)) (h : TlV K H b t) : TlV K (upd H a o) b t := by
  obtain ⟨qs, h1, h2⟩ := h
  refine ⟨qs, sqt_un lk e0 h1, ?_⟩
  clear h1
  induction h2 with
  | nil => exact .nil
  | cons a _ ih => exact .cons (sqt_un lk e0 a) ih
theorem COk.un (lk : Lk u) (hm : a ∈ μ) (e0 : H a = some (.frz ob u)) {c : Cell} {x : Option HO} {p : Addr} (h : COk K H η μ c x p) : COk K (upd H a o) η μ c x p := by
  cases c with
  | lst ds => obtain ⟨vs, e, b⟩ := h; exact ⟨vs, e, b.un lk hm e0⟩
  | dct ds => obtain ⟨vs, e, b⟩ := h; exact ⟨vs, e, b.un lk hm e0⟩
  | dlk ds => obtain ⟨ob, vs, e, b⟩ := h; exact ⟨ob, vs, e, b.un lk hm e0⟩
  | dkk ds => obtain ⟨vs, e, b⟩ := h; exact ⟨vs, e, b.un lk hm e0⟩
  | dkl ds => obtain ⟨ob, vs, e, b⟩ := h; exact ⟨ob, vs, e, b.un lk hm e0⟩
  | sts ks => obtain ⟨xs, e, b, c⟩ := h; exact ⟨xs, e, b, fun x hx => sqt_un lk e0 (c x hx)⟩
  | stl ks => obtain ⟨ob, xs, e, b, c⟩ := h; exact ⟨ob, xs, e, b, fun x hx => sqt_un lk e0 (c x hx)⟩
  | tks ks => obtain ⟨xs, e, b, c⟩ := h; exact ⟨xs, e, b, fun x hx => tlv_un lk e0 (c x hx)⟩
  | ins cn fs => obtain ⟨C, dx, vs, x, e, b⟩ := h; exact ⟨C, dx, vs, x, e, b.un lk hm e0⟩
  | exn cn ds =>
    obtain ⟨C, d, vs, x, e, b, m, q⟩ := h
    refine ⟨C, d, vs, x, e, b.un lk hm e0, m, ?_⟩
    rcases q with q | ⟨f, v, dx, h1, h2, h3, h4, h5, h6⟩
    · exact .inl q
    · exact .inr ⟨f, v, dx, h1, h2, h3, by rw [upd_ne (fun z => h5 (by rw [z]; exact hm))]; exact h4, h5, h6⟩
theorem RE.un {ρ : DEnv} {σ : St} (lk : Lk u) (hm : a ∈ μ) (e0 : H a = some (.frz ob u)) (r : RE K H η μ ρ σ) : RE K (upd H a o) η μ ρ σ :=
  ⟨r.len, fun i d h => let ⟨v, x, y⟩ := r.get i d h; ⟨v, x, y.un lk hm e0⟩⟩
theorem rp_unlock {S : DStore} {n : Nat} {ds : List (List L2.Key × D)} {vs : List (List L2.Key × V)} (r : Rp K η μ S H) (h : μ[n]? = some a) (e0 : H a = some (.frz ob (.dT vs))) (q : RKs K H η μ ds vs) : Rp K η μ (S.set n (.dct ds)) (upd H a (.dT vs)) :=
  rp_setC r h (fun c b _ hc => hc.un lkT (List.mem_of_getElem? h) e0) ⟨vs, rfl, q.un lkT (List.mem_of_getElem? h) e0⟩
/-- locked, run, unlocked: as a whole things have grown -/
theorem grow_un {H1 : Hp} {μ1 : List Addr} (lk : Lk u) (nf : ∀ o w, u ≠ .frz o w) (hm : a ∈ μ) (e : H a = some u) (g : Grow μ (upd H a (.frz ob u)) μ1 H1) : Grow μ H μ1 (upd H1 a u) := by
  obtain ⟨more, em⟩ := g.pre
  refine ⟨⟨more, em⟩, fun b x nt eb n => ?_, fun b xs eb => ?_, fun b x w eb => ?_⟩
  · have ne : b ≠ a := fun z => n (by rw [z]; exact hm)
    have := g.keep b x nt (by rw [upd_ne ne]; exact eb) n
    exact ⟨by rw [upd_ne ne]; exact this.1, this.2⟩
  · have ne : b ≠ a := fun z => by rw [z, e] at eb; cases eb; exact lk.t _ rfl
    rw [upd_ne ne]; exact g.tup b xs (by rw [upd_ne ne]; exact eb)
  · have ne : b ≠ a := fun z => by rw [z, e] at eb; cases eb; exact nf _ _ rfl
    rw [upd_ne ne]; exact g.frz b x w (by rw [upd_ne ne]; exact eb)
end unlock
/-- a hidden list -/
theorem ext_hide {S : DStore} (r : Rp K η μ S H) {p : Addr} {o : HO} (h : H p = none) : Ext η μ H (p :: η) μ (upd H p o) :=
  ⟨⟨[], by simp⟩, fun a u _ e n m => ⟨by rw [upd_ne (ne_of_none e h)]; exact e, n, fun z => by
    rcases List.mem_cons.mp z with z | z
    · exact ne_of_none e h z
    · exact m z⟩, fun a xs e => by rw [upd_ne (ne_of_none e h)]; exact e, fun a u w e => by rw [upd_ne (ne_of_none e h)]; exact e⟩
theorem rp_hide {S : DStore} (r : Rp K η μ S H) {p : Addr} {vs : List V} (h : H p = none) : Rp K (p :: η) μ S (upd H p (.lst vs)) := by
  have g := ext_hide (o := .lst vs) r h
  have f := r.fresh h
  refine ⟨r.len, r.nodup, fun n c e => ?_, fun a ha => ?_, fun P hP => (r.tb P hP).of (kx_hide h)⟩
  · obtain ⟨a, ha, hc⟩ := r.cell n c e
    have : a ≠ p := fun z => f.1 (z ▸ List.mem_of_getElem? ha)
    exact ⟨a, ha, by rw [upd_ne this]; exact hc.ext g⟩
  · rcases List.mem_cons.mp ha with rfl | ha
    · rw [upd_same]; exact ⟨f.1, (fun z => nomatch z), (fun _ z => nomatch z), (fun _ _ z => nomatch z)⟩
    · have : a ≠ p := fun z => f.2 (z ▸ ha)
      rw [upd_ne this]; exact r.hid a ha
theorem rp_hideO {S : DStore} {o : HO} (r : Rp K η μ S H) {p : Addr} (nt : ∀ xs, o ≠ .tup xs) (nf : ∀ a u, o ≠ .frz a u) (h : H p = none) : Rp K (p :: η) μ S (upd H p o) := by
  have g := ext_hide (o := o) r h
  have f := r.fresh h
  refine ⟨r.len, r.nodup, fun n c e => ?_, fun a ha => ?_, fun P hP => (r.tb P hP).of (kx_hide h)⟩
  · obtain ⟨a, ha, hc⟩ := r.cell n c e
    have : a ≠ p := fun z => f.1 (z ▸ List.mem_of_getElem? ha)
    exact ⟨a, ha, by rw [upd_ne this]; exact hc.ext g⟩
  · rcases List.mem_cons.mp ha with rfl | ha
    · rw [upd_same]; exact ⟨f.1, (fun z => nomatch z), (fun _ z => nt _ (Option.some.inj z)), (fun _ _ z => nf _ _ (Option.some.inj z))⟩
    · have : a ≠ p := fun z => f.2 (z ▸ ha)
      rw [upd_ne this]; exact r.hid a ha
/-- the hidden list is changed -/
theorem ext_hset {S : DStore} (r : Rp K (p :: η) μ S H) {o : HO} : Ext (p :: η) μ H (p :: η) μ (upd H p o) := by
  have q := r.hid p (by simp)
  refine ⟨⟨[], by simp⟩, fun a u _ e n m => ⟨?_, n, m⟩, fun b xs e => ?_, fun b u w e => ?_⟩
  · rw [upd_ne (fun z => m (by simp [z]))]; exact e
  · rw [upd_ne (fun z => by subst z; exact q.2.2.1 _ e)]; exact e
  · rw [upd_ne (fun z => by subst z; exact q.2.2.2 _ _ e)]; exact e
theorem rp_hset {S : DStore} (r : Rp K (p :: η) μ S H) {vs : List V} : Rp K (p :: η) μ S (upd H p (.lst vs)) := by
  have g := ext_hset (o := .lst vs) r
  have q := r.hid p (by simp)
  refine ⟨r.len, r.nodup, fun n c e => ?_, fun a ha => ?_, fun P hP => (r.tb P hP).of (kx_hset)⟩
  · obtain ⟨a, ha, hc⟩ := r.cell n c e
    have : a ≠ p := fun z => q.1 (z ▸ List.mem_of_getElem? ha)
    exact ⟨a, ha, by rw [upd_ne this]; exact hc.ext g⟩
  · by_cases hp : a = p
    · subst hp; rw [upd_same]; exact ⟨q.1, (fun z => nomatch z), (fun _ z => nomatch z), (fun _ _ z => nomatch z)⟩
    · rw [upd_ne hp]; exact r.hid a ha
theorem rp_hsetO {S : DStore} {o : HO} (nt : ∀ xs, o ≠ .tup xs) (nf : ∀ a u, o ≠ .frz a u) (r : Rp K (p :: η) μ S H) : Rp K (p :: η) μ S (upd H p o) := by
  have g := ext_hset (o := o) r
  have q := r.hid p (by simp)
  refine ⟨r.len, r.nodup, fun n c e => ?_, fun a ha => ?_, fun P hP => (r.tb P hP).of (kx_hset)⟩
  · obtain ⟨a, ha, hc⟩ := r.cell n c e
    have : a ≠ p := fun z => q.1 (z ▸ List.mem_of_getElem? ha)
    exact ⟨a, ha, by rw [upd_ne this]; exact hc.ext g⟩
  · by_cases hp : a = p
    · subst hp; rw [upd_same]; exact ⟨q.1, (fun z => nomatch z), (fun _ z => nt _ (Option.some.inj z)), (fun _ _ z => nf _ _ (Option.some.inj z))⟩
    · rw [upd_ne hp]; exact r.hid a ha
/-- it comes to light -/
theorem ext_show {p : Addr} : Ext (p :: η) μ H η μ H := ⟨⟨[], by simp⟩, fun a o _ h n m => ⟨h, n, fun z => m (by simp [z])⟩, fun _ _ h => h, fun _ _ _ h => h⟩
theorem rp_show {S : DStore} {p : Addr} (r : Rp K (p :: η) μ S H) : Rp K η μ S H :=
  ⟨r.len, r.nodup, fun n c e => let ⟨a, ha, hc⟩ := r.cell n c e; ⟨a, ha, hc.ext ext_show⟩, fun a ha => r.hid a (by simp [ha]), fun P hP => (r.tb P hP).of kx_show⟩
theorem ext_showCell {p : Addr} : Ext (p :: η) μ H η (μ ++ [p]) H := ⟨⟨[p], rfl⟩, fun a o _ h n m => ⟨h, fun z => by
    rcases List.mem_append.mp z with z | z
    · exact n z
    · exact m (by simp at z; simp [z]), fun z => m (by simp [z])⟩, fun _ _ h => h, fun _ _ _ h => h⟩
theorem rp_showCellC {S : DStore} {p : Addr} {c : Cell} {o : HO} (hp : p ∉ η) (r : Rp K (p :: η) μ S H) (h : H p = some o) (q : COk K H η (μ ++ [p]) c (some o) p) : Rp K η (μ ++ [p]) (S ++ [c]) H := by
  have g : Ext (p :: η) μ H η (μ ++ [p]) H := ext_showCell
  have z := r.hid p (by simp)
  refine ⟨by simp [r.len], ?_, fun n c' e => ?_, fun a ha => ?_, fun P hP => (r.tb P hP).of kx_showC⟩
  · rw [List.nodup_append]
    exact ⟨r.nodup, by simp, fun a ha b hb => by simp at hb; subst hb; exact fun y => z.1 (y ▸ ha)⟩
  · by_cases hn : n < S.length
    · rw [List.getElem?_append_left hn] at e
      obtain ⟨a, ha, hc⟩ := r.cell n c' e
      exact ⟨a, by rw [List.getElem?_append_left (by rw [r.len]; exact hn)]; exact ha, hc.ext g⟩
    · have hn' : n = S.length := by
        have := (List.getElem?_eq_some_iff.mp e).1
        simp at this
        omega
      subst hn'
      simp at e
      subst e
      exact ⟨p, by rw [← r.len]; simp, by rw [h]; exact q⟩
  · have y := r.hid a (by simp [ha])
    exact ⟨fun w => by
      rcases List.mem_append.mp w with w | w
      · exact y.1 w
      · simp at w; subst w; exact hp ha, y.2⟩
theorem rp_showCell {S : DStore} {p : Addr} {ds : List D} {vs : List V} (hp : p ∉ η) (r : Rp K (p :: η) μ S H) (h : H p = some (.lst vs)) (q : RVs K H (p :: η) μ ds vs) : Rp K η (μ ++ [p]) (S ++ [.lst ds]) H :=
  rp_showCellC hp r h ⟨vs, rfl, q.ext ext_showCell⟩
theorem rp_showCellK {S : DStore} {p : Addr} {ds : List (L2.Key × D)} {vs : List (L2.Key × V)} (hp : p ∉ η) (r : Rp K (p :: η) μ S H) (h : H p = some (.dK vs)) (q : RKs K H (p :: η) μ ds vs) : Rp K η (μ ++ [p]) (S ++ [.dkk ds]) H :=
  rp_showCellC hp r h ⟨vs, rfl, q.ext ext_showCell⟩
theorem rp_showCell3 {S : DStore} {p : Addr} {xs : List (K3 × Addr)} (hp : p ∉ η) (r : Rp K (p :: η) μ S H) (h : H p = some (StD p xs)) (q : Ks3 K H xs) : Rp K η (μ ++ [p]) (S ++ [.sts (xs.map (·.1))]) H :=
  rp_showCellC hp r h ⟨xs, rfl, rfl, q⟩
theorem std_tup {a : Addr} {xs : List (K3 × Addr)} (ys : List V) : StD a xs ≠ .tup ys := fun z => nomatch z
theorem std_frz {a : Addr} {xs : List (K3 × Addr)} (o : Obj) (u : HO) : StD a xs ≠ .frz o u := fun z => nomatch z
theorem lk3 {a : Addr} {xs : List (K3 × Addr)} : Lk (StD a xs) := ⟨std_tup, fun _ z => nomatch z⟩
theorem rp_new3 {S : DStore} (r : Rp K η μ S H) {p : Addr} (h : H p = none) : Rp K η (μ ++ [p]) (S ++ [.sts []]) (upd H p (StD p [])) :=
  rp_cellC r h ⟨[], rfl, rfl, fun _ z => nomatch z⟩
theorem rp_set3 {S : DStore} (r : Rp K η μ S H) {a : Addr} {n : Nat} {xs ys : List (K3 × Addr)} (h : μ[n]? = some a) (e0 : H a = some (StD a xs)) (q : Ks3 K H ys) : Rp K η μ (S.set n (.sts (ys.map (·.1)))) (upd H a (StD a ys)) := by
  have g := (grow_set (o := StD a ys) r h e0 (std_frz)).ext (η := η)
  exact rp_setC r h (fun c b _ hc => hc.ext g) ⟨ys, rfl, rfl, q.ext g⟩
theorem rp_lock3 {S : DStore} (r : Rp K η μ S H) {a : Addr} {n : Nat} {xs : List (K3 × Addr)} {ob : Obj} (h : μ[n]? = some a) (e0 : H a = some (StD a xs)) (q : Ks3 K H xs) : Rp K η μ (S.set n (.stl (xs.map (·.1)))) (upd H a (.frz ob (StD a xs))) := by
  have g := (grow_set (o := .frz ob (StD a xs)) r h e0 (std_frz)).ext (η := η)
  exact rp_setC r h (fun c b _ hc => hc.ext g) ⟨ob, xs, rfl, rfl, q.ext g⟩
theorem rp_unlock3 {S : DStore} {a : Addr} {n : Nat} {ob : Obj} {xs : List (K3 × Addr)} (r : Rp K η μ S H) (h : μ[n]? = some a) (e0 : H a = some (.frz ob (StD a xs))) (q : Ks3 K H xs) : Rp K η μ (S.set n (.sts (xs.map (·.1)))) (upd H a (StD a xs)) :=
  rp_setC r h (fun c b _ hc => hc.un lk3 (List.mem_of_getElem? h) e0) ⟨xs, rfl, rfl, fun x hx => sqt_un lk3 e0 (q x hx)⟩
/-- attributes, by data -/
noncomputable def putFD (f : Str) (d : D) : List (Str × D) → List (Str × D)
  | [] => [(f, d)]
  | (g, e) :: fs => if g = f then (g, d) :: fs else (g, e) :: putFD f d fs
theorem RKs.putF {f : Str} {d : D} {v : V} (h : RV K H η μ d v) : ∀ {ds : List (Str × D)} {vs : List (Str × V)}, RKs K H η μ ds vs → RKs K H η μ (putFD f d ds) (L2.putF f v vs)
  | _, _, .nil => .cons h .nil
  | _, _, .cons (k := k) a r => by
    unfold putFD L2.putF
    by_cases e : k = f
    · rw [if_pos e, if_pos e]
      exact .cons h r
    · rw [if_neg e, if_neg e]
      exact .cons a (RKs.putF h r)
theorem RKs.look {f : Str} : ∀ {ds : List (Str × D)} {vs : List (Str × V)}, RKs K H η μ ds vs → (∀ d, ds.lookup f = some d → ∃ v, vs.lookup f = some v ∧ RV K H η μ d v) ∧ (ds.lookup f = none → vs.lookup f = none)
  | _, _, .nil => ⟨(fun _ z => nomatch z), fun _ => rfl⟩
  | _, _, .cons (k := k) a r => by
    have ih := RKs.look (f := f) r
    rw [List.lookup_cons, List.lookup_cons]
    cases e : f == k with
    | true => exact ⟨fun d z => by cases z; exact ⟨_, rfl, a⟩, fun z => nomatch z⟩
    | false => exact ih
theorem RKs.len {κ : Type} : ∀ {ds : List (κ × D)} {vs : List (κ × V)}, RKs K H η μ ds vs → ds.length = vs.length
  | _, _, .nil => rfl
  | _, _, .cons _ r => congrArg Nat.succ (RKs.len r)
theorem rp_setI {S : DStore} (r : Rp K η μ S H) {a C dx : Addr} {n : Nat} {cn f : Str} {fs : List (Str × D)} {vs : List (Str × V)} {d : D} {v : V} (h : μ[n]? = some a) (hn : PySem.W.nsIn K mainGlobals cn = some (some (.ref C))) (e0 : H a = some (.ins C dx vs)) (q : RKs K H η μ fs vs)
    (rv : RV K H η μ d v) : Rp K η μ (S.set n (.ins cn (putFD f d fs))) (upd H a (.ins C dx (L2.putF f v vs))) := by
  have g := (grow_set (o := .ins C dx (L2.putF f v vs)) r h e0).ext (η := η)
  exact rp_setC r h (fun c b _ hc => hc.ext g) ⟨C, dx, _, hn, rfl, (q.putF rv).ext g⟩
/-- a new instance: its dict, then itself -/
theorem rp_make {S : DStore} (r : Rp K η μ S H) {x dx C : Addr} {cn : Str} (hn : PySem.W.nsIn K mainGlobals cn = some (some (.ref C))) (hx : H x = none) (hd : H dx = none) (ne : dx ≠ x) :
    Rp K η (μ ++ [x]) (S ++ [.ins cn []]) (upd (upd H dx (.own x)) x (.ins C dx [])) ∧ Grow μ H (μ ++ [x]) (upd (upd H dx (.own x)) x (.ins C dx [])) := by
  have r1 := rp_new (o := .own x) r hd
  have hx1 : upd H dx (.own x) x = none := by rw [upd_ne (Ne.symm ne)]; exact hx
  exact ⟨rp_cellC r1 hx1 ⟨C, dx, [], hn, rfl, .nil⟩, (grow_new r hd).trans (grow_cell r1 hx1)⟩
end
theorem key_ofS {X : Cx} {pins : List (Addr × Obj)} {σ : L2.St} {H : Hp} {s : Shared} {b : Addr} {ks : List L2.Key} (I : Inv X pins σ H s) (h : SqT X.K H b (ks.map kV)) : (tupleKind (mixKind X.prog X.w)).is s.heap ks b := by
  obtain ⟨its, r, ⟨o, e, hc, n, hd⟩, hz⟩ := I.tuple h
  exact ⟨o, its.toArray, n, e, hc, hd, by simpa using items_are r⟩
noncomputable def rIxD (K : PySem.W.Frag) : R2 := fun x y H Q => ∃ (a b : Addr) (kvs : List (List L2.Key × V)) (ks : List L2.Key) (v : V), x = .ref a ∧ y = .ref b ∧ Rd H a (.dT kvs) ∧ SqT K H b (ks.map kV) ∧ valV kvs ks = some v ∧ Q v H
theorem ix_dictS {X : Cx} (hu : X.A.units + 1 < cLine) : IxR X (rIxD X.K) := by
  intro value slice pins s σ H x y v u Q I rx ry h hs
  obtain ⟨a, b, kvs, ks, w, rfl, rfl, e, hb, l, q⟩ := h
  cases rx; cases ry
  obtain ⟨z, hd, xs, rel, dd⟩ := dt_rd I.hok e
  obtain ⟨w', hw, rw'⟩ := RelO.some_of (v := w) (o := (atKey xs ks).map (·.2)) (by rw [← l]; exact rel.val ks)
  obtain ⟨p, hp, hp2⟩ := Option.map_eq_some_iff.mp hw
  refine subscriptTail_builtinR (x := w') dd.typeIs PySem.F.slot_dict_getitem.lookup (wpAny_getItem_heap (Q := fun r s' => r = w' ∧ EP X pins σ Q r s') (tupleKind_room_in1 hu) (key_ofS I hb) dd hp ?_) hs
  rw [hp2]
  exact ⟨rfl, w, H, I.tok _, rw', q⟩
noncomputable def rSetD : V → V → V → Hp → (Hp → Prop) → Prop := fun o i v H Q => ∃ (a b : Addr) (kvs : List (List L2.Key × V)) (ks : List L2.Key), o = .ref a ∧ i = .ref b ∧ H a = some (.dT kvs) ∧ H b = some (.tup (ks.map kV)) ∧ kvs.length < sizeLine ∧ Q (upd H a (.dT (putK kvs ks v)))
theorem set_dictT {X : Cx} (hu : X.A.units + 1 < cLine) : PSet X rSetD := by
  intro pins s σ H o i v ov iv u Q I ro ri rv h
  obtain ⟨a, b, kvs, ks, rfl, rfl, ha, hb, hl, q⟩ := h
  cases ro
  exact d_setItem hu I (.t ha hb hl) ri rv fun s' I' => ⟨_, I', q⟩
noncomputable def keyOf : D → Option L2.Key
  | .int i => some (.inl i)
  | .str x => some (.inr x)
  | _ => none
noncomputable def keysOf : List D → Option (List L2.Key)
  | [] => some []
  | d :: ds => (keyOf d).bind fun k => (keysOf ds).map (k :: ·)
noncomputable def keyD : L2.Key → D
  | .inl i => .int i
  | .inr x => .str x
noncomputable def valD {κ : Type} [DecidableEq κ] (kvs : List (κ × D)) (k : κ) : Option D := (kvs.find? fun kv => decide (kv.1 = k)).map (·.2)
noncomputable def putD {κ : Type} [DecidableEq κ] (kvs : List (κ × D)) (k : κ) (v : D) : List (κ × D) :=
  if (kvs.any fun kv => decide (kv.1 = k)) = true then kvs.map (fun kv => if kv.1 = k then (kv.1, v) else kv) else kvs ++ [(k, v)]
section
variable {K : PySem.W.Frag} {H : Hp} {η μ : List Addr}
theorem keyOf_rv {d : D} {v : V} {k : L2.Key} (r : RV K H η μ d v) (h : keyOf d = some k) : v = kV k := by
  cases r <;> simp only [keyOf, Option.some.injEq, reduceCtorEq] at h <;> subst h <;> rfl
theorem keysOf_rv : ∀ {ds : List D} {vs : List V} {ks : List L2.Key}, RVs K H η μ ds vs → keysOf ds = some ks → vs = ks.map kV
  | _, _, _, .nil, h => by simp only [keysOf, Option.some.injEq] at h; subst h; rfl
  | _, _, ks, .cons r t, h => by
    simp only [keysOf, Option.bind_eq_some_iff, Option.map_eq_some_iff] at h
    obtain ⟨k, h1, ks', h2, rfl⟩ := h
    rw [keyOf_rv r h1, keysOf_rv t h2]; rfl
theorem keyD_rv : ∀ ks : List L2.Key, RVs K H η μ (ks.map keyD) (ks.map kV)
  | [] => .nil
  | .inl i :: ks => .cons (.int i) (keyD_rv ks)
  | .inr x :: ks => .cons (.str x) (keyD_rv ks)
section
variable {κ : Type} [DecidableEq κ]
theorem RKs.length : ∀ {ds : List (κ × D)} {vs : List (κ × V)}, RKs K H η μ ds vs → ds.length = vs.length
  | _, _, .nil => rfl
  | _, _, .cons _ r => by simp [RKs.length r]
theorem RKs.keys : ∀ {ds : List (κ × D)} {vs : List (κ × V)}, RKs K H η μ ds vs → ds.map (·.1) = vs.map (·.1)
  | _, _, .nil => rfl
  | _, _, .cons _ r => by simp [RKs.keys r]
theorem RKs.get : ∀ {ds : List (κ × D)} {vs : List (κ × V)} {i : Nat} {k : κ} {v : V}, RKs K H η μ ds vs → vs[i]? = some (k, v) → ∃ d, ds[i]? = some (k, d) ∧ RV K H η μ d v
  | _, _, _, _, _, .nil, e => by simp at e
  | _, _, 0, _, _, .cons r _, e => by simp at e; obtain ⟨rfl, rfl⟩ := e; exact ⟨_, rfl, r⟩
  | _, _, i + 1, k, v, .cons _ t, e => by
    obtain ⟨d, h1, h2⟩ := RKs.get (i := i) (k := k) (v := v) t (by simpa using e)
    exact ⟨d, by simpa using h1, h2⟩
theorem RKs.val (k : κ) : ∀ {ds : List (κ × D)} {vs : List (κ × V)}, RKs K H η μ ds vs → (∀ d, valD ds k = some d → ∃ v, valV vs k = some v ∧ RV K H η μ d v) ∧ (valD ds k = none → valV vs k = none)
  | _, _, .nil => ⟨fun d h => by simp [valD] at h, fun _ => rfl⟩
  | _, _, @RKs.cons _ _ _ _ _ k' d' v' ds vs r t => by
    by_cases e : k' = k
    · subst e
      refine ⟨fun d h => ?_, fun h => ?_⟩
      · simp [valD] at h; subst h; exact ⟨v', by simp [valV], r⟩
      · simp [valD] at h
    · have ih := RKs.val k t
      have e1 : valD ((k', d') :: ds) k = valD ds k := by simp [valD, List.find?_cons, e]
      have e2 : valV ((k', v') :: vs) k = valV vs k := by simp [valV, List.find?_cons, e]
      rw [e1, e2]; exact ih
theorem RKs.any (k : κ) : ∀ {ds : List (κ × D)} {vs : List (κ × V)}, RKs K H η μ ds vs → (ds.any fun kv => decide (kv.1 = k)) = (vs.any fun kv => decide (kv.1 = k))
  | _, _, .nil => rfl
  | _, _, .cons _ t => by simp only [List.any_cons, RKs.any k t]
theorem RKs.app : ∀ {ds es : List (κ × D)} {vs ws : List (κ × V)}, RKs K H η μ ds vs → RKs K H η μ es ws → RKs K H η μ (ds ++ es) (vs ++ ws)
  | _, _, _, _, .nil, s => s
  | _, _, _, _, .cons r t, s => .cons r (RKs.app t s)
theorem RKs.repl {k : κ} {d : D} {v : V} (r : RV K H η μ d v) : ∀ {ds : List (κ × D)} {vs : List (κ × V)}, RKs K H η μ ds vs → RKs K H η μ (ds.map fun kv => if kv.1 = k then (kv.1, d) else kv) (vs.map fun kv => if kv.1 = k then (kv.1, v) else kv)
  | _, _, .nil => .nil
  | _, _, @RKs.cons _ _ _ _ _ k' d' v' ds vs q t => by
    simp only [List.map_cons]
    by_cases e : k' = k
    · simp only [e, if_true]; exact .cons r (RKs.repl r t)
    · simp only [e, if_false]; exact .cons q (RKs.repl r t)
theorem RKs.put {k : κ} {d : D} {v : V} {ds : List (κ × D)} {vs : List (κ × V)} (q : RKs K H η μ ds vs) (r : RV K H η μ d v) : RKs K H η μ (putD ds k d) (putK vs k v) := by
  unfold putD putK
  rw [q.any k]
  split
  · exact RKs.repl r q
  · exact q.app (.cons r .nil)
end
end
end DL
namespace DL
open PySem PySem.Spec PyProof.Rows L2 PySem.W PySem.Calls PyProof.V
section
variable {X : Cx} {pins : List (Addr × Obj)} {σ : L2.St} {H : Hp} {s : Shared} {d : Addr} {o : Obj}
theorem frzT2 {kvs : List (List L2.Key × V)} (I : Inv X pins σ H s) (h : H d = some (.frz o (.dT kvs))) :
    (d == sysModules) = false ∧ s.heap.get? d = some o ∧ o.ExactDict ∧ ∃ (es : Array DictEntry) (ep : Nat), o.data = .dict es ep ∧ es.size = kvs.length ∧
      ∀ (i : Nat) (k : List L2.Key) (v : V), kvs[i]? = some (k, v) → ∃ (en : DictEntry) (q : Addr), es[i]? = some en ∧ en.key = .ref q ∧ H q = some (.tup (k.map kV)) ∧ RelV v en.val := by
  obtain ⟨hd, z, hs, xs, pr, o', es, ep, ho, hx, hdt, he, _⟩ := I.hok d _ h
  rw [hd] at ho
  cases ho
  refine ⟨hs, hd, hx, es, ep, hdt, ?_, fun i k v e => ?_⟩
  · have l1 : es.size = xs.length := size_of_entries he
    have l2 : kvs.length = xs.length := Paired.length pr
    omega
  · obtain ⟨b, hb, e1, e2, e3⟩ := paired_get pr e
    have q := entry_at he i
    rw [hb] at q
    exact ⟨_, b.2.1, q, rfl, e2, e3⟩
end
/-- the pairs, each a new tuple: the key's own tuple, the value -/
noncomputable def Itit (d : Addr) (o : Obj) (kvs : List (List L2.Key × V)) : It :=
  ⟨fun i H => H d = some (.frz o (.dT kvs)) ∧ i < kvs.length, fun i H x H' => ∃ (T : Addr) (k : List L2.Key) (v : V) (q : Addr), kvs[i]? = some (k, v) ∧ H q = some (.tup (k.map kV)) ∧ x = .ref T ∧ H T = none ∧ H' = upd H T (.tup [.ref q, v]), fun i H => H d = some (.frz o (.dT kvs)) ∧ kvs.length ≤ i⟩
section
variable {P : Program} {w : World} {K : PySem.W.Frag} {d : Addr} {o : Obj} {es : Array DictEntry} {ep : Nat}
theorem turn_itemsT {kvs : List (List L2.Key × V)} {elts : List Expr} {kk : Nat} {tpos : Pos} (it : Addr) (hod : o.data = .dict es ep) :
    Turn P w K (.Tuple elts kk tpos) (Itit d o kvs) [it] it (fun i h => ∃ ok ov, IsItemIter h it d i kvs.length ep ok ov) where
  mem := by simp
  obj := fun i h st b hb => by
    have e : b = it := by simpa using hb
    subst e
    obtain ⟨ok, ov, e⟩ := st
    exact ⟨_, e, fun v z => nomatch z⟩
  keep := fun i h h' st k => let ⟨ok, ov, e⟩ := st; ⟨ok, ov, k it (by simp) _ e⟩
  item := by
    intro X hP hw hK hc i pins s σ H E I hf st hg
    subst hP hw hK
    obtain ⟨hd, hi⟩ := hg
    obtain ⟨hs, hgd, hx, es', ep', hdt, hsz, ent⟩ := frzT2 I hd
    obtain ⟨rfl, rfl⟩ := dict_ep hod hdt
    obtain ⟨⟨k, v⟩, hkv⟩ : ∃ p, kvs[i]? = some p := ⟨kvs[i], List.getElem?_eq_getElem hi⟩
    obtain ⟨en, q, hen, hkey, hq, hval⟩ := ent i k v hkv
    obtain ⟨ok, ov, he⟩ := st
    have hi' : i < es'.size := by omega
    have hen' : es'[i] = en := by rw [Array.getElem?_eq_getElem hi'] at hen; exact Option.some.inj hen
    have hlt : it < s.heap.objs.size := Heap.lt_size he
    refine DT.nextI (es := es') (by rw [hsz]; exact he) ⟨o, hgd, hx, hdt⟩ hi' fun h' ho hT hz hk => ?_
    rw [hen'] at ho hT
    refine ⟨_, rfl, wpAny_letOwnedTupleGo_items (s := { s with heap := h' }) ho fun h'' he' sb => ?_⟩
    have hT2 : h''.get? s.heap.objs.size = some { cls := .type "tuple", data := .seq #[en.key, en.val] } := (sb.2 _ (Nat.ne_of_gt hlt)).trans hT
    have new : ObjOk X.prog X.w (upd H s.heap.objs.size (.tup [.ref q, v])) h'' s.heap.objs.size (.tup [.ref q, v]) :=
      ⟨by show 2 ≤ sizeLine; decide, [en.key, en.val], .cons hkey (.cons hval .nil), ⟨_, hT2, rfl, _, rfl⟩⟩
    have I1 : Inv X pins σ (upd H s.heap.objs.size (.tup [.ref q, v])) { s with heap := h'' } :=
      I.turnedNew (t' := s.toks) (ch := [it]) (fun b ob hb e => (sb.2 b (by simpa using hb)).trans (hk b ob (by simpa using hb) e)) hf (Nat.le_refl _) new
    refine ⟨.ref s.heap.objs.size, _, I1, rfl, ⟨_, k, v, q, hkv, hq, rfl, I.hok.fresh (Nat.le_refl _), rfl⟩, ⟨en.key, en.val, ?_⟩, fun b hb => ?_⟩
    · rw [← hsz]; exact he'
    · have e : b = it := by simpa using hb
      rw [e, upd_ne (Nat.ne_of_lt hlt)]
      exact (hf it (by simp)).1
  done := by
    intro X hP hw hK hc i pins s σ H E I hf st hg
    subst hP hw hK
    obtain ⟨hd, hi⟩ := hg
    obtain ⟨f0, f1, f2, f3, f4, f5⟩ := hf it (by simp)
    obtain ⟨hs, hgd, hx, es', ep', hdt, hsz, ent⟩ := frzT2 I hd
    obtain ⟨rfl, rfl⟩ := dict_ep hod hdt
    obtain ⟨ok, ov, he⟩ := st
    exact DT.endI (es := es') (I.ok.hd hc) (by rw [hsz]; exact he) ⟨o, hgd, hx, hdt⟩ (by omega) fun h' eb => ⟨rfl, I.turned (t' := s.toks) (fun b ob hb e => eb b ob hb e) f0 f1 f3 f4 f5⟩
  self := fun A i s Q E st h => let ⟨_, _, e⟩ := st; PySem.W.kcp_self e h
end
noncomputable def iItemsT (td : TE) : TI := fun σ H R => td σ H fun x H1 => ∃ d o kvs, x = .ref d ∧ H1 d = some (.frz o (.dT kvs)) ∧ R (Itit d o kvs) H1
theorem pi_itemsT {X : Cx} {e : Expr} {td : TE} {apos cpos : Pos} {elts : List Expr} {kk : Nat} {tpos : Pos} (he : PE X e td) (hbase : attributeBase e "items" X.env (eval e X.env) = eval e X.env) (hline : (apos.endLine == cpos.line) = true) :
    PI X (.Tuple elts kk tpos) (.Call (.Attribute e "items" apos) [] [] cpos) (iItemsT td) := by
  refine ⟨fun pins s σ H R I h => ?_⟩
  refine wpAny_Call_method (T := "dict") (id := "dict.items") hbase rfl hline F.plainAttrs_dict F.slot_dict_items F.type_dict_items (thn (he.run pins s σ H _ I h) fun u s1 ⟨x, H1, I1, rx, d, o, kvs, ex, hd, q⟩ => ?_)
  subst ex
  obtain rfl : u = Value.ref d := rx
  obtain ⟨hs, hgd, hx, es, ep, hdt, hsz, ent⟩ := frzT2 I1 hd
  have hraw : DT.Raw s1.heap d es ep := ⟨o, hgd, hx, hdt⟩
  refine ⟨hraw.typeIs, fun b q => by cases q; exact ⟨o, hgd, hx.2.1⟩, ?_⟩
  have I2 : Inv X pins σ H1 { s1 with heap := s1.heap.push { cls := .type "dict_items", data := .fields #[.ref d] } } := I1.kept (t' := s1.toks) fun b ob q => Heap.get?_push_of_some _ q
  have fin : wpAny (model X.prog X.w) X.A (pyIter (.ref s1.heap.objs.size)) (PIE X pins σ (.Tuple elts kk tpos) R) X.xe { s1 with heap := s1.heap.push { cls := .type "dict_items", data := .fields #[.ref d] } } := by
    refine DT.iterI (d := d) (es := es) (ep := ep) ⟨_, Heap.get?_push_size _ rfl, rfl, rfl⟩ (hraw.push _) (pi_one (tk := s1.toks) I2 _ (turn_itemsT _ hdt) ⟨.none, .none, ?_⟩ q)
    rw [← hsz]
    exact Heap.get?_push_size _ rfl
  show wpAny _ _ (callWith cpos (.builtin "dict.items") [.ref d] [] []) _ X.xe s1
  exact method_meetsIn F.slot_dict_items F.entry_dict_items rfl (PySem.evalArgs_none ⟨rfl, hraw.typeIs, F.args_dict_items_1 _, _, DT.meetsItems (es := es) (ep := ep) hs, hraw, fin⟩)
end DL
set_option maxHeartbeats 4000000
namespace DL
open PySem PySem.Spec PyProof.Rows L2
theorem tuple_mul1 (l : Addr) (items : Array Value) (n : Nat) (dd : Option Addr) (sl : Array (Option Value)) (u : Tok) :
    Meets (Builtin.«tuple.__mul__» ⟨[.ref l, .int 1 u], []⟩) (fun _ R s => s.heap.get? l = some { cls := .type "tuple", dict := dd, data := .seq items n, slots := sl } ∧ R (.ok (.ret (Value.ref l))) s) :=
  .of_wp fun prog w A R s h => by
    obtain ⟨hp, g, d, tk, os⟩ := s
    obtain ⟨hl, h⟩ := h
    have f1 := AutoSeq1.idx_int
    have c0 : (decide ((1 : Int) < -(2 ^ 63)) || decide ((1 : Int) ≥ 2 ^ 63)) = false := by decide
    have c1 : (items.isEmpty || (1 : Int) == 1) = true := by simp
    wp_walk using wpAny_loadPart' hl
    repeat (first
      | (refine wpAny_ite_false (decide_eq_false (by rw [c0]; exact Bool.false_ne_true)) ?_; wp_walk using wpAny_loadPart' hl)
      | (refine wpAny_ite_true (decide_eq_true (by rw [c1])) ?_; wp_walk using wpAny_loadPart' hl))
    exact ⟨_, rfl, h⟩
noncomputable def rRep1 (K : PySem.W.Frag) : R2 := fun x y H Q => ∃ l xs, x = .ref l ∧ y = .int 1 ∧ SqT K H l xs ∧ Q (.ref l) H
theorem op_rep1 {X : Cx} : OpR X (binaryOp .Mult) (rRep1 X.K) := by
  intro pins s σ H x y v u Q I rx ry h
  obtain ⟨l, xs, rfl, rfl, hT, q⟩ := h
  cases rx
  obtain ⟨t, rfl⟩ := ry
  obtain ⟨its, r, ⟨⟨cls, dd, data, sl⟩, ho, hc, n, hd⟩, hs⟩ := I.tuple hT
  simp only at hc hd
  subst hc hd
  exact wpAny_binaryOp_repeat_ref (T := "tuple") (U := "int") (by decide) ⟨_, ho, rfl⟩ (fun s' => typeIs_int s' 1 t) noFill_tuple_mul F.fills_int_mul F.slot_int_rmul repeat_tuple F.slot_int_index.lookup
    (call_meets F.slot_int_rmul (typeIs_int s 1 t) F.entry_int_rmul (F.args_int_rmul_2 _ _) (int_rmul_tuple 1 t l its.toArray n dd sl)
      ⟨ho, rfl, ⟨_, ho, rfl⟩, call_meets F.slot_tuple_mul ⟨_, ho, rfl⟩ F.entry_tuple_mul (F.args_tuple_mul_2 _ _) (tuple_mul1 l its.toArray n dd sl t) ⟨ho, ⟨.ref l, H, I, rfl, q⟩⟩⟩)
theorem tuple_mul0 (l : Addr) (items : Array Value) (n : Nat) (dd : Option Addr) (sl : Array (Option Value)) (u : Tok) (c1 : (items.isEmpty || (0 : Int) == 1) = false) :
    Meets (Builtin.«tuple.__mul__» ⟨[.ref l, .int 0 u], []⟩) (fun _ R s => s.heap.get? l = some { cls := .type "tuple", dict := dd, data := .seq items n, slots := sl } ∧
      R (.ok (.ret (Value.ref s.heap.objs.size))) { s with heap := s.heap.push { cls := Value.type "tuple", data := Data.seq #[] }, toks := s.toks }) :=
  .of_wp fun prog w A R s h => by
    obtain ⟨hp, g, d, tk, os⟩ := s
    obtain ⟨hl, h⟩ := h
    have f1 := AutoSeq1.idx_int
    have c0 : (decide ((0 : Int) < -(2 ^ 63)) || decide ((0 : Int) ≥ 2 ^ 63)) = false := by decide
    have c2 : (decide ((0 : Int) ≤ 0) || items.isEmpty) = true := by simp
    wp_walk using wpAny_loadPart' hl
    repeat (first
      | (refine wpAny_ite_false (decide_eq_false (by rw [c0]; exact Bool.false_ne_true)) ?_; wp_walk using wpAny_loadPart' hl)
      | (refine wpAny_ite_false (decide_eq_false (by rw [c1]; exact Bool.false_ne_true)) ?_; wp_walk using wpAny_loadPart' hl)
      | (refine wpAny_ite_true (decide_eq_true (by rw [c2])) ?_; wp_walk using wpAny_loadPart' hl))
    exact ⟨_, rfl, h⟩
noncomputable def rRep0 (K : PySem.W.Frag) : R2 := fun x y H Q => ∃ l xs, x = .ref l ∧ y = .int 0 ∧ SqT K H l xs ∧ xs ≠ [] ∧ ∀ p, H p = none → Q (.ref p) (upd H p (.tup []))
theorem op_rep0 {X : Cx} : OpR X (binaryOp .Mult) (rRep0 X.K) := by
  intro pins s σ H x y v u Q I rx ry h
  obtain ⟨l, xs, rfl, rfl, hT, hx, q⟩ := h
  cases rx
  obtain ⟨t, rfl⟩ := ry
  obtain ⟨its, r, ⟨⟨cls, dd, data, sl⟩, ho, hc, n, hd⟩, hs⟩ := I.tuple hT
  simp only at hc hd
  subst hc hd
  have c1 : (its.toArray.isEmpty || (0 : Int) == 1) = false := by
    cases its with
    | nil => cases r; exact absurd rfl hx
    | cons a b => rfl
  exact wpAny_binaryOp_repeat_ref (T := "tuple") (U := "int") (by decide) ⟨_, ho, rfl⟩ (fun s' => typeIs_int s' 0 t) noFill_tuple_mul F.fills_int_mul F.slot_int_rmul repeat_tuple F.slot_int_index.lookup
    (call_meets F.slot_int_rmul (typeIs_int s 0 t) F.entry_int_rmul (F.args_int_rmul_2 _ _) (int_rmul_tuple 0 t l its.toArray n dd sl)
      ⟨ho, rfl, ⟨_, ho, rfl⟩, call_meets F.slot_tuple_mul ⟨_, ho, rfl⟩ F.entry_tuple_mul (F.args_tuple_mul_2 _ _) (tuple_mul0 l its.toArray n dd sl t c1)
        ⟨ho, ⟨.ref s.heap.objs.size, upd H s.heap.objs.size (.tup []), I.laid (t' := s.toks) (fun b o e => Heap.get?_push_of_some _ e) (Nat.le_refl _) (show ObjOk X.prog X.w _ _ _ (.tup []) from ⟨Nat.zero_le _, [], .nil, IsTup.new _ _⟩), rfl, q _ (I.hok.fresh (Nat.le_refl _))⟩⟩⟩)
end DL
set_option maxHeartbeats 4000000
namespace DL
open PySem PySem.Spec PyProof.Rows L2
section
variable {X : Cx}
noncomputable def rSortDT : List V → Hp → VK → Prop := fun xs H Q => ∃ d kvs, xs = [V.ref d] ∧ Rd H d (.dT kvs) ∧ (∀ p ∈ kvs, ∃ i j : Int, p.1 = [Sum.inl i, Sum.inl j]) ∧ ∀ (p : Addr) (ys : List V) (bs : List Addr), H p = none → IsKeys H kvs bs → ys.Perm (bs.map V.ref) → Q (.ref p) (upd H p (.lst ys))
theorem isKeys_pair {H : Hp} : ∀ {kvs : List (List L2.Key × V)} {bs : List Addr}, IsKeys H kvs bs → (∀ p ∈ kvs, ∃ i j : Int, p.1 = [Sum.inl i, Sum.inl j]) → ∀ b ∈ bs, ∃ i j : Int, H b = some (.tup [.int i, .int j])
  | _, _, .nil, _, b, hb => absurd hb (by simp)
  | p :: kvs, c :: bs, .cons h t, hp, b, hb => by
    rcases List.mem_cons.mp hb with rfl | hb
    · obtain ⟨i, j, e⟩ := hp p (List.mem_cons_self ..)
      rw [e] at h
      exact ⟨i, j, h⟩
    · exact isKeys_pair t (fun q hq => hp q (List.mem_cons_of_mem _ hq)) b hb
theorem cr_sortedDT (hc : X.calm = true) : CallR X (.builtin "sorted") rSortDT := by
  intro pins s σ H xs us Q I r h
  obtain ⟨d, kvs, rfl, hd, hpair, q⟩ := h
  obtain ⟨u, rfl, rx⟩ := r.one
  cases rx
  obtain ⟨z, hs, ks, pr, o, es, ep, ho, hx, hdt, he, hn⟩ := (show ObjOk X.prog X.w H s.heap d (.dT kvs) from hd.ok I.hok)
  have l1 : es.size = ks.length := size_of_entries he
  have l2 : kvs.length = ks.length := Paired.length pr
  refine Calls.call_function_entry PyProof.Rows.kind_sorted PyProof.Rows.plain_sorted PyProof.Rows.entry_sorted (PyProof.Rows.args_sorted1 _) ?_
  unfold Builtin.«sorted»
  refine wpAny_bind (m := checkCount "sorted" 1 1 _) (wpAny_pure ?_)
  refine wpAny_bind (PySem.W.kdu_collect (A := X.A.in1) (kdl_raw hs hx hdt) (I.ok.hd hc) ho (by omega) fun h' tk acc' kp it => ?_)
  have ea : acc'.toList = ks.map fun x => Value.ref x.2.1 := by
    have hl : acc'.toList.length = ks.length := by rw [Array.length_toList, it.1]; exact l1
    apply List.ext_getElem?
    intro j
    rw [List.getElem?_map]
    cases hj : acc'.toList[j]? with
    | none =>
      have h1 := List.getElem?_eq_none_iff.mp hj
      rw [List.getElem?_eq_none (by omega)]
      all_goals rfl
    | some v =>
      obtain ⟨en, hen, hv⟩ := it.2 j v (by rw [← Array.getElem?_toList]; exact hj)
      have qe := entry_at he j
      rw [hen] at qe
      cases hb : ks[j]? with
      | none =>
        rw [hb] at qe
        exact nomatch (show some en = none from qe)
      | some b =>
        rw [hb] at qe
        have e2 : en = entryOfKey (tupleKind (mixKind X.prog X.w)) b := Option.some.inj qe
        rw [hv, e2]
        all_goals rfl
  have hl : acc'.toList.length = ks.length := by rw [ea, List.length_map]
  have hz : acc'.toList.length ≤ sizeLine := by omega
  have I1 : Inv X pins σ H { s with heap := h', toks := tk } := I.kept kp
  have hkeys := isKeys_of pr
  have hrefs : ∀ v ∈ acc'.toList, ∃ a, v = Value.ref a := fun v hv => by
    rw [ea] at hv
    obtain ⟨x, _, rfl⟩ := List.mem_map.mp hv
    exact ⟨_, rfl⟩
  have hpr : ∀ v ∈ acc'.toList, ∃ x y, Srt.IsPair h' v x y := fun v hv => by
    rw [ea] at hv
    obtain ⟨x, hx, rfl⟩ := List.mem_map.mp hv
    obtain ⟨i, j, ht⟩ := isKeys_pair hkeys hpair x.2.1 (List.mem_map.mpr ⟨x, hx, rfl⟩)
    obtain ⟨_, its2, r2, o, ho, hc, n, hd⟩ := I1.hok _ _ ht
    obtain ⟨u1, u2, rfl, ri, rj⟩ := vals2 r2
    obtain ⟨t1, rfl⟩ := ri
    obtain ⟨t2, rfl⟩ := rj
    exact ⟨i, j, x.2.1, o, t1, t2, n, rfl, ho, hc, hd⟩
  refine wpAny_bind (wpAny_newList ?_ hz)
  have hoL : (h'.push (seqObj "list" acc'.toList.toArray 0)).get? h'.objs.size = some (seqObj "list" acc'.toList.toArray 0) := Heap.get?_push_size _ rfl
  show wpAny _ _ _ _ _ { s with heap := h'.push (seqObj "list" acc'.toList.toArray 0), toks := tk }
  refine wpAny_bind (wpAny_holding (wpAny_call_entry PyProof.Rows.slot_list_sort ⟨_, hoL, rfl⟩ PyProof.Rows.entry_list_sort
    (Srt.list_sort_any (s := { s with heap := h'.push (seqObj "list" acc'.toList.toArray 0), toks := tk }) hoL hz (fun h2 => Srt.pairs_sortable (by omega) (fun v hv => ?_) fun o e => ?_) fun out hp => ⟨_, rfl, ?_⟩)
    (PyProof.Rows.args_list_sort _)))
  · obtain ⟨x, y, p⟩ := hpr v hv
    exact ⟨x, y, p.keeps fun b o e _ => Heap.get?_push_of_some _ e⟩
  · have e' : some o = some (seqObj "list" acc'.toList.toArray 0) := e.symm.trans hoL
    cases e'
    intro c
    exact absurd (Value.type.inj c) (by decide)
  · have h3 : ∀ u ∈ out, ∃ a, u = Value.ref a := fun u hu => hrefs u (hp.mem_iff.mp hu)
    obtain ⟨e', he'⟩ := PyProof.Rows.sortedHeap_at (vs := acc'.toList) (out := out.toArray) hoL
    have hlen : (out.map backV).length ≤ sizeLine := by rw [List.length_map, hp.length_eq]; exact hz
    refine wpAny_pure ⟨_, rfl, .ref h'.objs.size, upd H h'.objs.size (.lst (out.map backV)), I1.laid (t' := tk) (fun b u e => ?_) (Nat.le_refl _)
      (show ObjOk X.prog X.w _ _ _ (.lst (out.map backV)) from ⟨hlen, out, e', vals_back h3, he'⟩), rfl, q _ _ _ (I1.hok.fresh (Nat.le_refl _)) hkeys ?_⟩
    · have hb : b < h'.objs.size := Heap.lt_size e
      rw [PyProof.Rows.sortedHeap_old (Nat.ne_of_lt hb) (by rw [size_push']; exact Nat.lt_succ_of_lt hb)]
      exact Heap.get?_push_of_some _ e
    · have := hp.map backV
      rw [ea, List.map_map] at this
      rw [List.map_map]
      exact this
noncomputable def rInTup (K : PySem.W.Frag) : R2 := fun x y H Q => ∃ d ds, Dp K H x d ∧ Dp K H y (.tuple ds) ∧ SeqAt.shaped d = true ∧ SeqAt.shaped (.tuple ds) = true ∧ d.depth ≤ 10 ∧ Q (.bl (ds.any fun z => PyData.eqv z d)) H
theorem op_inTup (hu : X.A.units + 64 < cLine) : OpR X (compareOp .In) (rInTup X.K) := by
  intro pins s σ H x y v u Q I rx ry h
  obtain ⟨d, ds, hd, he, sd, se, dd, q⟩ := h
  obtain ⟨as, r1⟩ := Dp.reads I d x v hd rx
  obtain ⟨bs, r2⟩ := Dp.reads I (.tuple ds) y u he ry
  exact SeqAt.in_tuple_reads r2 r1 (SeqAt.canLay_of_shaped se) (SeqAt.canLay_of_shaped sd) (by have := Nat.min_le_right (PyData.depthAll ds) d.depth; omega) ⟨.bl _, H, I, rfl, q⟩
noncomputable def rNotInTup (K : PySem.W.Frag) : R2 := fun x y H Q => ∃ d ds, Dp K H x d ∧ Dp K H y (.tuple ds) ∧ SeqAt.shaped d = true ∧ SeqAt.shaped (.tuple ds) = true ∧ d.depth ≤ 10 ∧ Q (.bl (!ds.any fun z => PyData.eqv z d)) H
theorem op_notInTup (hu : X.A.units + 64 < cLine) : OpR X (compareOp .NotIn) (rNotInTup X.K) := by
  intro pins s σ H x y v u Q I rx ry h
  obtain ⟨d, ds, hd, he, sd, se, dd, q⟩ := h
  obtain ⟨as, r1⟩ := Dp.reads I d x v hd rx
  obtain ⟨bs, r2⟩ := Dp.reads I (.tuple ds) y u he ry
  exact SeqAt.notIn_tuple_reads r2 r1 (SeqAt.canLay_of_shaped se) (SeqAt.canLay_of_shaped sd) (by have := Nat.min_le_right (PyData.depthAll ds) d.depth; omega) ⟨.bl _, H, I, rfl, q⟩
noncomputable def rInLst (K : PySem.W.Frag) : R2 := fun x y H Q => ∃ d ds, Dp K H x d ∧ Dp K H y (.list ds) ∧ SeqAt.shaped d = true ∧ SeqAt.shaped (.list ds) = true ∧ d.depth ≤ 10 ∧ Q (.bl (ds.any fun z => PyData.eqv z d)) H
theorem op_inLst (hu : X.A.units + 64 < cLine) : OpR X (compareOp .In) (rInLst X.K) := by
  intro pins s σ H x y v u Q I rx ry h
  obtain ⟨d, ds, hd, he, sd, se, dd, q⟩ := h
  obtain ⟨as, r1⟩ := Dp.reads I d x v hd rx
  obtain ⟨bs, r2⟩ := Dp.reads I (.list ds) y u he ry
  exact SeqAt.in_list_reads r2 r1 (SeqAt.canLay_of_shaped se) (SeqAt.canLay_of_shaped sd) (by have := Nat.min_le_right (PyData.depthAll ds) d.depth; omega) ⟨.bl _, H, I, rfl, q⟩
noncomputable def rNotInLst (K : PySem.W.Frag) : R2 := fun x y H Q => ∃ d ds, Dp K H x d ∧ Dp K H y (.list ds) ∧ SeqAt.shaped d = true ∧ SeqAt.shaped (.list ds) = true ∧ d.depth ≤ 10 ∧ Q (.bl (!ds.any fun z => PyData.eqv z d)) H
theorem op_notInLst (hu : X.A.units + 64 < cLine) : OpR X (compareOp .NotIn) (rNotInLst X.K) := by
  intro pins s σ H x y v u Q I rx ry h
  obtain ⟨d, ds, hd, he, sd, se, dd, q⟩ := h
  obtain ⟨as, r1⟩ := Dp.reads I d x v hd rx
  obtain ⟨bs, r2⟩ := Dp.reads I (.list ds) y u he ry
  exact SeqAt.notIn_list_reads r2 r1 (SeqAt.canLay_of_shaped se) (SeqAt.canLay_of_shaped sd) (by have := Nat.min_le_right (PyData.depthAll ds) d.depth; omega) ⟨.bl _, H, I, rfl, q⟩
end
end DL
set_option maxHeartbeats 4000000
namespace DL
open PySem PySem.Spec PyProof.Rows L2 HT
mutual
noncomputable def noLst : PyData → Bool
  | .list _ => false
  | .tuple xs => noLsts xs
  | .dict kvs => kvs.isEmpty
  | _ => true
noncomputable def noLsts : List PyData → Bool
  | [] => true
  | x :: xs => noLst x && noLsts xs
end
mutual
inductive DpE (K : PySem.W.Frag) (H : Hp) : V → PyData → Prop
  | non : DpE K H .non .none
  | bl (b : Bool) : DpE K H (.bl b) (.bool b)
  | int (i : Int) : DpE K H (.int i) (.int i)
  | str (x : Str) : DpE K H (.str x) (.str x)
  | lst {a : Addr} {xs : List V} {ds : List PyData} : SqL K H a xs → DpEs K H xs ds → DpE K H (.ref a) (.list ds)
  | tup {a : Addr} {xs : List V} {ds : List PyData} : SqT K H a xs → DpEs K H xs ds → DpE K H (.ref a) (.tuple ds)
  | dct {a : Addr} : Rd H a (.dT []) → DpE K H (.ref a) (.dict [])
inductive DpEs (K : PySem.W.Frag) (H : Hp) : List V → List PyData → Prop
  | nil : DpEs K H [] []
  | cons {v : V} {vs : List V} {d : PyData} {ds : List PyData} : DpE K H v d → DpEs K H vs ds → DpEs K H (v :: vs) (d :: ds)
end
section
variable {X : Cx} {pins : List (Addr × Obj)} {σ : L2.St} {H : Hp} {s : Shared}
mutual
theorem DpE.reads (I : Inv X pins σ H s) : ∀ (d : PyData) (v : V) (u : Value), DpE X.K H v d → RelV v u → ∃ as, Reads s.heap u d as ∧ (noLst d = true → sysModules ∉ as)
  | .none, _, _, h, r => by
    cases h
    cases r
    exact ⟨_, Reads.none, by simp⟩
  | .bool b, _, _, h, r => by
    cases h
    cases r
    exact ⟨_, Reads.bool b, by simp⟩
  | .int i, _, _, h, r => by
    cases h
    obtain ⟨t, rfl⟩ := r
    exact ⟨_, Reads.int i t, by simp⟩
  | .str x, _, _, h, r => by
    cases h
    obtain ⟨t, rfl⟩ := r
    exact ⟨_, Reads.str x t, by simp⟩
  | .list ds, _, _, h, r => by
    cases h with
    | lst hs ha =>
      cases r
      obtain ⟨its, rv, ⟨o, n, ho, hc, _, hd⟩, _⟩ := I.list hs
      obtain ⟨as, hr, _⟩ := DpE.readsAll I ds _ its ha rv
      exact ⟨_, Reads.list ho hc hd hr, fun z => by simp [noLst] at z⟩
  | .tuple ds, _, _, h, r => by
    cases h with
    | tup hs ha =>
      cases r
      obtain ⟨its, rv, ⟨o, ho, hc, n, hd⟩, _⟩ := I.tuple hs
      obtain ⟨as, hr, hn⟩ := DpE.readsAll I ds _ its ha rv
      exact ⟨_, Reads.tuple ho hc hd hr, fun z => hn (by simpa [noLst] using z)⟩
  | .dict kvs, _, _, h, r => by
    cases h with
    | dct hd =>
      cases r
      rename_i a
      obtain ⟨z, hs, ks, pr, o, es, ep, ho, hx, hdt, he, hn⟩ := (show ObjOk X.prog X.w H s.heap a (.dT []) from hd.ok I.hok)
      cases pr
      have hes : es.toList = [] := he
      refine ⟨_, Reads.dict (kvs := []) (as := []) (bs := []) ho hx.1 hdt (by rw [hes]; exact ReadsAll.nil) (by rw [hes]; exact ReadsAll.nil), fun _ => ?_⟩
      intro hm
      have : sysModules = a := by simpa using hm
      rw [this] at hs
      simp at hs
theorem DpE.readsAll (I : Inv X pins σ H s) : ∀ (ds : List PyData) (vs : List V) (us : List Value), DpEs X.K H vs ds → Vals vs us → ∃ as, ReadsAll s.heap us ds as ∧ (noLsts ds = true → sysModules ∉ as)
  | [], _, _, h, r => by
    cases h
    cases r
    exact ⟨_, ReadsAll.nil, by simp⟩
  | d :: ds, _, _, h, r => by
    cases h with
    | cons h1 h2 =>
      cases r with
      | cons r1 r2 =>
        obtain ⟨as, q1, n1⟩ := DpE.reads I d _ _ h1 r1
        obtain ⟨bs, q2, n2⟩ := DpE.readsAll I ds _ _ h2 r2
        refine ⟨_, ReadsAll.cons q1 q2, fun z => ?_⟩
        simp only [noLsts, Bool.and_eq_true] at z
        intro hm
        rcases List.mem_append.mp hm with h | h
        · exact n1 z.1 h
        · exact n2 z.2 h
end
end
section
variable {X : Cx} {pins : List (Addr × Obj)} {σ : L2.St} {H : Hp} {s : Shared}
mutual
theorem DpE.rk (I : Inv X pins σ H s) : ∀ (d : PyData) (v : V) (u : Value), DpE X.K H v d → RelV v u → d.showable = true → d.shown.length ≤ sizeLine → ∃ bs, ReadAtMost s.heap d.depth bs ∧ ReprK X.prog X.w bs s.heap d.depth u d.shown
  | .list ds, v, u, h, r, sh, hz => by
    obtain ⟨as, rd, _⟩ := DpE.reads I _ _ _ h r
    cases h with
    | lst hs ha =>
      cases r
      obtain ⟨its, rv, ⟨o, n, ho, hc, _, hd⟩, _⟩ := I.list hs
      have hz' : (listText (PyData.shownAll ds)).length ≤ sizeLine := by simpa only [PyData.shown] using hz
      obtain ⟨bs, hb, hk⟩ := DpE.rkAll I ds _ its ha rv (by simpa [PyData.showable] using sh) fun t ht => Nat.le_trans (listText_mem_le ht) hz'
      have hna := not_mem_of_deeper rd (show PyData.depthAll ds < (PyData.list ds).depth by simp only [PyData.depth]; omega) hb
      refine ⟨_ :: bs, ReadAtMost.cons rd (by simp only [PyData.depth]; omega) hb, ?_⟩
      simp only [PyData.depth, PyData.shown]
      cases its with
      | nil =>
        cases ds with
        | nil => simp only [PyData.shownAll, listText_nil]; exact ReprK.listEmpty ho hc hd
        | cons _ _ => cases hk
      | cons x l => exact ReprK.list ho hc hd hna (by simpa using hk.length_eq) fun i y e => hk.item i y (by simpa using e)
  | .tuple ds, v, u, h, r, sh, hz => by
    obtain ⟨as, rd, _⟩ := DpE.reads I _ _ _ h r
    cases h with
    | tup hs ha =>
      cases r
      obtain ⟨its, rv, ⟨o, ho, hc, n, hd⟩, _⟩ := I.tuple hs
      have hz' : (tupleText (PyData.shownAll ds)).length ≤ sizeLine := by simpa only [PyData.shown] using hz
      obtain ⟨bs, hb, hk⟩ := DpE.rkAll I ds _ its ha rv (by simpa [PyData.showable] using sh) fun t ht => Nat.le_trans (tupleText_mem_le ht) hz'
      have hna := not_mem_of_deeper rd (show PyData.depthAll ds < (PyData.tuple ds).depth by simp only [PyData.depth]; omega) hb
      refine ⟨_ :: bs, ReadAtMost.cons rd (by simp only [PyData.depth]; omega) hb, ?_⟩
      simp only [PyData.depth, PyData.shown]
      exact ReprK.tuple ho hc hd hna hk
  | .none, v, u, h, r, sh, hz => by
    obtain ⟨as, rd, _⟩ := DpE.reads I _ _ _ h r
    exact ReprK.of_reads rd sh (fun z => nomatch z) hz
  | .bool b, v, u, h, r, sh, hz => by
    obtain ⟨as, rd, _⟩ := DpE.reads I _ _ _ h r
    exact ReprK.of_reads rd sh (fun z => nomatch z) hz
  | .int b, v, u, h, r, sh, hz => by
    obtain ⟨as, rd, _⟩ := DpE.reads I _ _ _ h r
    exact ReprK.of_reads rd sh (fun z => nomatch z) hz
  | .str b, v, u, h, r, sh, hz => by
    obtain ⟨as, rd, _⟩ := DpE.reads I _ _ _ h r
    exact ReprK.of_reads rd sh (fun z => nomatch z) hz
  | .dict kvs, v, u, h, r, sh, hz => by
    obtain ⟨as, rd, hn⟩ := DpE.reads I _ _ _ h r
    cases h with
    | dct _ => exact ReprK.of_reads rd sh (fun _ => hn rfl) hz
theorem DpE.rkAll (I : Inv X pins σ H s) : ∀ (ds : List PyData) (vs : List V) (us : List Value), DpEs X.K H vs ds → Vals vs us → PyData.showableAll ds = true → (∀ t ∈ PyData.shownAll ds, t.length ≤ sizeLine) →
    ∃ bs, ReadAtMost s.heap (PyData.depthAll ds) bs ∧ ReprAllK X.prog X.w bs s.heap (PyData.depthAll ds) us (PyData.shownAll ds)
  | [], _, _, h, r, _, _ => by
    cases h
    cases r
    exact ⟨[], (fun _ h => nomatch h), by simp only [PyData.shownAll]; exact .nil⟩
  | d :: ds, _, _, h, r, sh, hz => by
    cases h with
    | cons h1 h2 =>
      cases r with
      | cons r1 r2 =>
        have sh' : d.showable = true ∧ PyData.showableAll ds = true := by simpa [PyData.showableAll] using sh
        obtain ⟨b1, hb1, k1⟩ := DpE.rk I d _ _ h1 r1 sh'.1 (hz _ (by simp only [PyData.shownAll]; exact List.mem_cons_self ..))
        obtain ⟨b2, hb2, k2⟩ := DpE.rkAll I ds _ _ h2 r2 sh'.2 fun t ht => hz t (by simp only [PyData.shownAll]; exact List.mem_cons_of_mem _ ht)
        have l1 : d.depth ≤ PyData.depthAll (d :: ds) := by simp only [PyData.depthAll]; omega
        have l2 : PyData.depthAll ds ≤ PyData.depthAll (d :: ds) := by simp only [PyData.depthAll]; omega
        refine ⟨b1 ++ b2, (hb1.mono l1).append (hb2.mono l2), ?_⟩
        simp only [PyData.shownAll]
        exact .cons ((k1.more fun b hb => List.mem_append_left _ hb).level_le l1) (k2.more_le (fun b hb => List.mem_append_right _ hb) l2)
end
theorem DpE.shows (I : Inv X pins σ H s) {a : Addr} {d : PyData} (h : DpE X.K H (.ref a) d) (sh : d.showable = true) (hz : d.shown.length ≤ sizeLine) : ∃ T idr, ShowsBy X.prog X.w s.heap a d T idr := by
  obtain ⟨as, rd, hn⟩ := DpE.reads I _ _ _ h (show RelV (.ref a) (.ref a) from rfl)
  cases h with
  | lst hs ha =>
    rename_i xs ds
    obtain ⟨its, rv, ⟨o, n, ho, hc, _, hd⟩, _⟩ := I.list hs
    have hz' : (listText (PyData.shownAll ds)).length ≤ sizeLine := by simpa only [PyData.shown] using hz
    obtain ⟨bs, hb, hk⟩ := DpE.rkAll I ds _ its ha rv (by simpa [PyData.showable] using sh) fun t ht => Nat.le_trans (listText_mem_le ht) hz'
    have hna := not_mem_of_deeper rd (show PyData.depthAll ds < (PyData.list ds).depth by simp only [PyData.depth]; omega) hb
    refine ⟨"list", "list.__repr__", F.slot_list_repr.toG, F.slot_list_str, F.slot_list_format, fun s' hk0 => ⟨o, hk0 _ _ ho, hc⟩, fun A E s' Q hg hu hk0 hQ => ?_⟩
    simp only [PyData.depth] at hu
    simp only [PyData.shown] at hQ
    cases its with
    | nil =>
      cases ds with
      | nil =>
        simp only [PyData.shownAll, listText_nil] at hQ
        exact call_list_repr_empty ⟨o, hk0 _ _ ho, hc⟩ (hk0 _ _ ho) hd (hQ s'.heap _ _ fun _ _ e => e)
      | cons _ _ => cases hk
    | cons x l => exact call_list_reprK ho hc hd hna (by simpa using hk.length_eq) (fun i y e => hk.item i y (by simpa using e)) hg (fun b _ => Clear.nil b) hu hk0 hQ hz'
  | tup hs ha =>
    rename_i xs ds
    obtain ⟨its, rv, ⟨o, ho, hc, n, hd⟩, _⟩ := I.tuple hs
    have hz' : (tupleText (PyData.shownAll ds)).length ≤ sizeLine := by simpa only [PyData.shown] using hz
    obtain ⟨bs, hb, hk⟩ := DpE.rkAll I ds _ its ha rv (by simpa [PyData.showable] using sh) fun t ht => Nat.le_trans (tupleText_mem_le ht) hz'
    have hna := not_mem_of_deeper rd (show PyData.depthAll ds < (PyData.tuple ds).depth by simp only [PyData.depth]; omega) hb
    refine ⟨"tuple", "tuple.__repr__", F.slot_tuple_repr, F.slot_tuple_str, F.slot_tuple_format, fun s' hk0 => ⟨o, hk0 _ _ ho, hc⟩, fun A E s' Q hg hu hk0 hQ => ?_⟩
    simp only [PyData.depth] at hu
    simp only [PyData.shown] at hQ
    exact call_tuple_reprK ho hc hd hna hk hg (fun b _ => Clear.nil b) hu hk0 hQ hz'
  | dct _ => exact showsBy_of_reads rd sh (fun _ => hn rfl) hz
end
structure RepOkE (p : PyData) : Prop where
  sh : p.showable = true
  dp : p.depth ≤ 50
  sz : p.shown.length ≤ sizeLine
section
variable {X : Cx}
theorem call_reprE (hG : X.A.guards = some []) (hu : X.A.units + 64 < cLine) : CallR X (.builtin "repr") (fun xs H Q => ∃ v d, xs = [v] ∧ DpE X.K H v d ∧ RepOkE d ∧ Q (.str d.shown) H) := by
  intro pins s σ H xs us Q I r h
  obtain ⟨v, d, rfl, hd, ok, q⟩ := h
  obtain ⟨u, rfl, ru⟩ := vals1 r
  have dep := ok.dp
  have go : ∀ (a : Addr) {Q' : Value → Shared → Prop} {E' : Value → Shared → Prop}, v = .ref a → (∀ h' t tk, (∀ b o, s.heap.get? b = some o → h'.get? b = some o) → Q' (.str d.shown t) { s with heap := h', toks := tk }) →
      wpAny (model X.prog X.w) X.A (call (.builtin "repr") [.ref a]) Q' E' s := fun a Q' E' e hQ' => by
    subst e
    obtain ⟨T, idr, S⟩ := DpE.shows I hd ok.sh ok.sz
    exact call_repr_slot (by omega) (S.typeIs s fun _ _ e => e) S.slotRepr (S.call X.A.in1 _ s _ hG (by show X.A.units + 1 + d.depth < cLine; omega) (fun _ _ e => e) fun h' t tk hk => ⟨_, _, rfl, hQ' h' t tk hk⟩)
  cases hd with
  | int i => obtain ⟨t, rfl⟩ := ru; exact PySem.P.repr_of_int (by have := ok.sh; simpa [PyData.showable] using this) ⟨.str _, H, I.tok _, ⟨_, rfl⟩, q⟩
  | lst h1 h2 => cases ru; exact go _ rfl fun h' t tk hk => ⟨.str _, H, I.kept hk, ⟨_, rfl⟩, q⟩
  | tup h1 h2 => cases ru; exact go _ rfl fun h' t tk hk => ⟨.str _, H, I.kept hk, ⟨_, rfl⟩, q⟩
  | dct h1 => cases ru; exact go _ rfl fun h' t tk hk => ⟨.str _, H, I.kept hk, ⟨_, rfl⟩, q⟩
  | non => cases ru; exact PySem.P.repr_of_none ⟨.str _, H, I.tok _, ⟨_, rfl⟩, q⟩
  | bl b => cases ru; exact PySem.P.repr_of_bool ⟨.str _, H, I.tok _, ⟨_, rfl⟩, (by cases b <;> exact q)⟩
  | str y => obtain ⟨t, rfl⟩ := ru; exact PySem.P.repr_of_str ⟨.str _, H, I.tok _, ⟨_, rfl⟩, q⟩ ok.sz
end
end DL
set_option maxHeartbeats 4000000
namespace DL
open PySem PySem.Spec PyProof.Rows L2
section
variable {X : Cx}
noncomputable def SI (k : List L2.Key) : Prop := ∃ (x : Str) (j : Int), k = [Sum.inr x, Sum.inl j]
noncomputable def rSortDS : List V → Hp → VK → Prop := fun xs H Q => ∃ d kvs, xs = [V.ref d] ∧ Rd H d (.dT kvs) ∧ (∀ p ∈ kvs, SI p.1) ∧ ∀ (p : Addr) (ys : List V) (bs : List Addr), H p = none → IsKeys H kvs bs → ys.Perm (bs.map V.ref) → Q (.ref p) (upd H p (.lst ys))
noncomputable def keyP : L2.Key → PyData
  | .inl i => .int i
  | .inr x => .str x
theorem paired_SI {H : Hp} : ∀ {kvs : List (List L2.Key × V)} {ks : List (List L2.Key × Addr × Value)}, Paired (fun (p : List L2.Key × V) (q : List L2.Key × Addr × Value) => p.1 = q.1 ∧ H q.2.1 = some (.tup (p.1.map kV)) ∧ RelV p.2 q.2.2) kvs ks → (∀ p ∈ kvs, SI p.1) → ∀ x ∈ ks, ∃ (y : Str) (j : Int), x.1 = [Sum.inr y, Sum.inl j] ∧ H x.2.1 = some (.tup [.str y, .int j])
  | _, _, .nil, _, x, hx => absurd hx (by simp)
  | p :: kvs, c :: ks, .cons h t, hp, x, hx => by
    rcases List.mem_cons.mp hx with rfl | hx
    · obtain ⟨i, j, e⟩ := hp p (List.mem_cons_self ..)
      obtain ⟨h1, h2, _⟩ := h
      rw [e] at h1 h2
      exact ⟨i, j, h1.symm, h2⟩
    · exact paired_SI t (fun q hq => hp q (List.mem_cons_of_mem _ hq)) x hx
noncomputable def encK (x : List L2.Key × Addr × Value) : PyData := .tuple (x.1.map keyP)
theorem each_ref {α : Type} (g : α → Addr) : ∀ {out : List Value} {bs : List α}, PySem.W.EachIs (fun v x => v = Value.ref (g x)) out bs → out = bs.map fun x => Value.ref (g x)
  | _, _, .nil => rfl
  | _, _, .cons h t => by rw [h, each_ref g t]; rfl
theorem each_of {α β : Type} {R : α → β → Prop} (f : β → α) : ∀ (bs : List β), (∀ b ∈ bs, R (f b) b) → PySem.W.EachIs R (bs.map f) bs
  | [], _ => .nil
  | b :: bs, h => .cons (h b (List.mem_cons_self ..)) (each_of f bs fun x hx => h x (List.mem_cons_of_mem _ hx))
theorem cr_sortedDS (hc : X.calm = true) (hu : X.A.units + 64 < cLine) : CallR X (.builtin "sorted") rSortDS := by
  intro pins s σ H xs us Q I r h
  obtain ⟨d, kvs, rfl, hd, hpair, q⟩ := h
  obtain ⟨u, rfl, rx⟩ := r.one
  cases rx
  obtain ⟨z, hs, ks, pr, o, es, ep, ho, hx, hdt, he, hn⟩ := (show ObjOk X.prog X.w H s.heap d (.dT kvs) from hd.ok I.hok)
  have l1 : es.size = ks.length := size_of_entries he
  have l2 : kvs.length = ks.length := Paired.length pr
  refine Calls.call_function_entry PyProof.Rows.kind_sorted PyProof.Rows.plain_sorted PyProof.Rows.entry_sorted (PyProof.Rows.args_sorted1 _) ?_
  unfold Builtin.«sorted»
  refine wpAny_bind (m := checkCount "sorted" 1 1 _) (wpAny_pure ?_)
  refine wpAny_bind (PySem.W.kdu_collect (A := X.A.in1) (kdl_raw hs hx hdt) (I.ok.hd hc) ho (by omega) fun h' tk acc' kp it => ?_)
  have ea : acc'.toList = ks.map fun x => Value.ref x.2.1 := by
    have hl : acc'.toList.length = ks.length := by rw [Array.length_toList, it.1]; exact l1
    apply List.ext_getElem?
    intro j
    rw [List.getElem?_map]
    cases hj : acc'.toList[j]? with
    | none =>
      have h1 := List.getElem?_eq_none_iff.mp hj
      rw [List.getElem?_eq_none (by omega)]
      all_goals rfl
    | some v =>
      obtain ⟨en, hen, hv⟩ := it.2 j v (by rw [← Array.getElem?_toList]; exact hj)
      have qe := entry_at he j
      rw [hen] at qe
      cases hb : ks[j]? with
      | none =>
        rw [hb] at qe
        exact nomatch (show some en = none from qe)
      | some b =>
        rw [hb] at qe
        have e2 : en = entryOfKey (tupleKind (mixKind X.prog X.w)) b := Option.some.inj qe
        rw [hv, e2]
        all_goals rfl
  have hl : acc'.toList.length = ks.length := by rw [ea, List.length_map]
  have hz : acc'.toList.length ≤ sizeLine := by omega
  have I1 : Inv X pins σ H { s with heap := h', toks := tk } := I.kept kp
  have hkeys := isKeys_of pr
  have hrefs : ∀ v ∈ acc'.toList, ∃ a, v = Value.ref a := fun v hv => by
    rw [ea] at hv
    obtain ⟨x, _, rfl⟩ := List.mem_map.mp hv
    exact ⟨_, rfl⟩
  have hSI := paired_SI pr hpair
  have hrd : ∀ x ∈ ks, ∀ h2 : Heap, (∀ b o, h'.get? b = some o → h2.get? b = some o) → Reads h2 (.ref x.2.1) (encK x) [] := fun x hx h2 k2 => by
    obtain ⟨y, j, e1, ht⟩ := hSI x hx
    obtain ⟨_, its2, r2, o, ho, hc, n, hd⟩ := I1.hok _ _ ht
    obtain ⟨u1, u2, rfl, ri, rj⟩ := vals2 r2
    obtain ⟨t1, rfl⟩ := ri
    obtain ⟨t2, rfl⟩ := rj
    unfold encK
    rw [e1]
    exact .tuple (k2 _ _ ho) hc hd (.cons (.str _ _) (.cons (.int _ _) .nil))
  have hal : PySem.W.AllAlike (ks.map encK) := fun d hd d' hd' => by
    obtain ⟨x, hx, rfl⟩ := List.mem_map.mp hd
    obtain ⟨x', hx', rfl⟩ := List.mem_map.mp hd'
    obtain ⟨y, j, e1, _⟩ := hSI x hx
    obtain ⟨y', j', e2, _⟩ := hSI x' hx'
    unfold encK
    rw [e1, e2]; rfl
  have hsr : PySem.W.Sortable (ks.map encK) := .inl fun d hd => by
    obtain ⟨x, hx, rfl⟩ := List.mem_map.mp hd
    obtain ⟨y, j, e1, _⟩ := hSI x hx
    unfold encK
    rw [e1]; exact ⟨_, _, rfl⟩
  refine wpAny_bind (wpAny_newList ?_ hz)
  have hoL : (h'.push (seqObj "list" acc'.toList.toArray 0)).get? h'.objs.size = some (seqObj "list" acc'.toList.toArray 0) := Heap.get?_push_size _ rfl
  have kL : ∀ b o, h'.get? b = some o → (h'.push (seqObj "list" acc'.toList.toArray 0)).get? b = some o := fun b o e => Heap.get?_push_of_some _ e
  show wpAny _ _ _ _ _ { s with heap := h'.push (seqObj "list" acc'.toList.toArray 0), toks := tk }
  have e1 : PySem.W.EachIs (fun (v : Value) (x : List L2.Key × Addr × Value) => v = Value.ref x.2.1) acc'.toList ks := by rw [ea]; exact each_of (R := fun (v : Value) (x : List L2.Key × Addr × Value) => v = Value.ref x.2.1) (fun x => Value.ref x.2.1) ks fun _ _ => rfl
  have e2 : PySem.W.EachIs (fun (v : Value) (x : List L2.Key × Addr × Value) => ∃ as, Reads (h'.push (seqObj "list" acc'.toList.toArray 0)) v (encK x) as ∧ h'.objs.size ∉ as) acc'.toList ks := by
    have := each_of (R := fun (v : Value) (x : List L2.Key × Addr × Value) => ∃ as, Reads (h'.push (seqObj "list" acc'.toList.toArray 0)) v (encK x) as ∧ h'.objs.size ∉ as) (fun x => Value.ref x.2.1) ks fun x hx => ⟨[], hrd x hx _ kL, by simp⟩
    rw [← ea] at this; exact this
  refine wpAny_bind (wpAny_holding (PySem.W.list_sort_data (s := { s with heap := h'.push (seqObj "list" acc'.toList.toArray 0), toks := tk }) (R := fun v x => v = Value.ref x.2.1) (bs := ks) (enc := encK) hoL e1 e2 hal hsr (by omega) (fun x hx => ?_) fun out hlo hE => ?_))
  · obtain ⟨y, j, e1, _⟩ := hSI x hx
    unfold encK
    rw [e1]
    have h1 : (PyData.tuple ([Sum.inr y, Sum.inl j].map keyP)).depth ≤ 5 := Nat.le_of_ble_eq_true rfl
    have h2 : X.A.in1.units = X.A.units + 1 := rfl
    omega
  · have eo := each_ref (fun x : List L2.Key × Addr × Value => x.2.1) hE
    have hp : out.Perm acc'.toList := by rw [ea, eo]; exact (List.mergeSort_perm ks _).map _
    have h3 : ∀ u ∈ out, ∃ a, u = Value.ref a := fun u hu => hrefs u (hp.mem_iff.mp hu)
    obtain ⟨e', he'⟩ := PyProof.Rows.sortedHeap_at (vs := acc'.toList) (out := out.toArray) hoL
    have hlen : (out.map backV).length ≤ sizeLine := by rw [List.length_map, hp.length_eq]; exact hz
    refine wpAny_pure ⟨_, rfl, .ref h'.objs.size, upd H h'.objs.size (.lst (out.map backV)), I1.laid (t' := tk) (fun b u e => ?_) (Nat.le_refl _)
      (show ObjOk X.prog X.w _ _ _ (.lst (out.map backV)) from ⟨hlen, out, e', vals_back h3, he'⟩), rfl, q _ _ _ (I1.hok.fresh (Nat.le_refl _)) hkeys ?_⟩
    · have hb : b < h'.objs.size := Heap.lt_size e
      rw [PyProof.Rows.sortedHeap_old (Nat.ne_of_lt hb) (by rw [size_push']; exact Nat.lt_succ_of_lt hb)]
      exact Heap.get?_push_of_some _ e
    · have := hp.map backV
      rw [ea, List.map_map] at this
      rw [List.map_map]
      exact this
end
noncomputable def tDisp1 (tk tv : TE) : TE := fun σ H Q => ∀ p, H p = none → tk σ (upd H p (.dT [])) fun x H1 => tv σ H1 fun y H2 => H2 p = some (.dT []) ∧ ∃ b ks, x = .ref b ∧ H2 b = some (.tup (ks.map kV)) ∧ Q (.ref p) (upd H2 p (.dT [(ks, y)]))
theorem pe_disp1 {X : Cx} {k v : Expr} {pos : Pos} {tk tv : TE} (hu : X.A.units + 64 < cLine) (hk : PE X k tk) (hv : PE X v tv) : PE X (.Dict [some k] [v] pos) (tDisp1 tk tv) := by
  refine ⟨fun pins s σ H Q I q => ?_⟩
  have hn := I.hok.fresh (Nat.le_refl s.heap.objs.size)
  have I1 := I.laid (a := s.heap.objs.size) (o := .dT []) (h' := s.heap.push { cls := .type "dict", data := .dict #[] }) (t' := s.toks) (fun _ _ q => Heap.get?_push_of_some _ q) (Nat.le_refl _) (dt_empty s.heap I.big)
  rw [arm_eval_Dict, zip_pairTrees [some k] [v] X.env pos rfl rfl, dictDisplay_pairs _ (by simp [pairTrees]) (by simp [pairTrees])]
  refine wpAny_bind (wpAny_standAt (wpAny_bind (wpAny_subDictH (knd := tupleKind (mixKind X.prog X.w)) (Q := fun d s' => wpAny (model X.prog X.w) X.A (pure (Value.ref d)) (EP X pins σ Q) X.xe s') ?_ (by simp [pairTrees]) ?_)))
  · show X.A.units < cLine
    omega
  refine pairTrees_cons_walk (thn (hk.run pins _ σ _ _ I1 (q _ hn)) fun u s1 ⟨x, H1, I2, rx, q1⟩ => thn (hv.run pins s1 σ H1 _ I2 q1) fun w2 s2 ⟨y, H2, I3, ry, q2⟩ => pairTrees_nil_walk ?_)
  obtain ⟨e, b, ks, rfl, eb, q3⟩ := q2
  cases (show u = Value.ref b from rx)
  obtain ⟨z, hd, xs, rel, dd⟩ := dt_of I3.hok e
  cases rel
  refine ⟨[(ks, b, w2)], ⟨rfl, rfl, key_of I3.hok eb, trivial⟩, dd, fun h' tk dd' hs => wpAny_pure ?_⟩
  obtain ⟨o, es, ep, hq, h2, h3, h4, _, h5⟩ := dd'
  refine ⟨.ref s.heap.objs.size, upd H2 s.heap.objs.size (.dT [(ks, y)]), d_write (t' := tk) (ob := .dT [(ks, y)]) I3 (by rw [e]; exact True.intro) hs ⟨o, hq⟩ ⟨by show 1 ≤ sizeLine; decide, hd, [(ks, b, w2)], .cons ⟨rfl, ?_, ry⟩ .nil, o, es, ep, hq, h2, h3, h4, h5⟩, rfl, q3⟩
  rw [upd_ne (ne_of eb e (fun z => nomatch z))]
  exact eb
end DL
set_option maxHeartbeats 4000000
namespace DL
open PySem PySem.Spec PyProof.Rows L2
section
variable {X : Cx}
noncomputable def rSortTI (K : PySem.W.Frag) : List V → Hp → VK → Prop := fun vs H Q => ∃ (a : Addr) (ns : List Int), vs = [V.ref a] ∧ SqT K H a (ns.map V.int) ∧
  ∀ (ns' : List Int) (p : Addr), ns'.Perm ns → ns'.Pairwise (· ≤ ·) → H p = none → Q (.ref p) (upd H p (.lst (ns'.map V.int)))
theorem cr_sortedTI : CallR X (.builtin "sorted") (rSortTI X.K) := by
  intro pins s σ H xs us Q I r h
  obtain ⟨a, ns, rfl, hs, q⟩ := h
  obtain ⟨u, rfl, rx⟩ := r.one
  cases rx
  obtain ⟨its, rv, pl, hz⟩ := I.tuple hs
  have hi := rv.ints
  have hlen := rv.length
  obtain ⟨o, ho, hc, n, hd⟩ := pl
  have hz' : its.length ≤ sizeLine := by omega
  refine Calls.call_function_entry PyProof.Rows.kind_sorted PyProof.Rows.plain_sorted PyProof.Rows.entry_sorted (PyProof.Rows.args_sorted1 _) ?_
  unfold Builtin.«sorted»
  refine wpAny_bind (m := checkCount "sorted" 1 1 _) (wpAny_pure ?_)
  refine wpAny_bind (wpAny_collect_seq a (.inr rfl) ho hc hd (fun h' kp => ?_) (by simpa using hz'))
  have I1 : Inv X pins σ H { s with heap := h' } := I.kept (t' := s.toks) kp
  refine wpAny_bind (wpAny_newList ?_ hz')
  have hoL : (h'.push (seqObj "list" its.toArray 0)).get? h'.objs.size = some (seqObj "list" its.toArray 0) := Heap.get?_push_size _ rfl
  show wpAny _ _ _ _ _ { s with heap := h'.push (seqObj "list" its.toArray 0) }
  refine wpAny_bind (wpAny_holding (wpAny_call_entry PyProof.Rows.slot_list_sort ⟨_, hoL, rfl⟩ PyProof.Rows.entry_list_sort
    (SrtO.list_sort_ord (s := { s with heap := h'.push (seqObj "list" its.toArray 0) }) SrtO.swo_int hoL hz' (fun h2 => SrtO.ints_sortable hi h2) fun out hs hb => ⟨_, rfl, ?_⟩)
    (PyProof.Rows.args_list_sort _)))
  obtain ⟨k1, k2, k3⟩ := SrtO.ints_out hi hs hb
  obtain ⟨e', he'⟩ := PyProof.Rows.sortedHeap_at (vs := its) (out := out.toArray) hoL
  have hl2 : ((out.map SrtO.iv).map V.int).length ≤ sizeLine := by
    rw [List.length_map, k2.length_eq]
    rw [List.length_map] at hlen
    omega
  refine wpAny_pure ⟨_, rfl, .ref h'.objs.size, upd H h'.objs.size (.lst ((out.map SrtO.iv).map V.int)), I1.laid (t' := s.toks) (fun b u e => ?_) (Nat.le_refl _)
    (show ObjOk X.prog X.w _ _ _ (.lst ((out.map SrtO.iv).map V.int)) from ⟨hl2, out, e', vals_of_ints k1, he'⟩), rfl, q _ _ k2 k3 (I1.hok.fresh (Nat.le_refl _))⟩
  have hb : b < h'.objs.size := Heap.lt_size e
  rw [PyProof.Rows.sortedHeap_old (Nat.ne_of_lt hb) (by rw [size_push']; exact Nat.lt_succ_of_lt hb)]
  exact Heap.get?_push_of_some _ e
noncomputable def encI (b : V × List Int) : PyData := .tuple (b.2.map PyData.int)
noncomputable def rSortLT (K : PySem.W.Frag) : List V → Hp → VK → Prop := fun vs H Q => ∃ (a : Addr) (bs : List (V × List Int)), vs = [V.ref a] ∧ SqL K H a (bs.map (·.1)) ∧ (∀ b ∈ bs, b.2 ≠ [] ∧ Dp K H b.1 (encI b)) ∧
  ∀ (bs' : List (V × List Int)) (p : Addr), bs'.Perm bs → bs'.Pairwise (fun x y => x.2 ≤ y.2) → H p = none → Q (.ref p) (upd H p (.lst (bs'.map (·.1))))
theorem eachI : ∀ {bs : List (V × List Int)} {its : List Value}, Vals (bs.map (·.1)) its → PySem.W.EachIs (fun v (b : V × List Int) => RelV b.1 v) its bs
  | [], _, h => by cases h; exact .nil
  | _ :: _, _, h => by cases h with | cons a b => exact .cons a (eachI b)
theorem valsI : ∀ {bs : List (V × List Int)} {out : List Value}, PySem.W.EachIs (fun v (b : V × List Int) => RelV b.1 v) out bs → Vals (bs.map (·.1)) out
  | _, _, .nil => .nil
  | _, _, .cons a b => .cons a (valsI b)
theorem alike_i : ∀ a b : List Int, PySem.W.alikeAll (a.map PyData.int) (b.map PyData.int) = true
  | [], _ => rfl
  | _ :: _, [] => rfl
  | x :: a, y :: b => by
    simp only [List.map_cons]
    rw [PySem.W.alikeAll, alike_i a b]; rfl
theorem depth_i : ∀ xs : List Int, PyData.depthAll (xs.map PyData.int) = 0
  | [] => rfl
  | x :: xs => by simp only [List.map_cons, PyData.depthAll, PyData.depth, depth_i xs]; rfl
theorem le_i (a b : V × List Int) : PySem.W.dataLe false encI a b = decide (a.2 ≤ b.2) := by
  show (!PySem.W.dataLt (.tuple (b.2.map .int)) (.tuple (a.2.map .int))) = _
  rw [PySem.W.dataLt_tuple]
  show (!PySem.W.rowLt (b.2.map .int) (a.2.map .int)) = _
  rw [PySem.W.dataLt_ints]
  by_cases h : b.2 < a.2
  · have h' : ¬ a.2 ≤ b.2 := fun r => List.not_lt.mpr r h
    simp [h, h']
  · have h' : a.2 ≤ b.2 := List.not_lt.mp h
    simp [h, h']
theorem cr_sortedLT (hu : X.A.units + 64 < cLine) : CallR X (.builtin "sorted") (rSortLT X.K) := by
  intro pins s σ H xs us Q I r h
  obtain ⟨a, bs, rfl, hs, hb, q⟩ := h
  obtain ⟨its, rv, hl, hz⟩ := I.list hs
  rw [Vals.ref1 r]
  have er : ∀ {bs : List (V × List Int)} {its : List Value}, Vals (bs.map (·.1)) its → (∀ b ∈ bs, Dp X.K H b.1 (encI b)) → PySem.W.EachIs (fun v b => ∃ as, Reads s.heap v (encI b) as) its bs := by
    intro bs
    induction bs with
    | nil => intro its h _; cases h; exact .nil
    | cons b bs ih =>
      intro its h hd
      cases h with
      | cons h1 h2 => exact .cons (Dp.reads I _ _ _ (hd b (List.mem_cons_self ..)) h1) (ih h2 fun c hc => hd c (List.mem_cons_of_mem _ hc))
  have hal : PySem.W.AllAlike (bs.map encI) := fun d hd d' hd' => by
    obtain ⟨b, _, rfl⟩ := List.mem_map.mp hd
    obtain ⟨b', _, rfl⟩ := List.mem_map.mp hd'
    show PySem.W.alike (.tuple _) (.tuple _) = true
    rw [PySem.W.alike]
    exact alike_i _ _
  have hk : PySem.W.Sortable (bs.map encI) := .inl fun d hd => by
    obtain ⟨b, h1, rfl⟩ := List.mem_map.mp hd
    have := (hb b h1).1
    unfold encI
    cases hb2 : b.2 with
    | nil => exact absurd hb2 this
    | cons x r => exact ⟨_, _, rfl⟩
  rw [List.length_map] at hz
  refine PySem.W.sorted_data (enc := encI) hl.isList (eachI rv) (er rv fun b h => (hb b h).2) hal hk hz (fun b _ => ?_) fun out hlo he => ?_
  · have : (encI b).depth ≤ 1 := by
      unfold encI
      simp only [PyData.depth, depth_i]
      omega
    omega
  · obtain ⟨ep, he'⟩ := PyProof.Rows.sortedAll_at s.heap its out.toArray
    have hp : (bs.mergeSort (PySem.W.dataLe false encI)).Perm bs := List.mergeSort_perm _ _
    have hpw : (bs.mergeSort (PySem.W.dataLe false encI)).Pairwise fun x y => x.2 ≤ y.2 := by
      have := PySem.W.sort_pairwise (le := PySem.W.dataLe false encI) (PySem.W.sortLe_total (PyProof.Rows.listOrd PyProof.Rows.itemOrd) false fun b => PySem.W.keyToks (encI b)) bs
      exact this.imp fun {x y} h => by
        have h2 : PySem.W.dataLe false encI x y = true := h
        rw [le_i] at h2
        exact of_decide_eq_true h2
    have hlen : ((bs.mergeSort (PySem.W.dataLe false encI)).map (·.1)).length ≤ sizeLine := by
      rw [List.length_map, hp.length_eq]; exact hz
    exact ⟨.ref _, upd H (s.heap.objs.size + 1) (.lst ((bs.mergeSort (PySem.W.dataLe false encI)).map (·.1))), I.laid (t' := s.toks) (fun _ _ => PyProof.Rows.sortedAll_old) (Nat.le_succ _) ⟨hlen, out, ep, valsI he, he'⟩, rfl, q _ _ hp hpw (I.hok.fresh (Nat.le_succ _))⟩
end
end DL
set_option maxHeartbeats 4000000
namespace DL
open PySem PySem.Spec PyProof.Rows L2
section
variable {X : Cx}
noncomputable def kI (k : List L2.Key) : List Int := k.filterMap fun x => match x with | .inl i => some i | .inr _ => none
noncomputable def rSortDP : List V → Hp → VK → Prop := fun xs H Q => ∃ d kvs, xs = [V.ref d] ∧ Rd H d (.dT kvs) ∧ (∀ p ∈ kvs, ∃ i j : Int, p.1 = [Sum.inl i, Sum.inl j]) ∧
  ∀ (p : Addr) (bs bs' : List (V × List Int)), H p = none → bs.map (·.2) = kvs.map (fun q => kI q.1) → (∀ b ∈ bs, ∃ a, b.1 = V.ref a ∧ H a = some (.tup (b.2.map V.int))) → bs'.Perm bs → bs'.Pairwise (fun x y => x.2 ≤ y.2) → Q (.ref p) (upd H p (.lst (bs'.map (·.1))))
theorem each_maps {α β : Type} {R : Value → β → Prop} {f : α → Value} {g : α → β} : ∀ {l : List α}, (∀ x ∈ l, R (f x) (g x)) → PySem.W.EachIs R (l.map f) (l.map g)
  | [], _ => .nil
  | x :: l, h => .cons (h x (List.mem_cons_self ..)) (each_maps fun y hy => h y (List.mem_cons_of_mem _ hy))
theorem paired_keys {α β γ : Type} {R : α → β → Prop} {f : α → γ} {g : β → γ} (hR : ∀ a b, R a b → f a = g b) : ∀ {xs : List α} {ys : List β}, Paired R xs ys → xs.map f = ys.map g
  | _, _, .nil => rfl
  | _, _, .cons h t => by rw [List.map_cons, List.map_cons, hR _ _ h, paired_keys hR t]
theorem paired_mem {α β : Type} {R : α → β → Prop} : ∀ {xs : List α} {ys : List β}, Paired R xs ys → ∀ y ∈ ys, ∃ x ∈ xs, R x y
  | _, _, .cons h t, y, hy => by
    rcases List.mem_cons.mp hy with rfl | hy
    · exact ⟨_, List.mem_cons_self .., h⟩
    · obtain ⟨x, hx, q⟩ := paired_mem t y hy
      exact ⟨x, List.mem_cons_of_mem _ hx, q⟩
theorem cr_sortedDP (hc : X.calm = true) (hu : X.A.units + 64 < cLine) : CallR X (.builtin "sorted") rSortDP := by
  intro pins s σ H xs us Q I r h
  obtain ⟨d, kvs, rfl, hd, hpair, q⟩ := h
  obtain ⟨u, rfl, rx⟩ := r.one
  cases rx
  obtain ⟨z, hs, ks, pr, o, es, ep, ho, hx, hdt, he, hn⟩ := (show ObjOk X.prog X.w H s.heap d (.dT kvs) from hd.ok I.hok)
  have l1 : es.size = ks.length := size_of_entries he
  have l2 : kvs.length = ks.length := Paired.length pr
  refine Calls.call_function_entry PyProof.Rows.kind_sorted PyProof.Rows.plain_sorted PyProof.Rows.entry_sorted (PyProof.Rows.args_sorted1 _) ?_
  unfold Builtin.«sorted»
  refine wpAny_bind (m := checkCount "sorted" 1 1 _) (wpAny_pure ?_)
  refine wpAny_bind (PySem.W.kdu_collect (A := X.A.in1) (kdl_raw hs hx hdt) (I.ok.hd hc) ho (by omega) fun h' tk acc' kp it => ?_)
  have ea : acc'.toList = ks.map fun x => Value.ref x.2.1 := by
    have hl : acc'.toList.length = ks.length := by rw [Array.length_toList, it.1]; exact l1
    apply List.ext_getElem?
    intro j
    rw [List.getElem?_map]
    cases hj : acc'.toList[j]? with
    | none =>
      have h1 := List.getElem?_eq_none_iff.mp hj
      rw [List.getElem?_eq_none (by omega)]
      all_goals rfl
    | some v =>
      obtain ⟨en, hen, hv⟩ := it.2 j v (by rw [← Array.getElem?_toList]; exact hj)
      have qe := entry_at he j
      rw [hen] at qe
      cases hb : ks[j]? with
      | none =>
        rw [hb] at qe
        exact nomatch (show some en = none from qe)
      | some b =>
        rw [hb] at qe
        have e2 : en = entryOfKey (tupleKind (mixKind X.prog X.w)) b := Option.some.inj qe
        rw [hv, e2]
        all_goals rfl
  have hlk : acc'.toList.length = ks.length := by rw [ea, List.length_map]
  have hz : acc'.toList.length ≤ sizeLine := by omega
  have I1 : Inv X pins σ H { s with heap := h', toks := tk } := I.kept kp
  have hkey : ∀ x ∈ ks, ∃ i j : Int, x.1 = [Sum.inl i, Sum.inl j] ∧ H x.2.1 = some (.tup [.int i, .int j]) := fun x hx => by
    obtain ⟨p, hp, e1, e2, _⟩ := paired_mem pr x hx
    obtain ⟨i, j, e⟩ := hpair p hp
    rw [e] at e1 e2
    exact ⟨i, j, e1.symm, e2⟩
  refine wpAny_bind (wpAny_newList ?_ hz)
  have hoL : (h'.push (seqObj "list" acc'.toList.toArray 0)).get? h'.objs.size = some (seqObj "list" acc'.toList.toArray 0) := Heap.get?_push_size _ rfl
  show wpAny _ _ _ _ _ { s with heap := h'.push (seqObj "list" acc'.toList.toArray 0), toks := tk }
  have hbs : (ks.map fun x => (V.ref x.2.1, kI x.1)).map (·.2) = kvs.map (fun q => kI q.1) := by
    rw [List.map_map]
    exact (paired_keys (f := fun p : List L2.Key × V => kI p.1) (g := fun y => kI y.1) (fun a b hab => by rw [hab.1]) pr).symm
  have hbt : ∀ b ∈ ks.map fun x => (V.ref x.2.1, kI x.1), ∃ a, b.1 = V.ref a ∧ H a = some (.tup (b.2.map V.int)) := fun b hb => by
    obtain ⟨x, hx, rfl⟩ := List.mem_map.mp hb
    obtain ⟨i, j, e1, e2⟩ := hkey x hx
    refine ⟨_, rfl, ?_⟩
    show H x.2.1 = some (.tup ((kI x.1).map V.int))
    rw [e1]
    exact e2
  have er : PySem.W.EachIs (fun v b => ∃ as, Reads (h'.push (seqObj "list" acc'.toList.toArray 0)) v (encI b) as ∧ h'.objs.size ∉ as) acc'.toList (ks.map fun x => (V.ref x.2.1, kI x.1)) := by
    rw [ea]
    refine each_maps fun x hx => ?_
    obtain ⟨i, j, e1, e2⟩ := hkey x hx
    obtain ⟨_, its2, r2, o2, ho2, hc2, n2, hd2⟩ := I1.hok _ _ e2
    obtain ⟨u1, u2, rfl, ri, rj⟩ := vals2 r2
    obtain ⟨t1, rfl⟩ := ri
    obtain ⟨t2, rfl⟩ := rj
    have e3 : encI (V.ref x.2.1, kI x.1) = .tuple [.int i, .int j] := by
      show PyData.tuple ((kI x.1).map PyData.int) = _
      rw [e1]
      rfl
    obtain ⟨as, hr, hn⟩ : ∃ as, Reads (h'.push (seqObj "list" (ks.map fun x => Value.ref x.2.1).toArray 0)) (.ref x.2.1) (.tuple [.int i, .int j]) as ∧ h'.objs.size ∉ as :=
      ⟨_, Reads.tuple (Heap.get?_push_of_some _ ho2) hc2 hd2 (.cons (.int i t1) (.cons (.int j t2) .nil)), by simp⟩
    exact ⟨as, by rw [e3]; exact hr, hn⟩
  have rv : Vals ((ks.map fun x => (V.ref x.2.1, kI x.1)).map (·.1)) acc'.toList := by
    rw [ea]
    clear hlk hz hkey hbs hbt er it ea he pr l1 l2 hn
    induction ks with
    | nil => exact .nil
    | cons x ks ih => exact .cons rfl ih
  have hal : PySem.W.AllAlike ((ks.map fun x => (V.ref x.2.1, kI x.1)).map encI) := fun d hd d' hd' => by
    obtain ⟨b, _, rfl⟩ := List.mem_map.mp hd
    obtain ⟨b', _, rfl⟩ := List.mem_map.mp hd'
    show PySem.W.alike (.tuple _) (.tuple _) = true
    rw [PySem.W.alike]
    exact alike_i _ _
  have hk : PySem.W.Sortable ((ks.map fun x => (V.ref x.2.1, kI x.1)).map encI) := .inl fun d hd => by
    obtain ⟨b, h1, rfl⟩ := List.mem_map.mp hd
    obtain ⟨x, hx, rfl⟩ := List.mem_map.mp h1
    obtain ⟨i, j, e1, _⟩ := hkey x hx
    unfold encI
    show ∃ _ _, PyData.tuple ((kI x.1).map PyData.int) = _
    rw [e1]
    exact ⟨_, _, rfl⟩
  have hdp : ∀ b : V × List Int, (encI b).depth ≤ 1 := fun b => by
    unfold encI
    simp only [PyData.depth, depth_i]
    omega
  generalize hB : (ks.map fun x => (V.ref x.2.1, kI x.1)) = bs at *
  have hbl : bs.length = ks.length := by rw [← hB, List.length_map]
  refine wpAny_bind (wpAny_holding (PySem.W.list_sort_data (enc := encI) hoL (eachI rv) er hal hk (by omega) (fun b _ => ?_) fun out hlo he => ?_))
  · have := hdp b
    show X.A.in1.units + 1 + _ < _
    have e : X.A.in1.units = X.A.units + 1 := rfl
    omega
  · obtain ⟨e', he'⟩ := PyProof.Rows.sortedHeap_at (vs := acc'.toList) (out := out.toArray) hoL
    have hp : (bs.mergeSort (PySem.W.dataLe false encI)).Perm bs := List.mergeSort_perm _ _
    have hpw : (bs.mergeSort (PySem.W.dataLe false encI)).Pairwise fun x y => x.2 ≤ y.2 := by
      have := PySem.W.sort_pairwise (le := PySem.W.dataLe false encI) (PySem.W.sortLe_total (PyProof.Rows.listOrd PyProof.Rows.itemOrd) false fun b => PySem.W.keyToks (encI b)) bs
      exact this.imp fun {x y} h => by
        have h2 : PySem.W.dataLe false encI x y = true := h
        rw [le_i] at h2
        exact of_decide_eq_true h2
    have hlen : ((bs.mergeSort (PySem.W.dataLe false encI)).map (·.1)).length ≤ sizeLine := by
      rw [List.length_map, hp.length_eq]; omega
    refine wpAny_pure ⟨_, rfl, .ref h'.objs.size, upd H h'.objs.size (.lst ((bs.mergeSort (PySem.W.dataLe false encI)).map (·.1))), I1.laid (t' := tk) (fun b u e => ?_) (Nat.le_refl _)
      (show ObjOk X.prog X.w _ _ _ (.lst _) from ⟨hlen, out, e', valsI he, he'⟩), rfl, q _ _ _ (I1.hok.fresh (Nat.le_refl _)) hbs hbt hp hpw⟩
    have hb : b < h'.objs.size := Heap.lt_size e
    rw [PyProof.Rows.sortedHeap_old (Nat.ne_of_lt hb) (by rw [size_push']; exact Nat.lt_succ_of_lt hb)]
    exact Heap.get?_push_of_some _ e
end
end DL
namespace PySem.SeqAt
open AutoSeq1 (wpAny_loadPart')
open MeetsSeq MeetsSeq2 MeetsSeq3
end PySem.SeqAt
namespace PySem.SeqAt
open PySem PySem.Calls PyProof.Rows PyProof.V PySem.Spec
end PySem.SeqAt
namespace DL
open PySem PySem.Spec PyProof.Rows L2
end DL
set_option maxHeartbeats 4000000
namespace DL
open PySem PySem.Spec PyProof.Rows L2
section
variable {X : Cx} {pins : List (Addr × Obj)} {σ : L2.St} {H : Hp} {s : Shared}
/-- how the things tracked change when a lambda is made: not at all, or by a new code object that is told in the table -/
inductive LamH (H : Hp) (P : Addr) (q : Str) (ps : Array Value) (c' : Addr) : Hp → Prop
  | same (h : H c' = some (LamX.CodeO c' q)) : LamH H P q ps c' H
  | new (more : Array Value) (h : H c' = none) (t : TriplesOk (ps ++ more).toList) (a : ∀ (pos : Pos) (cv : Value), codeAmong pos (ps ++ more).toList = some cv → codeAmong pos ps.toList = some cv ∨ cv = .ref c') : LamH H P q ps c' (upd (upd H P (.tbl (ps ++ more))) c' (LamX.CodeO c' q))
theorem LamH.keep {P : Addr} {q : Str} {ps : Array Value} {c' : Addr} {H1 : Hp} (l : LamH H P q ps c' H1) (hP : H P = some (.tbl ps)) {b : Addr} {o : HO} (h : H b = some o) (nt : ∀ ps, o ≠ .tbl ps) : H1 b = some o := by
  cases l with
  | same _ => exact h
  | new more hc _ _ => rw [upd_ne (ne_of_none h hc), upd_ne (fun z => nt ps (by rw [z, hP] at h; exact (Option.some.inj h).symm))]; exact h
end
end DL
namespace DL
open PySem PySem.Spec PyProof.Rows L2
end DL
set_option maxHeartbeats 4000000
namespace DL
open PySem PySem.Spec PyProof.Rows L2
section
variable {X : Cx}
noncomputable def sndP (b : V × PyData) : PyData := b.2
noncomputable def rSortAD (K : PySem.W.Frag) : List V → Hp → VK → Prop := fun vs H Q => ∃ (a : Addr) (bs : List (V × PyData)), vs = [V.ref a] ∧ SqL K H a (bs.map (·.1)) ∧ (∀ b ∈ bs, b.2.depth ≤ 20 ∧ Dp K H b.1 b.2) ∧ PySem.W.AllAlike (bs.map sndP) ∧ PySem.W.Sortable (bs.map sndP) ∧
  ∀ (bs' : List (V × PyData)) (p : Addr), bs'.Perm bs → bs'.Pairwise (fun x y => PySem.W.dataLt y.2 x.2 = false) → H p = none → Q (.ref p) (upd H p (.lst (bs'.map (·.1))))
theorem eachAD : ∀ {bs : List (V × PyData)} {its : List Value}, Vals (bs.map (·.1)) its → PySem.W.EachIs (fun v (b : V × PyData) => RelV b.1 v) its bs
  | [], _, h => by cases h; exact .nil
  | _ :: _, _, h => by cases h with | cons a b => exact .cons a (eachAD b)
theorem valsAD : ∀ {bs : List (V × PyData)} {out : List Value}, PySem.W.EachIs (fun v (b : V × PyData) => RelV b.1 v) out bs → Vals (bs.map (·.1)) out
  | _, _, .nil => .nil
  | _, _, .cons a b => .cons a (valsAD b)
theorem readsAD {pins : List (Addr × Obj)} {σ : L2.St} {H : Hp} {s : Shared} (I : L2.Inv X pins σ H s) : ∀ {bs : List (V × PyData)} {its : List Value}, Vals (bs.map (·.1)) its → (∀ b ∈ bs, Dp X.K H b.1 b.2) → PySem.W.EachIs (fun v b => ∃ as, Reads s.heap v (sndP b) as) its bs
  | [], _, h, _ => by cases h; exact .nil
  | b :: bs, _, h, hd => by
    cases h with
    | cons h1 h2 => exact .cons (Dp.reads I _ _ _ (hd b (List.mem_cons_self ..)) h1) (readsAD I h2 fun c hc => hd c (List.mem_cons_of_mem _ hc))
theorem cr_sortedAD (hu : X.A.units + 64 < cLine) : CallR X (.builtin "sorted") (rSortAD X.K) := by
  intro pins s σ H xs us Q I r h
  obtain ⟨a, bs, rfl, hs, hb, hal, hk, q⟩ := h
  obtain ⟨its, rv, hl, hz⟩ := I.list hs
  rw [Vals.ref1 r]
  rw [List.length_map] at hz
  refine PySem.W.sorted_data (enc := sndP) hl.isList (eachAD rv) (readsAD I rv fun b h => (hb b h).2) hal hk hz (fun b h => ?_) fun out hlo he => ?_
  · have := (hb b h).1
    show _ + (b.2).depth < _
    omega
  · obtain ⟨ep, he'⟩ := PyProof.Rows.sortedAll_at s.heap its out.toArray
    have hp : (bs.mergeSort (PySem.W.dataLe false sndP)).Perm bs := List.mergeSort_perm _ _
    have hpw : (bs.mergeSort (PySem.W.dataLe false sndP)).Pairwise fun x y => PySem.W.dataLt y.2 x.2 = false :=
      (PySem.W.sort_pairwise (le := PySem.W.dataLe false sndP) (PySem.W.sortLe_total (PyProof.Rows.listOrd PyProof.Rows.itemOrd) false fun b => PySem.W.keyToks (sndP b)) bs).imp fun {x y} h => by
        have h2 : (!PySem.W.dataLt y.2 x.2) = true := h
        simpa using h2
    have hlen : ((bs.mergeSort (PySem.W.dataLe false sndP)).map (·.1)).length ≤ sizeLine := by
      rw [List.length_map, hp.length_eq]; exact hz
    exact ⟨.ref _, upd H (s.heap.objs.size + 1) (.lst ((bs.mergeSort (PySem.W.dataLe false sndP)).map (·.1))), I.laid (t' := s.toks) (fun _ _ => PyProof.Rows.sortedAll_old) (Nat.le_succ _) ⟨hlen, out, ep, valsAD he, he'⟩, rfl, q _ _ hp hpw (I.hok.fresh (Nat.le_succ _))⟩
theorem le_tot : PySem.W.TotalLe (PySem.W.dataLe false fun b : PyData => b) := PySem.W.sortLe_total (PyProof.Rows.listOrd PyProof.Rows.itemOrd) false fun b => PySem.W.keyToks b
theorem le_iff {p q : PyData} : PySem.W.dataLe false (fun b : PyData => b) p q = true ↔ PySem.W.dataLt q p = false := by
  show (!PySem.W.dataLt q p) = true ↔ _
  simp
theorem minD_le : ∀ (xs : List PyData) (x : PyData), PySem.W.dataLt x (PySem.W.minD x xs) = false ∧ ∀ y ∈ xs, PySem.W.dataLt y (PySem.W.minD x xs) = false
  | [], x => by
    have h := le_tot.total x x
    exact ⟨le_iff.mp (by rcases h with h | h <;> exact h), fun y hy => absurd hy (by simp)⟩
  | y :: ys, x => by
    have e : PySem.W.minD x (y :: ys) = PySem.W.minD (if PySem.W.dataLt y x = true then y else x) ys := rfl
    rw [e]
    by_cases h : PySem.W.dataLt y x = true
    · rw [if_pos h]
      obtain ⟨h1, h2⟩ := minD_le ys y
      have hxy : PySem.W.dataLe false (fun b : PyData => b) y x = true := by
        rcases le_tot.total y x with z | z
        · exact z
        · rw [le_iff, h] at z; cases z
      refine ⟨le_iff.mp (le_tot.trans _ _ _ (le_iff.mpr h1) hxy), fun z hz => ?_⟩
      rcases List.mem_cons.mp hz with rfl | hz
      · exact h1
      · exact h2 z hz
    · rw [if_neg h]
      obtain ⟨h1, h2⟩ := minD_le ys x
      refine ⟨h1, fun z hz => ?_⟩
      rcases List.mem_cons.mp hz with rfl | hz
      · exact le_iff.mp (le_tot.trans _ _ _ (le_iff.mpr h1) (le_iff.mpr (by simpa using h)))
      · exact h2 z hz
noncomputable def rMinAD (K : PySem.W.Frag) : List V → Hp → VK → Prop := fun vs H Q => ∃ (a : Addr) (bs : List (V × PyData)), vs = [V.ref a] ∧ SqL K H a (bs.map (·.1)) ∧ bs ≠ [] ∧ (∀ b ∈ bs, b.2.depth ≤ 20 ∧ Dp K H b.1 b.2) ∧ PySem.W.AlikeAll (bs.map sndP) ∧
  ∀ b ∈ bs, (∀ c ∈ bs, PySem.W.dataLt c.2 b.2 = false) → Q b.1 H
theorem cr_minAD (hc : X.calm = true) (hu : X.A.units + 64 < cLine) : CallR X (.builtin "min") (rMinAD X.K) := by
  intro pins s σ H xs us Q I r h
  obtain ⟨a, bs, rfl, hs, hne, hb, hal, q⟩ := h
  obtain ⟨its, rv, hl, hz⟩ := I.list hs
  rw [Vals.ref1 r]
  obtain ⟨as, hr⟩ := PySem.W.each_readsAll sndP (readsAD I rv fun b h => (hb b h).2)
  cases bs with
  | nil => exact absurd rfl hne
  | cons b0 bs =>
    have hd : PyData.depthAll ((b0 :: bs).map sndP) ≤ 20 := by
      have : ∀ l : List (V × PyData), (∀ b ∈ l, b.2.depth ≤ 20) → PyData.depthAll (l.map sndP) ≤ 20 := by
        intro l
        induction l with
        | nil => intro _; exact Nat.zero_le _
        | cons c l ih =>
          intro h
          have h1 := h c (by simp)
          have h2 := ih fun d hd => h d (by simp [hd])
          simp only [List.map_cons, PyData.depthAll]
          show max (c.2).depth _ ≤ 20
          omega
      exact this _ fun b h => (hb b h).1
    refine PySem.W.min_list_data (I.ok.hd hc) hl.isList (by simpa using hr) hal (by simp only [List.map_cons] at hd; omega) fun i v h' tk as' hi rd hk => ?_
    have hi' : its[i]? = some v := by simpa using hi
    obtain ⟨b, hbi, rb⟩ : ∃ b, (b0 :: bs)[i]? = some b ∧ RelV b.1 v := by
      have hlen := rv.length
      have hlt := (List.getElem?_eq_some_iff.mp hi').1
      rw [List.length_map] at hlen
      have e : (b0 :: bs)[i]? = some ((b0 :: bs)[i]'(by omega)) := List.getElem?_eq_getElem _
      obtain ⟨u, hu1, hu2⟩ := rv.get (show ((b0 :: bs).map (·.1))[i]? = some ((b0 :: bs)[i]'(by omega)).1 by rw [List.getElem?_map, e]; rfl)
      rw [hi'] at hu1
      cases hu1
      exact ⟨_, e, hu2⟩
    have hm := List.mem_of_getElem? hbi
    obtain ⟨as2, r2⟩ := Dp.reads I _ _ _ (hb b hm).2 rb
    have eq : b.2 = PySem.W.minD (sndP b0) (bs.map sndP) := by
      have r3 := PyProof.Rows.Reads.keeps hk r2
      exact (r3.unique _ _ rd).1
    refine ⟨b.1, H, I.kept (t' := tk) hk, rb, q b hm fun c hc => ?_⟩
    rw [eq]
    rcases List.mem_cons.mp hc with rfl | hc
    · exact (minD_le _ _).1
    · exact (minD_le _ _).2 _ (List.mem_map.mpr ⟨c, hc, rfl⟩)
end
end DL
set_option maxHeartbeats 4000000
namespace DL
open PySem PySem.Spec PyProof.Rows L2
section
variable {X : Cx}
theorem call_ptup : CallR X (.type "tuple") (fun xs H Q => ∃ p ys, xs = [.ref p] ∧ SqL X.K H p ys ∧ ∀ (l : Addr) (o : Obj), o.dict = none → H l = none → Q (.ref l) (upd H l (.frz o (.tup ys)))) := by
  intro pins s σ H xs us Q I r h
  obtain ⟨p, ys, rfl, hq, q⟩ := h
  obtain ⟨u, rfl, rx⟩ := vals1 r
  cases rx
  obtain ⟨its, r', pl, hz⟩ := I.list hq
  have hlen := r'.length
  refine call_tuple_list pl.isList (fun h' kp => ?_) (by simp only [List.size_toArray] <;> omega)
  have I1 : Inv X pins σ H { s with heap := h' } := I.kept (t' := s.toks) kp
  have I2 : Inv X pins σ (upd H h'.objs.size (.frz { cls := .type "tuple", data := .seq its.toArray } (.tup ys))) { s with heap := h'.push { cls := .type "tuple", data := .seq its.toArray } } :=
    I1.laid (t' := s.toks) (fun b o e => Heap.get?_push_of_some _ e) (Nat.le_refl _) (show ObjOk X.prog X.w _ _ _ (.frz _ (.tup ys)) from ⟨Heap.get?_push_size _ rfl, hz, its, r', IsTup.new _ _⟩)
  exact ⟨.ref h'.objs.size, _, I2, rfl, q _ _ rfl (I1.hok.fresh (Nat.le_refl _))⟩
end
end DL
namespace DL
open PySem PySem.Spec PyProof.Rows L2
/-- constants -/
inductive CC where | non | bl (b : Bool) | int (i : Int) | str (x : Str)
noncomputable def CC.d : CC → D | .non => .non | .bl b => .bl b | .int i => .int i | .str x => .str x
/-- built-in functions -/
inductive BI where
  | len | abs | min2 | max2 | int1 | tuple1 | list1 | all1 | any1 | repr1 | sum1 | min1 | max1 | sorted1 | min3 | max3 | reprE | str1 | listD | intS | sortT | sortL | sortD | minD | sortP
  deriving DecidableEq
/-- types that isinstance asks about -/
inductive TyB where | int | bool | str | tuple | list
  deriving DecidableEq
mutual
inductive CE where
  | var (i : Nat)
  | con (c : CC)
  | glo (j : Nat)
  | bin (op : Operator) (m : Bool) (a b : CE)
  | neg (a : CE)
  | cmp (op : CmpOp) (a b : CE)
  | chain (op op' : CmpOp) (a b c : CE)
  | and_ (a b : CE)
  | not_ (a : CE)
  | ite (t : CB) (a b : CE)
  | tup (es : List CE)
  | lst (m : Bool) (es : List CE)
  | ix (a i : CE)
  | sl (m : Bool) (a : CE) (lo hi : CO)
  | call (j : Nat) (es : List CE)
  | bi (b : BI) (m : Bool) (es : List CE)
  | isi (t : TyB) (a : CE)
  | dnew
  | dnew1 (es : List CE) (v : CE)
  | dcomp (key val : CE) (tg : CT) (it : CI) (own : List Nat)
  | ptup (a : CE)
  | lz (m : Bool) (a b : CE)
  | lc (m : Bool) (elt : CE) (tg : CT) (it : CI) (ifs : List CB) (own : List Nat)
  | dnewS
  | dnew1S (k v : CE)
  | lenS (a : CE)
  | inS (a b : CE)
  | dcS (key val : CE) (tg : CT) (it : CI) (ifs : List CB) (own : List Nat)
  | revL (m : Bool) (a : CE)
  | scS (m : Bool) (elt : CE) (tg : CT) (it : CI) (ifs : List CB) (own : List Nat)
  | sSet (m : Bool) (a : CE)
  | fld (cn : Str) (a : CE) (f : Str)
  | meth (cn : Str) (a : CE) (m : Str) (j : Nat) (es : List CE)
  | mk (cn : Str) (j : Nat) (es : List CE)
inductive CB where
  | cand (a b : CB)
  | cor (a b : CB)
  | cnot (a : CB)
  | ccmp (op : CmpOp) (a b : CE)
  | cval (e : CE)
  | cdnil (a b : CE)
  | cinS (a b : CE)
inductive CT where
  | name (i : Nat)
  | tup (ts : List CT)
  | sub (a i : CE)
  | dsub (a : CE) (es : List CE)
  | ksub (a i : CE)
  | kput (a i : CE)
  | sput (a i : CE)
inductive CI where
  | seq (e : CE)
  | range1 (a : CE)
  | range3 (a b c : CE)
  | enum (a : CE)
  | zip2 (a b : CE)
  | keys (e : CE)
  | items (e : CE)
  | skeys (e : CE)
  | keysF (e : CE)
  | alt (a b : CI)
inductive CO where
  | no
  | yes (e : CE)
end
/-- a call that may raise: of a def, of a class, of a method (defs by their places in the table of those that may raise) -/
inductive XR where
  | fn (j : Nat) (es : List CE)
  | mk (cn : Str) (j : Nat) (es : List CE)
mutual
inductive CS where
  | ret (e : CE)
  | brk
  | never
  | asg (t : CT) (e : CE)
  | par2 (i j : Nat) (a b : CE)
  | par3 (i j k : Nat) (a b c : CE)
  | setLc (i : Nat) (e : CE)
  | append (a e : CE)
  | extend (a e : CE)
  | if_ (c : CB) (a b : List CS)
  | while_ (c : CB) (b : List CS)
  | for_ (t : CT) (it : CI) (b : List CS)
  | lock (s : CS)
  | lockS (s : CS)
  | fset (cn : Str) (a : CE) (f : Str) (e : CE)
end
noncomputable def lstOf (S : DStore) : D → Option (List D)
  | .lst xs => some xs
  | .ref n => match S[n]? with
    | some (.lst xs) => some xs
    | _ => none
  | _ => none
/-- a list lies there -/
noncomputable def LAt (S : DStore) (n : Nat) : Prop := ∃ xs, S[n]? = some (.lst xs)
theorem lat {S : DStore} {n : Nat} {xs : List D} (h : S[n]? = some (.lst xs)) : LAt S n := ⟨xs, h⟩
noncomputable def dctOf (S : DStore) (n : Nat) : Option (List (List L2.Key × D)) := match S[n]? with
  | some (.dct kvs) => some kvs
  | some (.dlk kvs) => some kvs
  | _ => none
/-- the states that stand in a dict of states -/
noncomputable def stsOf (S : DStore) (n : Nat) : Option (List K3) := match S[n]? with
  | some (.sts ks) => some ks
  | some (.stl ks) => some ks
  | _ => none
noncomputable def k3D (k : K3) : D := .tup [.int k.1, .bl k.2.1, .int k.2.2]
noncomputable def pD (p : Int × Int) : D := .tup [.int p.1, .int p.2]
noncomputable def put3D (ks : List K3) (k : K3) : List K3 := if k ∈ ks then ks else ks ++ [k]
noncomputable def seqOf (S : DStore) : D → Option (List D)
  | .tup xs => some xs
  | .scr xs => some xs
  | d => lstOf S d
/-- a tuple or a list -/
noncomputable def tlOf (S : DStore) : D → Option (List D)
  | .tup xs => some xs
  | .ptup xs => some xs
  | d => lstOf S d
noncomputable def newL (m : Bool) (ds : List D) (S : DStore) (Q : QE) : Prop :=
  match m with
  | true => Q (.ref S.length) (S ++ [.lst ds])
  | false => Q (.lst ds) S
noncomputable def i2 (x y : D) (k : Int → Int → Prop) : Prop := match x, y with
  | .int i, .int j => k i j
  | _, _ => False
noncomputable def MulOk (i j : Int) : Prop := CMul i j ∨ CMulW i j
noncomputable def PowOk (i j : Int) : Prop := 0 ≤ j ∧ (PySem.Builtin.Int.intBits i : Int) * j ≤ 2 ^ 27
noncomputable def DivOk (j : Int) : Prop := j ≠ 0 ∧ j.natAbs.log2 < 9000
noncomputable def addD (m : Bool) (x y : D) (S : DStore) (Q : QE) : Prop := match x, y with
  | .int i, .int j => Q (.int (i + j)) S
  | .str a, .str b => a.length + b.length ≤ sizeLine ∧ Q (.str (a ++ b)) S
  | .tup a, .tup b => a.length + b.length ≤ sizeLine ∧ Q (.tup (a ++ b)) S
  | x, y => ∃ a b, lstOf S x = some a ∧ lstOf S y = some b ∧ a.length + b.length ≤ sizeLine ∧ newL m (a ++ b) S Q
noncomputable def mulD (m : Bool) (x y : D) (S : DStore) (Q : QE) : Prop := match x, y with
  | .int i, .int j => MulOk i j ∧ Q (.int (i * j)) S
  | .tup a, .int k => a ≠ [] ∧ 0 ≤ k ∧ k ≤ 1000 ∧ a.length ≤ 1000 ∧ Q (.tup (List.replicate k.toNat a).flatten) S
  | x, .int k => ∃ a, lstOf S x = some a ∧ -(2 ^ 63) ≤ k ∧ k < 2 ^ 63 ∧ a.length * k.toNat ≤ sizeLine ∧ newL m (List.replicate k.toNat a).flatten S Q
  | _, _ => False
noncomputable def binD (op : Operator) (m : Bool) (x y : D) (S : DStore) (Q : QE) : Prop := match op with
  | .Add => addD m x y S Q
  | .Sub => i2 x y fun i j => Q (.int (i - j)) S
  | .Mult => mulD m x y S Q
  | .FloorDiv => i2 x y fun i j => DivOk j ∧ Q (.int (i.fdiv j)) S
  | .Mod => i2 x y fun i j => j ≠ 0 ∧ Q (.int (i.fmod j)) S
  | .Pow => i2 x y fun i j => PowOk i j ∧ Q (.int (i ^ j.toNat)) S
  | .LShift => i2 x y fun i j => CShl i j ∧ Q (.int (i * 2 ^ j.toNat)) S
  | .RShift => i2 x y fun i j => 0 ≤ j ∧ Q (.int (i / 2 ^ j.toNat)) S
  | _ => False
mutual
noncomputable def pur : D → Option PyData
  | .non => some .none
  | .bl b => some (.bool b)
  | .int i => some (.int i)
  | .str x => some (.str x)
  | .tup xs => (purs xs).map .tuple
  | .lst xs => (purs xs).map .list
  | .ref _ => none
  | .scr _ => none
  | .key _ => none
  | .ptup _ => none
noncomputable def purs : List D → Option (List PyData)
  | [] => some []
  | x :: xs => (pur x).bind fun p => (purs xs).map (p :: ·)
end
noncomputable def purS (S : DStore) : D → Option PyData
  | .ref n => ((lstOf S (.ref n)).bind purs).map .list
  | d => pur d
mutual
/-- data, empty dicts among them -/
noncomputable def purE (S : DStore) : D → Option PyData
  | .non => some .none
  | .bl b => some (.bool b)
  | .int i => some (.int i)
  | .str x => some (.str x)
  | .tup xs => (pursE S xs).map .tuple
  | .lst xs => (pursE S xs).map .list
  | .ref n => match S[n]? with
    | some (.dct []) => some (.dict [])
    | some (.lst xs) => (purs xs).map .list
    | _ => none
  | .scr _ => none
  | .key _ => none
  | .ptup _ => none
noncomputable def pursE (S : DStore) : List D → Option (List PyData)
  | [] => some []
  | x :: xs => (purE S x).bind fun p => (pursE S xs).map (p :: ·)
end
noncomputable def eqD (S : DStore) (x y : D) (Q : Bool → Prop) : Prop := match x, y with
  | .int i, .int j => Q (decide (i = j))
  | .bl i, .bl j => Q (decide (i = j))
  | .str i, .str j => Q (decide (i = j))
  | x, y => ∃ p q, purS S x = some p ∧ purS S y = some q ∧ SeqAt.shaped p = true ∧ SeqAt.shaped q = true ∧ Q (PyData.eqv p q)
/-- flat things: what `in` may compare -/
noncomputable def flatD : D → Bool
  | .non | .bl _ | .int _ | .str _ => true
  | _ => false
noncomputable def toV : D → V
  | .non => .non | .bl b => .bl b | .int i => .int i | .str x => .str x | _ => .non
noncomputable def inD (S : DStore) (x y : D) (Q : Bool → Prop) : Prop := match x with
  | .key ks => ∃ n kvs, y = .ref n ∧ dctOf S n = some kvs ∧ Q (valD kvs ks).isSome
  | .tup us => (∃ n kvs ks, y = .ref n ∧ dctOf S n = some kvs ∧ keysOf us = some ks ∧ Q (valD kvs ks).isSome) ∨ (∃ p ys ps, pur (.tup us) = some p ∧ y = .tup ys ∧ purs ys = some ps ∧ SeqAt.shaped p = true ∧ SeqAt.shaped (.tuple ps) = true ∧ p.depth ≤ 10 ∧ Q (ps.any fun z => PyData.eqv z p)) ∨
      ∃ p ps, pur (.tup us) = some p ∧ purS S y = some (.list ps) ∧ SeqAt.shaped p = true ∧ SeqAt.shaped (.list ps) = true ∧ p.depth ≤ 10 ∧ Q (ps.any fun z => PyData.eqv z p)
  | x => ∃ xs, seqOf S y = some xs ∧ flatD x = true ∧ xs.all flatD = true ∧ Q (inV (toV x) (xs.map toV))
noncomputable def isNon : D → Bool
  | .non => true
  | _ => false
noncomputable def isD (x y : D) (Q : Bool → Prop) : Prop := match y with
  | .non => Q (isNon x)
  | .bl b => ∃ c, x = .bl c ∧ Q (decide (c = b))
  | _ => False
/-- order: of whole numbers, and of tuples and lists that are alike -/
noncomputable def ordD (g : Int → Int → Bool) (f : PyData → PyData → Bool) (S : DStore) (x y : D) (Q : Bool → Prop) : Prop := match x, y with
  | .int i, .int j => Q (g i j)
  | x, y => ∃ p q, purS S x = some p ∧ purS S y = some q ∧ PySem.W.alike p q = true ∧ p ≠ .none ∧ p.depth ≤ 10 ∧ Q (f p q)
noncomputable def cmpD (op : CmpOp) (S : DStore) (x y : D) (Q : Bool → Prop) : Prop := match op with
  | .Lt => ordD (fun i j => decide (i < j)) (fun p q => PySem.W.dataLt p q) S x y Q
  | .LtE => ordD (fun i j => decide (i ≤ j)) (fun p q => !PySem.W.dataLt q p) S x y Q
  | .Gt => ordD (fun i j => decide (j < i)) (fun p q => PySem.W.dataLt q p) S x y Q
  | .GtE => ordD (fun i j => decide (j ≤ i)) (fun p q => !PySem.W.dataLt p q) S x y Q
  | .Eq => eqD S x y Q
  | .NotEq => eqD S x y fun b => Q (!b)
  | .In => inD S x y Q
  | .NotIn => inD S x y fun b => Q (!b)
  | .Is => isD x y Q
  | .IsNot => isD x y fun b => Q (!b)
noncomputable def truD (S : DStore) (x : D) (Q : Bool → Prop) : Prop := match x with
  | .non => Q false
  | .bl b => Q b
  | .int i => Q (i != 0)
  | .str y => y.length ≤ sizeLine ∧ Q ((y.length : Int) != 0)
  | d => ∃ xs, seqOf S d = some xs ∧ Q (!xs.isEmpty)
noncomputable def ixD (S : DStore) (x y : D) (Q : D → Prop) : Prop := match y with
  | .int i => match x with
    | .str z => ∃ c, z.length ≤ sizeLine ∧ atI z.cps.toList i = some c ∧ Q (.str ⟨#[c]⟩)
    | d => ∃ xs v, seqOf S d = some xs ∧ atI xs i = some v ∧ Q v
  | .tup ys => ∃ n kvs ks v, x = .ref n ∧ dctOf S n = some kvs ∧ keysOf ys = some ks ∧ valD kvs ks = some v ∧ Q v
  | .key ks => ∃ n kvs v, x = .ref n ∧ dctOf S n = some kvs ∧ valD kvs ks = some v ∧ Q v
  | _ => False
noncomputable def cutD (xs : List D) (lo hi : Option Int) : List D := (xs.drop (HT.sIx xs.length 0 lo)).take (HT.sIx xs.length xs.length hi - HT.sIx xs.length 0 lo)
noncomputable def slD (m : Bool) (S : DStore) (x : D) (lo hi : Option Int) (Q : QE) : Prop := match x with
  | .tup xs => Q (.tup (cutD xs lo hi)) S
  | .ptup xs => Q (.tup (cutD xs lo hi)) S
  | d => ∃ xs, lstOf S d = some xs ∧ newL m (cutD xs lo hi) S Q
structure RepOk (p : PyData) : Prop where
  sh : p.showable = true
  dp : p.depth ≤ 50
  nd : p.hasDict = false
  sz : p.shown.length ≤ sizeLine
noncomputable def blOf : D → Option Bool
  | .bl b => some b
  | _ => none
noncomputable def inOf : D → Option Int
  | .int b => some b
  | _ => none
/-- sorted: ints, or the keys of a dict of pairs of ints -/
noncomputable def srtD (m : Bool) (d : D) (S : DStore) (Q : QE) : Prop :=
  (∃ xs ns, lstOf S d = some xs ∧ xs.mapM inOf = some ns ∧ ∀ ns' : List Int, ns'.Perm ns → ns'.Pairwise (· ≤ ·) → newL m (ns'.map D.int) S Q) ∨
  (∃ n kvs, d = .ref n ∧ dctOf S n = some kvs ∧ (∀ p ∈ kvs, ∃ i j : Int, p.1 = [Sum.inl i, Sum.inl j]) ∧ ∀ ds' : List D, ds'.Perm (kvs.map fun p => D.tup (p.1.map keyD)) → newL m ds' S Q) ∨
  (∃ n kvs, d = .ref n ∧ dctOf S n = some kvs ∧ (∀ p ∈ kvs, SI p.1) ∧ ∀ ds' : List D, ds'.Perm (kvs.map fun p => D.tup (p.1.map keyD)) → newL m ds' S Q)
noncomputable def tI (r : List Int) : D := .tup (r.map D.int)
noncomputable def kPr : List L2.Key → Int × Int
  | [.inl i, .inl j] => (i, j)
  | _ => (0, 0)
noncomputable def biD (b : BI) (m : Bool) (xs : List D) (S : DStore) (Q : QE) : Prop := match b, xs with
  | .len, [.str y] => y.length ≤ sizeLine ∧ Q (.int y.length) S
  | .len, [d] => ∃ xs, seqOf S d = some xs ∧ Q (.int xs.length) S
  | .abs, [.int i] => Q (.int (if i < 0 then -i else i)) S
  | .min2, [.int i, .int j] => Q (.int (if j < i then j else i)) S
  | .max2, [.int i, .int j] => Q (.int (if j > i then j else i)) S
  | .int1, [.int i] => Q (.int i) S
  | .int1, [.bl k] => Q (.int (if k then 1 else 0)) S
  | .tuple1, [.tup xs] => Q (.tup xs) S
  | .tuple1, [d] => ∃ xs, lstOf S d = some xs ∧ Q (.tup xs) S
  | .list1, [d] => ∃ xs, seqOf S d = some xs ∧ newL m xs S Q
  | .listD, [d] => ∃ n kvs, d = .ref n ∧ dctOf S n = some kvs ∧ newL m (kvs.map fun p => D.tup (p.1.map keyD)) S Q
  | .all1, [d] => ∃ xs bs, lstOf S d = some xs ∧ xs.mapM blOf = some bs ∧ Q (.bl (bs.all id)) S
  | .any1, [d] => ∃ xs bs, lstOf S d = some xs ∧ xs.mapM blOf = some bs ∧ Q (.bl (bs.any id)) S
  | .sum1, [d] => ∃ xs bs, tlOf S d = some xs ∧ xs.mapM inOf = some bs ∧ Q (.int bs.sum) S
  | .min1, [d] => ∃ xs bs m, tlOf S d = some xs ∧ xs.mapM inOf = some bs ∧ m ∈ bs ∧ (∀ y ∈ bs, m ≤ y) ∧ Q (.int m) S
  | .max1, [d] => ∃ xs bs m, tlOf S d = some xs ∧ xs.mapM inOf = some bs ∧ m ∈ bs ∧ (∀ y ∈ bs, y ≤ m) ∧ Q (.int m) S
  | .min3, [.int i, .int j, .int k] => Q (.int (if k < (if j < i then j else i) then k else if j < i then j else i)) S
  | .max3, [.int i, .int j, .int k] => Q (.int (if k > (if j > i then j else i) then k else if j > i then j else i)) S
  | .repr1, [d] => ∃ p, purS S d = some p ∧ RepOk p ∧ Q (.str p.shown) S
  | .sorted1, [d] => srtD m d S Q
  | .sortT, [.tup xs] => ∃ ns, xs.mapM inOf = some ns ∧ ∀ ns' : List Int, ns'.Perm ns → ns'.Pairwise (· ≤ ·) → newL m (ns'.map D.int) S Q
  | .sortL, [d] => ∃ rows : List (List Int), lstOf S d = some (rows.map tI) ∧ (∀ r ∈ rows, r ≠ []) ∧ ∀ rows' : List (List Int), rows'.Perm rows → rows'.Pairwise (· ≤ ·) → newL m (rows'.map tI) S Q
  | .sortP, [d] => ∃ n kvs, d = .ref n ∧ dctOf S n = some kvs ∧ (∀ p ∈ kvs, ∃ i j : Int, p.1 = [Sum.inl i, Sum.inl j]) ∧ ∀ rs : List (Int × Int), rs.Perm (kvs.map fun p => kPr p.1) → rs.Pairwise (fun a b => a.1 < b.1 ∨ a.1 = b.1 ∧ a.2 ≤ b.2) → newL m (rs.map pD) S Q
  | .sortD, [d] => ∃ bs : List (D × PyData), lstOf S d = some (bs.map (·.1)) ∧ (∀ b ∈ bs, pur b.1 = some b.2 ∧ b.2.depth ≤ 20) ∧ PySem.W.AllAlike (bs.map (·.2)) ∧ PySem.W.Sortable (bs.map (·.2)) ∧ ∀ bs' : List (D × PyData), bs'.Perm bs → bs'.Pairwise (fun x y => PySem.W.dataLt y.2 x.2 = false) → newL m (bs'.map (·.1)) S Q
  | .minD, [d] => ∃ bs : List (D × PyData), lstOf S d = some (bs.map (·.1)) ∧ bs ≠ [] ∧ (∀ b ∈ bs, pur b.1 = some b.2 ∧ b.2.depth ≤ 20) ∧ PySem.W.AlikeAll (bs.map (·.2)) ∧ ∀ b ∈ bs, (∀ c ∈ bs, PySem.W.dataLt c.2 b.2 = false) → Q b.1 S
  | .intS, [.str z] => ∃ n, PySem.intText? z = some n ∧ z.length ≤ 640 ∧ Q (.int n) S
  | .str1, [d] => ∃ i, d = .int i ∧ i.natAbs.log2 < 1920 ∧ Q (.str (toString i)) S
  | .reprE, [d] => ∃ p, purE S d = some p ∧ RepOkE p ∧ Q (.str p.shown) S
  | _, _ => False
noncomputable def isiD : TyB → D → Bool
  | .int, .int _ => true
  | .int, .bl _ => true
  | .bool, .bl _ => true
  | .str, .str _ => true
  | .tuple, .tup _ => true
  | .tuple, .key _ => true
  | .list, .lst _ => true
  | .list, .ref _ => true
  | _, _ => false
noncomputable def isiC : TyB → Cell → Bool
  | .list, .lst _ => true
  | _, _ => false
noncomputable def isiNP (ts : List TyB) (x : D) (S : DStore) (Q : QE) : Prop := match x with
  | .scr _ => False
  | .ptup _ => False
  | .ref n => ∃ c, S[n]? = some c ∧ match c with
    | .dlk _ => False
    | .dkl _ => False
    | .sts _ => False
    | .stl _ => False
    | .tks _ => False
    | .ins _ _ => False
    | .exn _ _ => False
    | c => Q (.bl (ts.any fun t => isiC t c)) S
  | x => Q (.bl (ts.any fun t => isiD t x)) S
noncomputable def isiP (t : TyB) (x : D) (S : DStore) (Q : QE) : Prop := match x with
  | .scr _ => False
  | .ptup _ => False
  | .ref n => ∃ c, S[n]? = some c ∧ match c with
    | .dlk _ => False
    | .dkl _ => False
    | .sts _ => False
    | .stl _ => False
    | .tks _ => False
    | .ins _ _ => False
    | .exn _ _ => False
    | c => Q (.bl (isiC t c)) S
  | x => Q (.bl (isiD t x)) S
/-- what is taken apart -/
noncomputable def unpD (S : DStore) (d : D) (k : List D → Prop) : Prop := match d with
  | .tup xs => k xs
  | d => ∃ xs, lstOf S d = some xs ∧ k xs
/-- what is wished of an exception: its class, its fields -/
noncomputable abbrev QX := Str → List D → DStore → Prop
structure Fns where
  fn : Nat → List D → DStore → QE → Prop
  gl : Nat → D
  /-- the defs that may raise -/
  fx : Nat → List D → DStore → QE → QX → Prop := fun _ _ _ _ _ => False
  /-- what is wished of an exception that leaves the def -/
  xc : QX := fun _ _ _ => False
structure DEnds where
  nx : DEnv → DStore → Prop
  rt : QE
  bk : DEnv → DStore → Prop := fun _ _ => False
  ct : DEnv → DStore → Prop := fun _ _ => False
/-- what is walked: its items, and what must stay -/
noncomputable abbrev RI := List D → (DStore → Prop) → DStore → Prop
noncomputable def itD (S : DStore) (x : D) (R : RI) : Prop := match x with
  | .tup xs => R xs (fun _ => True) S
  | .ptup xs => R xs (fun _ => True) S
  | .lst xs => R xs (fun _ => True) S
  | .scr xs => R xs (fun _ => True) S
  | .ref n => ∃ xs, S[n]? = some (.lst xs) ∧ R xs (fun S' => S'[n]? = some (.lst xs)) S
  | _ => False
noncomputable def zipD (xs ys : List D) : List D := (xs.zip ys).map fun p => .tup [p.1, p.2]
noncomputable def zipP (S : DStore) (x y : D) (R : RI) : Prop := match x, y with
  | .tup xs, .tup ys => R (zipD xs ys) (fun _ => True) S
  | x, y => ∃ xs ys, tlOf S x = some xs ∧ tlOf S y = some ys ∧ R (zipD xs ys) (fun S' => tlOf S' x = some xs ∧ tlOf S' y = some ys) S
noncomputable def enumD (xs : List D) : List D := xs.zipIdx.map fun p => .tup [.int p.2, p.1]
noncomputable def enumP (S : DStore) (x : D) (R : RI) : Prop := match x with
  | .tup xs => R (enumD xs) (fun _ => True) S
  | x => ∃ xs, lstOf S x = some xs ∧ R (enumD xs) (fun S' => lstOf S' x = some xs) S
noncomputable def range3D (lo c : Int) (n : Nat) : List D := (List.range n).map fun (k : Nat) => .int (lo + (k : Int) * c)
noncomputable def rangeD (lo hi : Int) : List D := (List.range (hi - lo).toNat).map fun (k : Nat) => .int (lo + k)
noncomputable def Sm (i : Int) : Prop := -(2 ^ 62) ≤ i ∧ i < 2 ^ 62
noncomputable def wipeD (ρ : DEnv) : List Nat → DEnv
  | [] => ρ
  | v :: vs => (wipeD ρ vs).set v none
/-- the rule of a walk that gathers -/
noncomputable def wpGather (items : List D) (G : DStore → Prop) (S : DStore) (turn : D → DStore → (Option D → DStore → Prop) → Prop) (Q : List D → DStore → Prop) : Prop :=
  ∃ W : Nat → List D → DStore → Prop, W 0 [] S ∧ (∀ i acc S, W i acc S → G S ∧ acc.length ≤ i ∧ i ≤ items.length) ∧ items.length ≤ sizeLine ∧
    (∀ i x acc S, W i acc S → items[i]? = some x → turn x S fun o S' => match o with | some y => W (i + 1) (acc ++ [y]) S' | none => W (i + 1) acc S') ∧
    ∀ acc S, W items.length acc S → Q acc S
noncomputable def wpWalk (items : List D) (G : DStore → Prop) (ρ : DEnv) (S : DStore) (turn : D → DEnv → DStore → (DEnv → DStore → Prop) → Prop) (Q : DEnv → DStore → Prop) : Prop :=
  ∃ W : Nat → DEnv → DStore → Prop, W 0 ρ S ∧ (∀ i ρ S, W i ρ S → G S) ∧
    (∀ i x ρ S, W i ρ S → items[i]? = some x → turn x ρ S (W (i + 1))) ∧ ∀ ρ S, W items.length ρ S → Q ρ S
noncomputable def wpLoop (ρ : DEnv) (S : DStore) (test : DEnv → DStore → (Bool → DStore → Prop) → Prop) (turn : DEnv → DStore → (DEnv → DStore → Prop) → Prop) (Q : DEnv → DStore → Prop) : Prop :=
  ∃ W : Nat → DEnv → DStore → Prop, (∃ m, W m ρ S) ∧ ∀ m ρ S, W m ρ S → test ρ S fun b S1 => if b = true then turn ρ S1 (fun ρ' S' => ∃ m', m' < m ∧ W m' ρ' S') else Q ρ S1
section
variable (G : Fns)
mutual
noncomputable def wpE : CE → DEnv → DStore → QE → Prop
  | .var i, ρ, S, Q => ∃ d, ρ[i]? = some (some d) ∧ Q d S
  | .con c, _, S, Q => Q c.d S
  | .glo j, _, S, Q => Q (G.gl j) S
  | .bin op m a b, ρ, S, Q => wpE a ρ S fun x S1 => wpE b ρ S1 fun y S2 => binD op m x y S2 Q
  | .neg a, ρ, S, Q => wpE a ρ S fun x S1 => ∃ i, x = .int i ∧ Q (.int (-i)) S1
  | .cmp op a b, ρ, S, Q => wpE a ρ S fun x S1 => wpE b ρ S1 fun y S2 => cmpD op S2 x y fun r => Q (.bl r) S2
  | .chain op op' a b c, ρ, S, Q => wpE a ρ S fun x S1 => wpE b ρ S1 fun y S2 => cmpD op S2 x y fun r => if r = true then wpE c ρ S2 fun z S3 => cmpD op' S3 y z fun r' => Q (.bl r') S3 else Q (.bl false) S2
  | .and_ a b, ρ, S, Q => wpE a ρ S fun x S1 => ∃ c, x = .bl c ∧ if c = true then wpE b ρ S1 Q else Q (.bl false) S1
  | .not_ a, ρ, S, Q => wpE a ρ S fun x S1 => ∃ c, x = .bl c ∧ Q (.bl (!c)) S1
  | .ite t a b, ρ, S, Q => wpB t ρ S fun r S1 => if r = true then wpE a ρ S1 Q else wpE b ρ S1 Q
  | .tup es, ρ, S, Q => wpEs es ρ S fun ds S1 => Q (.tup ds) S1
  | .lst m es, ρ, S, Q => wpEs es ρ S fun ds S1 => newL m ds S1 Q
  | .ix a i, ρ, S, Q => wpE a ρ S fun x S1 => wpE i ρ S1 fun y S2 => ixD S2 x y fun d => Q d S2
  | .sl m a lo hi, ρ, S, Q => wpE a ρ S fun x S1 => wpO lo ρ S1 fun l S2 => wpO hi ρ S2 fun h S3 => slD m S3 x l h Q
  | .call j es, ρ, S, Q => wpEs es ρ S fun ds S1 => G.fn j ds S1 Q
  | .bi b m es, ρ, S, Q => wpEs es ρ S fun ds S1 => biD b m ds S1 Q
  | .dnew, _, S, Q => Q (.ref S.length) (S ++ [.dct []])
  | .dnew1 es v, ρ, S, Q => wpEs es ρ (S ++ [.dct []]) fun ys S1 => wpE v ρ S1 fun z S2 => ∃ ks, keysOf ys = some ks ∧ S2[S.length]? = some (.dct []) ∧ Q (.ref S.length) (S2.set S.length (.dct [(ks, z)]))
  | .dcomp key val tg it own, ρ, S, Q => wpI it ρ S fun items G S1 => ∃ W : Nat → List (L2.Key × D) → DStore → Prop, W 0 [] S1 ∧ (∀ i acc S, W i acc S → G S ∧ i ≤ items.length) ∧
      (∀ i x acc S, W i acc S → items[i]? = some x → wpG tg x (wipeD ρ own) S fun ρ2 S2 => wpE key ρ2 S2 fun y S3 => wpE val ρ2 S3 fun z S4 => ∃ k, keyOf y = some k ∧ acc.length < sizeLine ∧ W (i + 1) (putD acc k z) S4) ∧
      ∀ acc S, W items.length acc S → Q (.ref S.length) (S ++ [.dkk acc])
  | .ptup a, ρ, S, Q => wpE a ρ S fun x S1 => ∃ xs, lstOf S1 x = some xs ∧ Q (.ptup xs) S1
  | .lz m a b, ρ, S, Q => wpE a ρ S fun x S1 => wpE b ρ S1 fun y S2 => ∃ xs ys, lstOf S2 x = some xs ∧ lstOf S2 y = some ys ∧ (xs.zip ys).length ≤ sizeLine ∧ newL m (zipD xs ys) S2 Q
  | .isi t a, ρ, S, Q => wpE a ρ S fun x S1 => isiP t x S1 Q
  | .lc m elt tg it ifs own, ρ, S, Q => wpI it ρ S fun items G S1 => wpGather items G S1
      (fun x S' N => wpG tg x (wipeD ρ own) S' fun ρ2 S2 => wpBs ifs ρ2 S2 fun r S3 => if r = true then wpE elt ρ2 S3 fun y S4 => N (some y) S4 else N none S3)
      fun acc S' => newL m acc S' Q
  | .dnewS, _, S, Q => Q (.ref S.length) (S ++ [.sts []])
  | .dnew1S k v, ρ, S, Q => wpE k ρ (S ++ [.sts []]) fun x S1 => wpE v ρ S1 fun y S2 => ∃ st, x = k3D st ∧ y = .bl true ∧ S2[S.length]? = some (.sts []) ∧ Q (.ref S.length) (S2.set S.length (.sts [st]))
  | .lenS a, ρ, S, Q => wpE a ρ S fun x S1 => ∃ n ks, x = .ref n ∧ stsOf S1 n = some ks ∧ Q (.int ks.length) S1
  | .inS a b, ρ, S, Q => wpE a ρ S fun x S1 => wpE b ρ S1 fun y S2 => ∃ st n ks, x = k3D st ∧ y = .ref n ∧ stsOf S2 n = some ks ∧ Q (.bl (decide (st ∈ ks))) S2
  | .dcS key val tg it ifs own, ρ, S, Q => wpI it ρ S fun items G S1 => wpGather items G S1
      (fun x S' N => wpG tg x (wipeD ρ own) S' fun ρ2 S2 => wpBs ifs ρ2 S2 fun r S3 => if r = true then wpE key ρ2 S3 fun y S4 => wpE val ρ2 S4 fun z S5 => z = .bl true ∧ ∃ st, y = k3D st ∧ N (some y) S5 else N none S3)
      fun acc S' => ∀ ks : List K3, acc = ks.map k3D → Q (.ref S'.length) (S' ++ [.sts (ks.foldl put3D [])])
  | .revL m a, ρ, S, Q => wpE a ρ S fun x S1 => ∃ xs, lstOf S1 x = some xs ∧ newL m xs.reverse S1 Q
  | .scS m elt tg it ifs own, ρ, S, Q => wpI it ρ S fun items G S1 => items.length < 64 ∧ wpGather items G S1
      (fun x S' N => wpG tg x (wipeD ρ own) S' fun ρ2 S2 => wpBs ifs ρ2 S2 fun r S3 => if r = true then wpE elt ρ2 S3 fun y S4 => ∃ k : Int, y = .int k ∧ N (some y) S4 else N none S3)
      fun acc S' => ∀ ns ns' : List Int, acc = ns.map D.int → ns'.Pairwise (· < ·) → (∀ k, k ∈ ns' ↔ k ∈ ns) → newL m (ns'.map D.int) S' Q
  | .sSet m a, ρ, S, Q => wpE a ρ S fun x S1 => ∃ ns M : List Int, lstOf S1 x = some (ns.map D.int) ∧ ns.length < 4000 ∧ M.length < 64 ∧ (∀ k ∈ ns, k ∈ M) ∧ ∀ ns' : List Int, ns'.Pairwise (· < ·) → (∀ k, k ∈ ns' ↔ k ∈ ns) → newL m (ns'.map D.int) S1 Q
  | .fld cn a f, ρ, S, Q => wpE a ρ S fun x S1 => ∃ n fs v, x = .ref n ∧ S1[n]? = some (.ins cn fs) ∧ fs.lookup f = some v ∧ Q v S1
  | .meth cn a m j es, ρ, S, Q => wpE a ρ S fun x S1 => ∃ n fs, x = .ref n ∧ S1[n]? = some (.ins cn fs) ∧ fs.lookup m = none ∧ wpEs es ρ S1 fun ds S2 => G.fn j (x :: ds) S2 Q
  | .mk cn j es, ρ, S, Q => wpEs es ρ S fun ds S1 => G.fn j (.ref S1.length :: ds) (S1 ++ [.ins cn []]) fun v S2 => v = .non ∧ Q (.ref S1.length) S2
noncomputable def wpEs : List CE → DEnv → DStore → (List D → DStore → Prop) → Prop
  | [], _, S, Q => Q [] S
  | e :: es, ρ, S, Q => wpE e ρ S fun d S1 => wpEs es ρ S1 fun ds S2 => Q (d :: ds) S2
noncomputable def wpO : CO → DEnv → DStore → (Option Int → DStore → Prop) → Prop
  | .no, _, S, Q => Q none S
  | .yes e, ρ, S, Q => wpE e ρ S fun x S1 => ∃ i, x = .int i ∧ Q (some i) S1
noncomputable def wpB : CB → DEnv → DStore → (Bool → DStore → Prop) → Prop
  | .cand a b, ρ, S, Q => wpB a ρ S fun r S1 => if r = true then wpB b ρ S1 Q else Q false S1
  | .cor a b, ρ, S, Q => wpB a ρ S fun r S1 => if r = true then Q true S1 else wpB b ρ S1 Q
  | .cnot a, ρ, S, Q => wpB a ρ S fun r S1 => Q (!r) S1
  | .ccmp op a b, ρ, S, Q => wpE a ρ S fun x S1 => wpE b ρ S1 fun y S2 => cmpD op S2 x y fun r => Q r S2
  | .cval e, ρ, S, Q => wpE e ρ S fun x S1 => truD S1 x fun r => Q r S1
  | .cinS a b, ρ, S, Q => wpE a ρ S fun x S1 => wpE b ρ S1 fun y S2 => ∃ st n ks, x = k3D st ∧ y = .ref n ∧ stsOf S2 n = some ks ∧ Q (decide (st ∈ ks)) S2
  | .cdnil a b, ρ, S, Q => wpE a ρ S fun x S1 => wpE b ρ S1 fun y S2 => ∃ n m kvs, x = .ref n ∧ y = .ref m ∧ dctOf S2 n = some kvs ∧ S2[m]? = some (.dct []) ∧ Q kvs.isEmpty S2
noncomputable def wpBs : List CB → DEnv → DStore → (Bool → DStore → Prop) → Prop
  | [], _, S, Q => Q true S
  | b :: bs, ρ, S, Q => wpB b ρ S fun r S1 => if r = true then wpBs bs ρ S1 Q else Q false S1
noncomputable def wpG : CT → D → DEnv → DStore → (DEnv → DStore → Prop) → Prop
  | .name i, d, ρ, S, Q => Q (ρ.set i (some d)) S
  | .tup ts, d, ρ, S, Q => unpD S d fun xs => xs.length = ts.length ∧ wpGs ts xs ρ S Q
  | .sub a i, d, ρ, S, Q => wpE a ρ S fun x S1 => wpE i ρ S1 fun y S2 => ∃ n xs k j, x = .ref n ∧ y = .int k ∧ S2[n]? = some (.lst xs) ∧ ixN xs.length k = some j ∧ Q ρ (S2.set n (.lst (xs.set j d)))
  | .dsub a es, d, ρ, S, Q => wpE a ρ S fun x S1 => wpEs es ρ S1 fun ys S2 => ∃ n kvs ks, x = .ref n ∧ S2[n]? = some (.dct kvs) ∧ keysOf ys = some ks ∧ kvs.length < sizeLine ∧ Q ρ (S2.set n (.dct (putD kvs ks d)))
  | .ksub a i, d, ρ, S, Q => wpE a ρ S fun x S1 => wpE i ρ S1 fun y S2 => ∃ n kvs ks, x = .ref n ∧ y = .key ks ∧ S2[n]? = some (.dct kvs) ∧ kvs.length < sizeLine ∧ Q ρ (S2.set n (.dct (putD kvs ks d)))
  | .kput a i, d, ρ, S, Q => wpE a ρ S fun x S1 => wpE i ρ S1 fun y S2 => ∃ n kvs k, x = .ref n ∧ S2[n]? = some (.dkk kvs) ∧ keyOf y = some k ∧ kvs.length < sizeLine ∧ Q ρ (S2.set n (.dkk (putD kvs k d)))
  | .sput a i, d, ρ, S, Q => wpE a ρ S fun x S1 => wpE i ρ S1 fun y S2 => ∃ n ks st, x = .ref n ∧ y = k3D st ∧ d = .bl true ∧ S2[n]? = some (.sts ks) ∧ ks.length < sizeLine ∧ Q ρ (S2.set n (.sts (put3D ks st)))
noncomputable def wpGs : List CT → List D → DEnv → DStore → (DEnv → DStore → Prop) → Prop
  | [], _, ρ, S, Q => Q ρ S
  | t :: ts, ds, ρ, S, Q => ∃ d r, ds = d :: r ∧ wpG t d ρ S fun ρ1 S1 => wpGs ts r ρ1 S1 Q
noncomputable def wpI : CI → DEnv → DStore → RI → Prop
  | .seq e, ρ, S, R => wpE e ρ S fun x S1 => itD S1 x R
  | .range1 a, ρ, S, R => wpE a ρ S fun x S1 => ∃ j, x = .int j ∧ Sm j ∧ R (rangeD 0 j) (fun _ => True) S1
  | .range3 a b c, ρ, S, R => wpE a ρ S fun x S1 => wpE b ρ S1 fun y S2 => wpE c ρ S2 fun z S3 => ∃ i j k n, x = .int i ∧ y = .int j ∧ z = .int k ∧ RgC i j k n ∧ R (range3D i k n) (fun _ => True) S3
  | .enum a, ρ, S, R => wpE a ρ S fun x S1 => enumP S1 x R
  | .zip2 a b, ρ, S, R => wpE a ρ S fun x S1 => wpE b ρ S1 fun y S2 => zipP S2 x y R
  | .keysF e, ρ, S, R => wpE e ρ S fun x S1 => ∃ n kvs, x = .ref n ∧ ((S1[n]? = some (.dct kvs) ∧ R (kvs.map fun p => D.tup (p.1.map keyD)) (fun _ => True) (S1.set n (.dlk kvs))) ∨ (S1[n]? = some (.dlk kvs) ∧ R (kvs.map fun p => D.tup (p.1.map keyD)) (fun _ => True) S1))
  | .alt a b, ρ, S, R => wpI a ρ S R ∨ wpI b ρ S R
  | .keys e, ρ, S, R => wpE e ρ S fun x S1 => ∃ n kvs, x = .ref n ∧ S1[n]? = some (.dlk kvs) ∧ R (kvs.map fun p => D.tup (p.1.map keyD)) (fun _ => True) S1
  | .items e, ρ, S, R => wpE e ρ S fun x S1 => ∃ n kvs, x = .ref n ∧ S1[n]? = some (.dlk kvs) ∧ R (kvs.map fun p => D.tup [D.tup (p.1.map keyD), p.2]) (fun _ => True) S1
  | .skeys e, ρ, S, R => wpE e ρ S fun x S1 => ∃ n ks, x = .ref n ∧ S1[n]? = some (.stl ks) ∧ R (ks.map k3D) (fun _ => True) S1
end
noncomputable def wpR : XR → DEnv → DStore → QE → QX → Prop
  | .fn j es, ρ, S, Q, QX => wpEs G es ρ S fun ds S1 => G.fx j ds S1 Q QX
  | .mk cn j es, ρ, S, Q, QX => wpEs G es ρ S fun ds S1 => G.fx j (.ref S1.length :: ds) (S1 ++ [.ins cn []]) (fun v S2 => v = .non ∧ Q (.ref S1.length) S2) QX
mutual
noncomputable def wpS : CS → DEnv → DStore → DEnds → Prop
  | .ret e, ρ, S, K => wpE G e ρ S K.rt
  | .brk, ρ, S, K => K.bk ρ S
  | .never, _, _, _ => False
  | .asg t e, ρ, S, K => wpE G e ρ S fun d S1 => wpG G t d ρ S1 K.nx
  | .par2 i j a b, ρ, S, K => wpE G a ρ S fun x S1 => wpE G b ρ S1 fun y S2 => K.nx ((ρ.set i (some x)).set j (some y)) S2
  | .par3 i j k a b c, ρ, S, K => wpE G a ρ S fun x S1 => wpE G b ρ S1 fun y S2 => wpE G c ρ S2 fun z S3 => K.nx (((ρ.set i (some x)).set j (some y)).set k (some z)) S3
  | .setLc i e, ρ, S, K => wpE G e ρ S fun d S1 => K.nx (ρ.set i (some d)) S1
  | .append a e, ρ, S, K => wpE G a ρ S fun x S1 => ∃ n, x = .ref n ∧ LAt S1 n ∧ wpE G e ρ S1 fun y S2 => ∃ xs, S2[n]? = some (.lst xs) ∧ xs.length < sizeLine ∧ K.nx ρ (S2.set n (.lst (xs ++ [y])))
  | .extend a e, ρ, S, K => wpE G a ρ S fun x S1 => ∃ n, x = .ref n ∧ LAt S1 n ∧ wpE G e ρ S1 fun y S2 => ∃ xs zs, S2[n]? = some (.lst xs) ∧ lstOf S2 y = some zs ∧ xs.length + zs.length ≤ sizeLine ∧ K.nx ρ (S2.set n (.lst (xs ++ zs)))
  | .if_ c a b, ρ, S, K => wpB G c ρ S fun r S1 => if r = true then wpSs a ρ S1 K else wpSs b ρ S1 K
  | .while_ c b, ρ, S, K => wpLoop ρ S (fun ρ S Q => wpB G c ρ S Q) (fun ρ S N => wpSs b ρ S { K with nx := N, ct := N, bk := K.nx }) K.nx
  | .for_ t it b, ρ, S, K => wpI G it ρ S fun items I S1 => wpWalk items I ρ S1 (fun x ρ' S' N => wpG G t x ρ' S' fun ρ2 S2 => wpSs b ρ2 S2 { K with nx := N, ct := N, bk := K.nx }) K.nx
  | .lock s, ρ, S, K => ∃ n kvs, S[n]? = some (.dct kvs) ∧ wpS s ρ (S.set n (.dlk kvs)) ⟨fun ρ' S' => K.nx ρ' (S'.set n (.dct kvs)), fun d S' => K.rt d (S'.set n (.dct kvs)), fun ρ' S' => K.bk ρ' (S'.set n (.dct kvs)), fun ρ' S' => K.ct ρ' (S'.set n (.dct kvs))⟩
  | .lockS s, ρ, S, K => ∃ n ks, S[n]? = some (.sts ks) ∧ wpS s ρ (S.set n (.stl ks)) ⟨fun ρ' S' => K.nx ρ' (S'.set n (.sts ks)), fun d S' => K.rt d (S'.set n (.sts ks)), fun ρ' S' => K.bk ρ' (S'.set n (.sts ks)), fun ρ' S' => K.ct ρ' (S'.set n (.sts ks))⟩
  | .fset cn a f e, ρ, S, K => wpE G e ρ S fun y S1 => wpE G a ρ S1 fun x S2 => ∃ n fs, x = .ref n ∧ S2[n]? = some (.ins cn fs) ∧ fs.length < 1000 ∧ K.nx ρ (S2.set n (.ins cn (putFD f y fs)))
noncomputable def wpSs : List CS → DEnv → DStore → DEnds → Prop
  | [], ρ, S, K => K.nx ρ S
  | s :: ss, ρ, S, K => wpS s ρ S { K with nx := fun ρ1 S1 => wpSs ss ρ1 S1 K }
end
end
end DL
namespace DL
open PySem PySem.Spec PyProof.Rows L2
noncomputable abbrev TD := DEnv → DStore → QE → Prop
noncomputable def Post (K : PySem.W.Frag) (η μ : List Addr) (H : Hp) (QD : QE) (v : V) (H' : Hp) : Prop := ∃ d S' μ', Grow μ H μ' H' ∧ Rp K η μ' S' H' ∧ RV K H' η μ' d v ∧ QD d S'
noncomputable def Posts (K : PySem.W.Frag) (η μ : List Addr) (H : Hp) (QD : List D → DStore → Prop) (vs : List V) (H' : Hp) : Prop := ∃ ds S' μ', Grow μ H μ' H' ∧ Rp K η μ' S' H' ∧ RVs K H' η μ' ds vs ∧ QD ds S'
noncomputable def PostA {α : Type} (K : PySem.W.Frag) (η μ : List Addr) (H : Hp) (QD : α → DStore → Prop) (b : α) (H' : Hp) : Prop := ∃ S' μ', Grow μ H μ' H' ∧ Rp K η μ' S' H' ∧ QD b S'
noncomputable def tOf (K : PySem.W.Frag) (T : TD) : TE := fun σ H Q => ∃ η μ ρ S QD, RE K H η μ ρ σ ∧ Rp K η μ S H ∧ T ρ S QD ∧ ∀ v H', Post K η μ H QD v H' → Q v H'
noncomputable def aOf (K : PySem.W.Frag) (n : Nat) (T : DEnv → DStore → (List D → DStore → Prop) → Prop) : TA := fun σ H Q => ∃ η μ ρ S QD, RE K H η μ ρ σ ∧ Rp K η μ S H ∧ T ρ S QD ∧ ∀ v H', Posts K η μ H QD v H' → v.length = n → Q v H'
noncomputable def bOf {α : Type} (K : PySem.W.Frag) (T : DEnv → DStore → (α → DStore → Prop) → Prop) : St → Hp → (α → Hp → Prop) → Prop := fun σ H Q => ∃ η μ ρ S QD, RE K H η μ ρ σ ∧ Rp K η μ S H ∧ T ρ S QD ∧ ∀ v H', PostA K η μ H QD v H' → Q v H'
noncomputable def DE (X : Cx) (e : Expr) (T : TD) : Prop := PE X e (tOf X.K T)
noncomputable def DB (X : Cx) (e : Expr) (T : DEnv → DStore → (Bool → DStore → Prop) → Prop) : Prop := PT X e (bOf X.K T)
/-- how the fields of an exception stand in its dict -/
noncomputable def XRel (c : Str) (vs : List V) (H : Hp) (d : Option Addr) (H' : Hp) : Prop := c ∈ xnm ∧ ((xfld c = [] ∧ vs = [] ∧ d = none ∧ H' = H) ∨ ∃ f v dx, xfld c = [f] ∧ vs = [v] ∧ d = some dx ∧ H dx = none ∧ H' = upd H dx (.xd [(f, v)]))
theorem XRel.keep {K : PySem.W.Frag} {η μ : List Addr} {S : DStore} {c : Str} {vs : List V} {H H' : Hp} {d : Option Addr} (x : XRel c vs H d H') (r : Rp K η μ S H) : Rp K η μ S H' ∧ Grow μ H μ H' := by
  obtain ⟨_, ⟨_, _, _, rfl⟩ | ⟨f, v, dx, _, _, _, h, rfl⟩⟩ := x
  · exact ⟨r, .refl⟩
  · exact ⟨rp_new r h, grow_new r h⟩
/-- what leaves by an exception -/
noncomputable def XEnd (K : PySem.W.Frag) (η μ : List Addr) (H : Hp) (σ : L2.St) (QD : Str → List D → DStore → Prop) (W : WX) : Prop := ∀ c ds S' vs μ' H' C d H'', Grow μ H μ' H' → Rp K η μ' S' H' → RVs K H' η μ' ds vs → PySem.W.nsIn K mainGlobals c = some (some (.ref C)) → XRel c vs H' d H'' → QD c ds S' → W (.ref C) d σ H''
theorem XEnd.from {K : PySem.W.Frag} {η μ μ1 : List Addr} {H H1 : Hp} {σ : L2.St} {Q : QX} {W : WX} (g : Grow μ H μ1 H1) (h : XEnd K η μ H σ Q W) : XEnd K η μ1 H1 σ Q W :=
  fun c ds S' vs μ' H' C d H'' g' => h c ds S' vs μ' H' C d H'' (g.trans g')
structure EndsOk (K : PySem.W.Frag) (qx : QX) (W : WX) (η μ : List Addr) (H : Hp) (ED : DEnds) (E : Ends) : Prop where
  nx : ∀ ρ' S' σ' μ' H', Grow μ H μ' H' → Rp K η μ' S' H' → RE K H' η μ' ρ' σ' → ED.nx ρ' S' → E.nx σ' H'
  rt : ∀ d S' v μ' H', Grow μ H μ' H' → Rp K η μ' S' H' → RV K H' η μ' d v → ED.rt d S' → E.rt v H'
  bk : ∀ ρ' S' σ' μ' H', Grow μ H μ' H' → Rp K η μ' S' H' → RE K H' η μ' ρ' σ' → ED.bk ρ' S' → E.bk σ' H'
  ct : ∀ ρ' S' σ' μ' H', Grow μ H μ' H' → Rp K η μ' S' H' → RE K H' η μ' ρ' σ' → ED.ct ρ' S' → E.ct σ' H'
  xc : ∀ σ', XEnd K η μ H σ' qx W
noncomputable def sOf (K : PySem.W.Frag) (qx : QX) (W : WX) (T : DEnv → DStore → DEnds → Prop) : TS := fun E σ H => ∃ η μ ρ S ED, RE K H η μ ρ σ ∧ Rp K η μ S H ∧ T ρ S ED ∧ EndsOk K qx W η μ H ED E
noncomputable def JOk (K : PySem.W.Frag) (η μ : List Addr) (H : Hp) (J : It) (items : List D) (I : DStore → Prop) : Prop :=
  ∀ (i : Nat) η' μ' S' H', Ext η μ H η' μ' H' → Rp K η' μ' S' H' → I S' →
    (i < items.length → J.go i H' ∧ ∀ x H'', J.yld i H' x H'' → Grow μ' H' μ' H'' ∧ Rp K η' μ' S' H'' ∧ ∃ d, items[i]? = some d ∧ RV K H'' η' μ' d x) ∧ (items.length ≤ i → i ≤ items.length → J.stop i H')
noncomputable def iOf (K : PySem.W.Frag) (T : DEnv → DStore → RI → Prop) : TI := fun σ H R => ∃ η μ ρ S RD, RE K H η μ ρ σ ∧ Rp K η μ S H ∧ T ρ S RD ∧
  ∀ J H1 items I S1 μ1, Grow μ H μ1 H1 → Rp K η μ1 S1 H1 → RD items I S1 → JOk K η μ1 H1 J items I → R J H1
section
variable {X : Cx}
theorem PE.imp {e : Expr} {t t' : TE} (h : PE X e t) (i : ∀ σ H Q, t' σ H Q → t σ H Q) : PE X e t' := ⟨fun pins s σ H Q I q => h.run pins s σ H Q I (i _ _ _ q)⟩
theorem PT.imp {e : Expr} {t t' : TT} (h : PT X e t) (i : ∀ σ H Q, t' σ H Q → t σ H Q) : PT X e t' := ⟨fun pins s σ H Q I q => h.run pins s σ H Q I (i _ _ _ q)⟩
theorem PW.imp {e : Expr} {t t' : TT} (h : PW X e t) (i : ∀ σ H Q, t' σ H Q → t σ H Q) : PW X e t' := ⟨fun wh pins s σ H Q I q => h.run wh pins s σ H Q I (i _ _ _ q)⟩
theorem PTs.imp {e : List Expr} {t t' : TT} (h : PTs X e t) (i : ∀ σ H Q, t' σ H Q → t σ H Q) : PTs X e t' := ⟨fun pins s σ H Q I q => h.run pins s σ H Q I (i _ _ _ q)⟩
theorem PA.imp {e : List Expr} {t t' : TA} (h : PA X e t) (i : ∀ σ H Q, t' σ H Q → t σ H Q) : PA X e t' := ⟨fun pos pins s σ H Q I q => h.run pos pins s σ H Q I (i _ _ _ q)⟩
theorem PK.imp {e : List Keyword} {t t' : TA} (h : PK X e t) (i : ∀ σ H Q, t' σ H Q → t σ H Q) : PK X e t' := ⟨fun pos pins s σ H Q I q => h.run pos pins s σ H Q I (i _ _ _ q)⟩
theorem PO.imp {e : Option Expr} {t t' : TO} (h : PO X e t) (i : ∀ σ H Q, t' σ H Q → t σ H Q) : PO X e t' := ⟨fun pins s σ H Q I q => h.run pins s σ H Q I (i _ _ _ q)⟩
theorem PI.imp {tg e : Expr} {t t' : TI} (h : PI X tg e t) (i : ∀ σ H Q, t' σ H Q → t σ H Q) : PI X tg e t' := ⟨fun pins s σ H Q I q => h.run pins s σ H Q I (i _ _ _ q)⟩
theorem PS.imp {e : Stmt} {t t' : TS} (h : PS X e t) (i : ∀ E σ H, t' E σ H → t E σ H) : PS X e t' := ⟨fun pins s σ H E I q => h.run pins s σ H E I (i _ _ _ q)⟩
theorem PSs.imp {e : List Stmt} {t t' : TS} (h : PSs X e t) (i : ∀ E σ H, t' E σ H → t E σ H) : PSs X e t' := ⟨fun pins s σ H E I q => h.run pins s σ H E I (i _ _ _ q)⟩
theorem PI.or {tg e : Expr} {t t' : TI} (h : PI X tg e t) (h' : PI X tg e t') : PI X tg e (fun σ H R => t σ H R ∨ t' σ H R) := ⟨fun pins s σ H Q I q => q.elim (h.run pins s σ H Q I) (h'.run pins s σ H Q I)⟩
theorem PE.or {e : Expr} {t t' : TE} (h : PE X e t) (h' : PE X e t') : PE X e (fun σ H R => t σ H R ∨ t' σ H R) := ⟨fun pins s σ H Q I q => q.elim (h.run pins s σ H Q I) (h'.run pins s σ H Q I)⟩
theorem DE.mk {e : Expr} {t : TE} {T : TD} (h : PE X e t) (i : ∀ η μ ρ S σ H (Q : VK) (QD : QE), RE X.K H η μ ρ σ → Rp X.K η μ S H → T ρ S QD → (∀ v H', Post X.K η μ H QD v H' → Q v H') → t σ H Q) : DE X e T :=
  PE.imp h fun σ H Q ⟨η, μ, ρ, S, QD, hE, hR, hT, hQ⟩ => i η μ ρ S σ H Q QD hE hR hT hQ
theorem DB.mk {e : Expr} {t : TT} {T} (h : PT X e t) (i : ∀ η μ ρ S σ H (Q : Bool → Hp → Prop) (QD : Bool → DStore → Prop), RE X.K H η μ ρ σ → Rp X.K η μ S H → T ρ S QD → (∀ v H', PostA X.K η μ H QD v H' → Q v H') → t σ H Q) : DB X e T :=
  PT.imp h fun σ H Q ⟨η, μ, ρ, S, QD, hE, hR, hT, hQ⟩ => i η μ ρ S σ H Q QD hE hR hT hQ
/-- one after another: hand on -/
theorem use {K : PySem.W.Frag} {η μ : List Addr} {ρ : DEnv} {S : DStore} {σ : St} {H : Hp} {T : TD} {QD : QE} {Q : VK} (hE : RE K H η μ ρ σ) (hR : Rp K η μ S H) (hT : T ρ S QD)
    (hQ : ∀ d S1 v μ1 H1, Grow μ H μ1 H1 → Rp K η μ1 S1 H1 → RE K H1 η μ1 ρ σ → RV K H1 η μ1 d v → QD d S1 → Q v H1) : tOf K T σ H Q :=
  ⟨η, μ, ρ, S, QD, hE, hR, hT, fun v H1 ⟨d, S1, μ1, g, r, rv, q⟩ => hQ d S1 v μ1 H1 g r (hE.ext g.ext) rv q⟩
theorem useA {K : PySem.W.Frag} {n : Nat} {η μ : List Addr} {ρ : DEnv} {S : DStore} {σ : St} {H : Hp} {T} {QD : List D → DStore → Prop} {Q : List V → Hp → Prop} (hE : RE K H η μ ρ σ) (hR : Rp K η μ S H) (hT : T ρ S QD)
    (hQ : ∀ ds S1 vs μ1 H1, Grow μ H μ1 H1 → Rp K η μ1 S1 H1 → RE K H1 η μ1 ρ σ → RVs K H1 η μ1 ds vs → vs.length = n → QD ds S1 → Q vs H1) : aOf K n T σ H Q :=
  ⟨η, μ, ρ, S, QD, hE, hR, hT, fun v H1 ⟨d, S1, μ1, g, r, rv, q⟩ hl => hQ d S1 v μ1 H1 g r (hE.ext g.ext) rv hl q⟩
theorem useB {α : Type} {K : PySem.W.Frag} {η μ : List Addr} {ρ : DEnv} {S : DStore} {σ : St} {H : Hp} {T} {QD : α → DStore → Prop} {Q : α → Hp → Prop} (hE : RE K H η μ ρ σ) (hR : Rp K η μ S H) (hT : T ρ S QD)
    (hQ : ∀ b S1 μ1 H1, Grow μ H μ1 H1 → Rp K η μ1 S1 H1 → RE K H1 η μ1 ρ σ → QD b S1 → Q b H1) : bOf K T σ H Q :=
  ⟨η, μ, ρ, S, QD, hE, hR, hT, fun v H1 ⟨S1, μ1, g, r, q⟩ => hQ v S1 μ1 H1 g r (hE.ext g.ext) q⟩
theorem useS {K : PySem.W.Frag} {qx : QX} {W : WX} {η μ : List Addr} {ρ : DEnv} {S : DStore} {σ : St} {H : Hp} {T : DEnv → DStore → DEnds → Prop} {ED : DEnds} {E : Ends} (hE : RE K H η μ ρ σ) (hR : Rp K η μ S H) (hT : T ρ S ED) (hQ : EndsOk K qx W η μ H ED E) : sOf K qx W T E σ H :=
  ⟨η, μ, ρ, S, ED, hE, hR, hT, hQ⟩
theorem EndsOk.grow {K : PySem.W.Frag} {qx : QX} {W : WX} {η μ μ1 : List Addr} {H H1 : Hp} {ED : DEnds} {E : Ends} (h : EndsOk K qx W η μ H ED E) (g : Grow μ H μ1 H1) : EndsOk K qx W η μ1 H1 ED E :=
  ⟨fun ρ S σ μ' H' g' => h.nx ρ S σ μ' H' (g.trans g'), fun ρ S σ μ' H' g' => h.rt ρ S σ μ' H' (g.trans g'), fun ρ S σ μ' H' g' => h.bk ρ S σ μ' H' (g.trans g'), fun ρ S σ μ' H' g' => h.ct ρ S σ μ' H' (g.trans g'), fun σ => (h.xc σ).from g⟩
end
section
variable {X : Cx} {K : PySem.W.Frag} {η μ : List Addr} {S : DStore} {H : Hp}
theorem lst_of (r : Rp K η μ S H) {d : D} {v : V} {xs : List D} (rv : RV K H η μ d v) (e : lstOf S d = some xs) : ∃ a vs, v = .ref a ∧ H a = some (.lst vs) ∧ RVs K H η μ xs vs := by
  cases rv with
  | lst hm hn h q => simp [lstOf] at e; subst e; exact ⟨_, _, rfl, h, q⟩
  | @ref n a h =>
    simp only [lstOf] at e
    cases q : S[n]? with
    | none => rw [q] at e; cases e
    | some c =>
      obtain ⟨b, hb, hc⟩ := r.cell n c q
      rw [h] at hb; cases hb
      rw [q] at e
      cases c with
      | lst ys =>
        simp at e; subst e
        obtain ⟨vs, e1, e2⟩ := hc
        exact ⟨a, vs, rfl, e1, e2⟩
      | dct ys => simp at e
      | dlk ys => simp at e
      | dkk ys => simp at e
      | dkl ys => simp at e
      | sts ys => simp at e
      | stl ys => simp at e
      | tks ys => simp at e
      | ins cn ys => simp at e
      | exn cn ys => simp at e
  | _ => simp [lstOf] at e
theorem seq_of (r : Rp K η μ S H) {d : D} {v : V} {xs : List D} (rv : RV K H η μ d v) (e : seqOf S d = some xs) : ∃ a vs, v = .ref a ∧ (SqL K H a vs ∨ SqT K H a vs) ∧ RVs K H η μ xs vs := by
  cases rv with
  | tup h q => simp [seqOf] at e; subst e; exact ⟨_, _, rfl, .inr h, q⟩
  | scr h q => simp [seqOf] at e; subst e; exact ⟨_, _, rfl, .inl (h.elim (fun ⟨o, z⟩ => .inl (.inr ⟨o, z⟩)) fun z => z H), q⟩
  | lst hm hn h q =>
    obtain ⟨a, vs, e1, e2, e3⟩ := lst_of r (.lst hm hn h q) e
    exact ⟨a, vs, e1, .inl (.inl (.inl e2)), e3⟩
  | ref h =>
    obtain ⟨a, vs, e1, e2, e3⟩ := lst_of r (.ref h) e
    exact ⟨a, vs, e1, .inl (.inl (.inl e2)), e3⟩
  | _ => simp [seqOf, lstOf] at e
/-- a new list, kept or to be changed -/
theorem new_lst (r : Rp K η μ S H) {m : Bool} {ds : List D} {vs : List V} {QD : QE} (rv : RVs K H η μ ds vs) (h : newL m ds S QD) (p : Addr) (hp : H p = none) : Post K η μ H QD (.ref p) (upd H p (.lst vs)) := by
  cases m with
  | true => exact ⟨_, _, _, grow_cell r hp, rp_cell r hp rv, rv_cell r, h⟩
  | false => exact ⟨_, _, _, grow_new r hp, rp_new r hp, rv_new_lst r hp rv, h⟩
theorem new_tup (r : Rp K η μ S H) {ds : List D} {vs : List V} {QD : QE} (rv : RVs K H η μ ds vs) (h : QD (.tup ds) S) (p : Addr) (hp : H p = none) : Post K η μ H QD (.ref p) (upd H p (.tup vs)) :=
  ⟨_, _, _, grow_new r hp, rp_new r hp, rv_new_tup r hp rv, h⟩
theorem stay (r : Rp K η μ S H) {d : D} {v : V} {QD : QE} (rv : RV K H η μ d v) (h : QD d S) : Post K η μ H QD v H := ⟨_, _, _, .refl, r, rv, h⟩
theorem Post.from {μ1 : List Addr} {H1 H' : Hp} {QD : QE} {v : V} (g : Grow μ H μ1 H1) (h : Post K η μ1 H1 QD v H') : Post K η μ H QD v H' :=
  let ⟨d, S', μ', g', r, rv, q⟩ := h
  ⟨d, S', μ', g.trans g', r, rv, q⟩
/-- an operator by data -/
noncomputable def BinR (X : Cx) (op : Operator) (r : R2) : Prop := OpR X (binaryOp op) r ∧ ∀ {η μ S H m x y v u QD Q}, Rp X.K η μ S H → RV X.K H η μ x v → RV X.K H η μ y u → binD op m x y S QD → (∀ v H', Post X.K η μ H QD v H' → Q v H') → r v u H Q
theorem rI_of {C : Int → Int → Prop} {g : Int → Int → Int} {x y : D} {v u : V} {QD : QE} {Q : VK} (r : Rp K η μ S H) (rx : RV K H η μ x v) (ry : RV K H η μ y u) (h : i2 x y fun i j => C i j ∧ QD (.int (g i j)) S) (hQ : ∀ v H', Post K η μ H QD v H' → Q v H') :
    L2.rI C (fun i j => .int (g i j)) v u H Q := by
  cases rx <;> cases ry <;> simp only [i2] at h
  exact ⟨_, _, rfl, rfl, h.1, hQ _ _ (stay r (.int _) h.2)⟩
theorem rI0_of {g : Int → Int → Int} {x y : D} {v u : V} {QD : QE} {Q : VK} (r : Rp K η μ S H) (rx : RV K H η μ x v) (ry : RV K H η μ y u) (h : i2 x y fun i j => QD (.int (g i j)) S) (hQ : ∀ v H', Post K η μ H QD v H' → Q v H') :
    L2.rI0 (fun i j => .int (g i j)) v u H Q := by
  cases rx <;> cases ry <;> simp only [i2] at h
  exact ⟨_, _, rfl, rfl, hQ _ _ (stay r (.int _) h)⟩
theorem op_fdivA : OpR X (binaryOp .FloorDiv) (L2.rI (fun _ j => DivOk j) fun i j => .int (i.fdiv j)) := opI fun i j _ _ _ _ _ hc q => floordiv_int hc.1 q (.inl (PyProof.noPylong_of_log2 hc.2))
theorem op_mulA : OpR X (binaryOp .Mult) (L2.rI MulOk fun i j => .int (i * j)) := opI fun _ _ _ _ _ _ _ hc q => mul_int q (hc.elim (fun h => h.ok) fun h => h.ok)
theorem rvs_rep {K : PySem.W.Frag} {η μ : List Addr} {H : Hp} {ds : List D} {xs : List V} (q : RVs K H η μ ds xs) : ∀ n : Nat, RVs K H η μ (List.replicate n ds).flatten (List.replicate n xs).flatten
  | 0 => .nil
  | n + 1 => by rw [List.replicate_succ, List.replicate_succ, List.flatten_cons, List.flatten_cons]; exact q.append (rvs_rep q n)
theorem op_powA : OpR X (binaryOp .Pow) (L2.rI PowOk fun i j => .int (i ^ j.toNat)) := opI fun _ _ _ _ _ _ _ hc q => pow_int hc.1 hc.2 q
theorem binR : ∀ op, ∃ r, BinR X op r
  | .Add => ⟨_, op_add.or (op_add_str.or (op_catA.or op_cat)), fun {η μ S H m x y v u QD Q} r rx ry h hQ => by
      simp only [binD, addD] at h
      split at h
      · cases rx; cases ry; exact .inl ⟨_, _, rfl, rfl, hQ _ _ (stay r (.int _) h)⟩
      · cases rx; cases ry; exact .inr (.inl ⟨_, _, rfl, rfl, h.1, hQ _ _ (stay r (.str _) h.2)⟩)
      · cases rx with
        | @tup a xs ds h1 q1 =>
          cases ry with
          | @tup b ys es h2 q2 =>
            refine .inr (.inr (.inl ⟨_, _, _, _, rfl, rfl, h1, h2, ?_, ?_, ?_, ?_⟩))
            · rw [← q1.length, ← q2.length]; exact h.1
            · intro z; subst z; cases q1; exact hQ _ _ (stay r (.tup h2 q2) h.2)
            · intro _ z; subst z; cases q2; rw [List.append_nil] at h; exact hQ _ _ (stay r (.tup h1 q1) h.2)
            · intro _ _ p hp; exact hQ _ _ (new_tup r (q1.append q2) h.2 p hp)
      · obtain ⟨a, b, e1, e2, hl, hn⟩ := h
        obtain ⟨p1, v1, rfl, h1, q1⟩ := lst_of r rx e1
        obtain ⟨p2, v2, rfl, h2, q2⟩ := lst_of r ry e2
        exact .inr (.inr (.inr ⟨_, _, _, _, rfl, rfl, h1, h2, by rw [← q1.length, ← q2.length]; exact hl, fun p hp => hQ _ _ (new_lst r (q1.append q2) hn p hp)⟩))⟩
  | .Sub => ⟨_, op_sub, fun r rx ry h hQ => rI0_of r rx ry h hQ⟩
  | .Mult => ⟨_, op_mulA.or (op_repT.or (op_rep1.or (op_rep0.or op_rep))), fun {η μ S H m x y v u QD Q} r rx ry h hQ => by
      simp only [binD, mulD] at h
      split at h
      · cases rx; cases ry; exact .inl ⟨_, _, rfl, rfl, h.1, hQ _ _ (stay r (.int _) h.2)⟩
      · cases ry
        rename_i k
        obtain ⟨h0, h1, h2, h3, h4⟩ := h
        cases rx with
        | @tup a xs _ ht q1 =>
          by_cases hk : k = 1
          · subst hk
            refine .inr (.inr (.inl ⟨_, _, rfl, rfl, ht, hQ _ _ (stay r (.tup ht q1) ?_)⟩))
            simpa using h4
          by_cases hk0 : k = 0
          · subst hk0
            refine .inr (.inr (.inr (.inl ⟨_, _, rfl, rfl, ht, fun z => ?_, fun p hp => hQ _ _ (new_tup r .nil ?_ p hp)⟩)))
            · subst z
              cases q1
              exact h0 rfl
            · simpa using h4
          refine .inr (.inl ⟨_, _, _, rfl, rfl, ht, fun z => ?_, by omega, h2, by rw [← q1.length]; exact h3, fun p hp => hQ _ _ (new_tup r (rvs_rep q1 _) h4 p hp)⟩)
          subst z
          cases q1
          exact h0 rfl
      · obtain ⟨a, e1, h1, h2, hl, hn⟩ := h
        obtain ⟨p1, v1, rfl, hp1, q1⟩ := lst_of r rx e1
        cases ry
        rename_i k _
        have rep : ∀ n : Nat, RVs X.K H η μ (List.replicate n a).flatten (List.replicate n v1).flatten := fun n => by
          induction n with
          | zero => exact .nil
          | succ n ih => rw [List.replicate_succ, List.replicate_succ, List.flatten_cons, List.flatten_cons]; exact q1.append ih
        exact .inr (.inr (.inr (.inr ⟨_, _, _, rfl, rfl, hp1, h1, h2, by rw [← q1.length]; exact hl, fun p hp => hQ _ _ (new_lst r (rep _) hn p hp)⟩)))
      · exact h.elim⟩
  | .FloorDiv => ⟨_, op_fdivA, fun r rx ry h hQ => rI_of r rx ry h hQ⟩
  | .Mod => ⟨_, op_modN, fun r rx ry h hQ => rI_of r rx ry h hQ⟩
  | .Pow => ⟨_, op_powA, fun r rx ry h hQ => rI_of r rx ry h hQ⟩
  | .LShift => ⟨_, op_shlW, fun r rx ry h hQ => rI_of r rx ry h hQ⟩
  | .RShift => ⟨_, op_shr, fun r rx ry h hQ => rI_of r rx ry h hQ⟩
  | .MatMult => ⟨fun _ _ _ _ => False, fun _ _ _ _ _ _ _ _ _ _ _ _ h => h.elim, fun _ _ _ h _ => h.elim⟩
  | .Div => ⟨fun _ _ _ _ => False, fun _ _ _ _ _ _ _ _ _ _ _ _ h => h.elim, fun _ _ _ h _ => h.elim⟩
  | .BitOr => ⟨fun _ _ _ _ => False, fun _ _ _ _ _ _ _ _ _ _ _ _ h => h.elim, fun _ _ _ h _ => h.elim⟩
  | .BitXor => ⟨fun _ _ _ _ => False, fun _ _ _ _ _ _ _ _ _ _ _ _ h => h.elim, fun _ _ _ h _ => h.elim⟩
  | .BitAnd => ⟨fun _ _ _ _ => False, fun _ _ _ _ _ _ _ _ _ _ _ _ h => h.elim, fun _ _ _ h _ => h.elim⟩
end
end DL
namespace DL
open PySem PySem.Spec PyProof.Rows L2
section
variable {X : Cx} {K : PySem.W.Frag} {η μ : List Addr} {S : DStore} {H : Hp}
mutual
theorem dp_of : ∀ {d : D} {v : V} {p : PyData}, RV K H η μ d v → pur d = some p → Dp K H v p
  | _, _, _, .non, e => by simp [pur] at e; subst e; exact .non
  | _, _, _, .bl b, e => by simp [pur] at e; subst e; exact .bl b
  | _, _, _, .int b, e => by simp [pur] at e; subst e; exact .int b
  | _, _, _, .str b, e => by simp [pur] at e; subst e; exact .str b
  | _, _, _, .tup h q, e => by
    simp only [pur, Option.map_eq_some_iff] at e
    obtain ⟨ps, e1, rfl⟩ := e
    exact .tup h (dps_of q e1)
  | _, _, _, .lst hm hn h q, e => by
    simp only [pur, Option.map_eq_some_iff] at e
    obtain ⟨ps, e1, rfl⟩ := e
    exact .lst (.inl (.inl h)) (dps_of q e1)
  | _, _, _, .scr _ _, e => by simp [pur] at e
  | _, _, _, .ptup _ _ _, e => by simp [pur] at e
  | _, _, _, .ref _, e => by simp [pur] at e
theorem dps_of : ∀ {ds : List D} {vs : List V} {ps : List PyData}, RVs K H η μ ds vs → purs ds = some ps → DpAll K H vs ps
  | _, _, _, .nil, e => by simp [purs] at e; subst e; exact .nil
  | _, _, _, .cons h q, e => by
    simp only [purs, Option.bind_eq_some_iff, Option.map_eq_some_iff] at e
    obtain ⟨p, e1, ps, e2, rfl⟩ := e
    exact .cons (dp_of h e1) (dps_of q e2)
end
theorem dpS_of (r : Rp K η μ S H) {d : D} {v : V} {p : PyData} (rv : RV K H η μ d v) (e : purS S d = some p) : Dp K H v p := by
  cases rv with
  | @ref n a h =>
    simp only [purS, Option.map_eq_some_iff, Option.bind_eq_some_iff] at e
    obtain ⟨ps, ⟨xs, e1, e2⟩, rfl⟩ := e
    obtain ⟨b, vs, e3, e4, q⟩ := lst_of r (.ref h) e1
    cases e3
    exact .lst (.inl (.inl e4)) (dps_of q e2)
  | non => exact dp_of (η := η) (μ := μ) .non e
  | bl b => exact dp_of (η := η) (μ := μ) (.bl b) e
  | int b => exact dp_of (η := η) (μ := μ) (.int b) e
  | str b => exact dp_of (η := η) (μ := μ) (.str b) e
  | tup h q => exact dp_of (η := η) (μ := μ) (.tup h q) e
  | lst hm hn h q => exact dp_of (.lst hm hn h q) e
  | scr h q => exact dp_of (η := η) (μ := μ) (.scr h q) e
  | key h => simp [purS, pur] at e
  | ptup h h2 q => simp [purS, pur] at e
mutual
theorem dp_E : ∀ {v : V} {p : PyData}, Dp K H v p → DpE K H v p
  | _, _, .non => .non
  | _, _, .bl b => .bl b
  | _, _, .int b => .int b
  | _, _, .str b => .str b
  | _, _, .lst h q => .lst h (dps_E q)
  | _, _, .tup h q => .tup h (dps_E q)
theorem dps_E : ∀ {vs : List V} {ps : List PyData}, DpAll K H vs ps → DpEs K H vs ps
  | _, _, .nil => .nil
  | _, _, .cons h q => .cons (dp_E h) (dps_E q)
end
mutual
theorem dpE_of (r : Rp K η μ S H) : ∀ {d : D} {v : V} {p : PyData}, RV K H η μ d v → purE S d = some p → DpE K H v p
  | _, _, _, .non, e => by simp [purE] at e; subst e; exact .non
  | _, _, _, .bl b, e => by simp [purE] at e; subst e; exact .bl b
  | _, _, _, .int b, e => by simp [purE] at e; subst e; exact .int b
  | _, _, _, .str b, e => by simp [purE] at e; subst e; exact .str b
  | _, _, _, .tup h q, e => by
    simp only [purE, Option.map_eq_some_iff] at e
    obtain ⟨ps, e1, rfl⟩ := e
    exact .tup h (dpsE_of r q e1)
  | _, _, _, .lst hm hn h q, e => by
    simp only [purE, Option.map_eq_some_iff] at e
    obtain ⟨ps, e1, rfl⟩ := e
    exact .lst (.inl (.inl h)) (dpsE_of r q e1)
  | _, _, _, .scr _ _, e => by simp [purE] at e
  | _, _, _, .ptup _ _ _, e => by simp [purE] at e
  | .ref n, .ref a, p, .ref h, e => by
    unfold purE at e
    split at e
    · rename_i hc
      cases e
      obtain ⟨b, hb, vs, h1, h2⟩ := r.cell n _ hc
      rw [h] at hb; cases hb
      cases h2
      exact .dct (.inl h1)
    · rename_i xs hc
      simp only [Option.map_eq_some_iff] at e
      obtain ⟨ps, e1, rfl⟩ := e
      obtain ⟨b, vs, e3, e4, q⟩ := lst_of r (.ref h) (show lstOf S (.ref n) = some xs by simp only [lstOf, hc])
      cases e3
      exact .lst (.inl (.inl e4)) (dps_E (dps_of q e1))
    · cases e
theorem dpsE_of (r : Rp K η μ S H) : ∀ {ds : List D} {vs : List V} {ps : List PyData}, RVs K H η μ ds vs → pursE S ds = some ps → DpEs K H vs ps
  | _, _, _, .nil, e => by simp [pursE] at e; subst e; exact .nil
  | _, _, _, .cons h q, e => by
    simp only [pursE, Option.bind_eq_some_iff, Option.map_eq_some_iff] at e
    obtain ⟨p, e1, ps, e2, rfl⟩ := e
    exact .cons (dpE_of r h e1) (dpsE_of r q e2)
end
theorem app_of : ∀ {ds es : List D} {vs ws : List V}, RVs K H η μ ds vs → RVs K H η μ es ws → RVs K H η μ (ds ++ es) (vs ++ ws)
  | _, _, _, _, .nil, q => q
  | _, _, _, _, .cons a b, q => .cons a (app_of b q)
theorem rev_of : ∀ {ds : List D} {vs : List V}, RVs K H η μ ds vs → RVs K H η μ ds.reverse vs.reverse
  | _, _, .nil => .nil
  | _, _, .cons a b => by
    rw [List.reverse_cons, List.reverse_cons]
    exact app_of (rev_of b) (.cons a .nil)
theorem flat_of {d : D} {v : V} (rv : RV K H η μ d v) (f : flatD d = true) : v = toV d ∧ flatV v = true := by
  cases rv <;> first | exact ⟨rfl, rfl⟩ | simp [flatD] at f
theorem flats_of : ∀ {ds : List D} {vs : List V}, RVs K H η μ ds vs → ds.all flatD = true → vs = ds.map toV ∧ vs.all flatV = true
  | _, _, .nil, _ => ⟨rfl, rfl⟩
  | _, _, .cons h q, e => by
    simp only [List.all_cons, Bool.and_eq_true] at e
    obtain ⟨a, b⟩ := flat_of h e.1
    obtain ⟨c, d⟩ := flats_of q e.2
    refine ⟨by rw [List.map_cons, ← a, ← c], ?_⟩
    simp only [List.all_cons, b, d, Bool.and_self]
theorem ints_of : ∀ {ds : List D} {vs : List V} {is : List Int}, RVs K H η μ ds vs → ds.mapM inOf = some is → vs = is.map V.int
  | _, _, _, .nil, e => by simp at e; subst e; rfl
  | _, _, _, .cons h q, e => by
    simp only [List.mapM_cons, Option.bind_eq_bind, Option.bind_eq_some_iff] at e
    obtain ⟨i, e1, is, e2, e3⟩ := e
    cases e3
    cases h <;> simp [inOf] at e1
    subst e1
    rw [ints_of q e2]; rfl
theorem bls_of : ∀ {ds : List D} {vs : List V} {is : List Bool}, RVs K H η μ ds vs → ds.mapM blOf = some is → vs = is.map V.bl
  | _, _, _, .nil, e => by simp at e; subst e; rfl
  | _, _, _, .cons h q, e => by
    simp only [List.mapM_cons, Option.bind_eq_bind, Option.bind_eq_some_iff] at e
    obtain ⟨i, e1, is, e2, e3⟩ := e
    cases e3
    cases h <;> simp [blOf] at e1
    subst e1
    rw [bls_of q e2]; rfl
noncomputable def CmpR (X : Cx) (op : CmpOp) (r : R2) : Prop := OpR X (compareOp op) r ∧ ∀ {η μ S H x y v u QB} {Q : VK}, Rp X.K η μ S H → RV X.K H η μ x v → RV X.K H η μ y u → cmpD op S x y QB → (∀ b, QB b → Q (.bl b) H) → r v u H Q
theorem dct_of (r : Rp K η μ S H) {n : Nat} {v : V} {kvs : List (List L2.Key × D)} (rv : RV K H η μ (.ref n) v) (e : dctOf S n = some kvs) : ∃ a vs, v = .ref a ∧ Rd H a (.dT vs) ∧ RKs K H η μ kvs vs := by
  cases rv with
  | @ref n a h =>
    unfold dctOf at e
    split at e
    · rename_i k hc
      cases e
      obtain ⟨b, hb, vs, h1, h2⟩ := r.cell n _ hc
      rw [h] at hb; cases hb
      exact ⟨a, vs, rfl, .inl h1, h2⟩
    · rename_i k hc
      cases e
      obtain ⟨b, hb, ob, vs, h1, h2⟩ := r.cell n _ hc
      rw [h] at hb; cases hb
      exact ⟨a, vs, rfl, .inr ⟨ob, h1⟩, h2⟩
    · cases e
theorem relO_some {o : Option V} {α : Type} {w : Option α} {f : α → Value} (h : RelO o (w.map f)) : w.isSome = o.isSome := by
  cases o <;> cases w <;> first | rfl | exact h.elim | cases h
noncomputable def rOrdD (K : PySem.W.Frag) (f : PyData → PyData → Bool) : R2 := fun x y H Q => ∃ p q, Dp K H x p ∧ Dp K H y q ∧ PySem.W.alike p q = true ∧ p ≠ .none ∧ p.depth ≤ 10 ∧ Q (.bl (f p q)) H
theorem op_ltD (hu : X.A.units + 64 < cLine) : OpR X (compareOp .Lt) (rOrdD X.K fun p q => PySem.W.dataLt p q) := by
  intro pins s σ H x y v u Q I rx ry h
  obtain ⟨p, q, hp, hq, al, hn, hd, h⟩ := h
  obtain ⟨as, r1⟩ := Dp.reads I p x v hp rx
  obtain ⟨bs, r2⟩ := Dp.reads I q y u hq ry
  exact PySem.W.lt_data r1 r2 al hn (by omega) ⟨.bl _, H, I, rfl, h⟩
theorem op_leD (hu : X.A.units + 64 < cLine) : OpR X (compareOp .LtE) (rOrdD X.K fun p q => !PySem.W.dataLt q p) := by
  intro pins s σ H x y v u Q I rx ry h
  obtain ⟨p, q, hp, hq, al, hn, hd, h⟩ := h
  obtain ⟨as, r1⟩ := Dp.reads I p x v hp rx
  obtain ⟨bs, r2⟩ := Dp.reads I q y u hq ry
  exact PySem.W.le_data r1 r2 al hn (by omega) ⟨.bl _, H, I, rfl, h⟩
theorem op_gtD (hu : X.A.units + 64 < cLine) : OpR X (compareOp .Gt) (rOrdD X.K fun p q => PySem.W.dataLt q p) := by
  intro pins s σ H x y v u Q I rx ry h
  obtain ⟨p, q, hp, hq, al, hn, hd, h⟩ := h
  obtain ⟨as, r1⟩ := Dp.reads I p x v hp rx
  obtain ⟨bs, r2⟩ := Dp.reads I q y u hq ry
  exact PySem.W.gt_data r1 r2 al hn (by omega) ⟨.bl _, H, I, rfl, h⟩
theorem op_geD (hu : X.A.units + 64 < cLine) : OpR X (compareOp .GtE) (rOrdD X.K fun p q => !PySem.W.dataLt p q) := by
  intro pins s σ H x y v u Q I rx ry h
  obtain ⟨p, q, hp, hq, al, hn, hd, h⟩ := h
  obtain ⟨as, r1⟩ := Dp.reads I p x v hp rx
  obtain ⟨bs, r2⟩ := Dp.reads I q y u hq ry
  exact PySem.W.ge_data r1 r2 al hn (by omega) ⟨.bl _, H, I, rfl, h⟩
theorem ord_of (r : Rp K η μ S H) {g : Int → Int → Bool} {f : PyData → PyData → Bool} {x y : D} {v u : V} {QB : Bool → Prop} {Q : VK} (rx : RV K H η μ x v) (ry : RV K H η μ y u) (h : ordD g f S x y QB) (hQ : ∀ b, QB b → Q (.bl b) H) : L2.rI0 (fun i j => .bl (g i j)) v u H Q ∨ rOrdD K f v u H Q := by
  unfold ordD at h
  split at h
  · cases rx; cases ry; exact .inl ⟨_, _, rfl, rfl, hQ _ h⟩
  · obtain ⟨p, q, e1, e2, al, hn, hd, h⟩ := h
    exact .inr ⟨p, q, dpS_of r rx e1, dpS_of r ry e2, al, hn, hd, hQ _ h⟩
/-- in of a dict whose keys are tuples -/
noncomputable def rInDT (K : PySem.W.Frag) (neg : Bool) : R2 := fun x y H Q => ∃ (a b : Addr) (kvs : List (List L2.Key × V)) (ks : List L2.Key), x = .ref b ∧ y = .ref a ∧ Rd H a (.dT kvs) ∧ SqT K H b (ks.map kV) ∧ Q (.bl (if neg then !(valV kvs ks).isSome else (valV kvs ks).isSome)) H
theorem op_inDT (hu : X.A.units + 64 < cLine) : OpR X (compareOp .In) (rInDT X.K false) := by
  intro pins s σ H x y v u Q I rx ry h
  obtain ⟨a, b, kvs, ks, rfl, rfl, e, hb, q⟩ := h
  cases rx; cases ry
  obtain ⟨z, hd, xs, rel, dd⟩ := dt_rd I.hok e
  have hv := rel.val ks
  have e2 : (atKey xs ks).isSome = (valV kvs ks).isSome := relO_some hv
  refine wpAny_in_heap (tupleKind_room_in1 (by omega)) (key_ofS I hb) hd dd ⟨.bl _, H, I.tok _, rfl, ?_⟩
  rw [e2]; exact q
theorem op_notInDT (hu : X.A.units + 64 < cLine) : OpR X (compareOp .NotIn) (rInDT X.K true) := by
  intro pins s σ H x y v u Q I rx ry h
  obtain ⟨a, b, kvs, ks, rfl, rfl, e, hb, q⟩ := h
  cases rx; cases ry
  obtain ⟨z, hd, xs, rel, dd⟩ := dt_rd I.hok e
  have hv := rel.val ks
  have e2 : (atKey xs ks).isSome = (valV kvs ks).isSome := relO_some hv
  refine wpAny_notIn_heap (tupleKind_room_in1 (by omega)) (key_ofS I hb) hd dd ⟨.bl _, H, I.tok _, rfl, ?_⟩
  rw [e2]; exact q
theorem val_some {kvs : List (List L2.Key × D)} {vs : List (List L2.Key × V)} (q : RKs K H η μ kvs vs) (ks : List L2.Key) : (valD kvs ks).isSome = (valV vs ks).isSome := by
  have h := q.val ks
  cases e : valD kvs ks with
  | none => rw [h.2 e]; rfl
  | some d => obtain ⟨v, ev, _⟩ := h.1 d e; rw [ev]; rfl
theorem in_dct (r : Rp K η μ S H) {neg : Bool} {x y : D} {v u : V} {QB : Bool → Prop} {Q : VK} (ry : RV K H η μ y u) {n : Nat} {kvs : List (List L2.Key × D)} {ks : List L2.Key} {b : Addr} (hv : v = .ref b) (hb : SqT K H b (ks.map kV)) (e : y = .ref n) (ed : dctOf S n = some kvs) (q : (fun b => QB (if neg then !b else b)) (valD kvs ks).isSome) (hQ : ∀ b, QB b → Q (.bl b) H) : rInDT K neg v u H Q := by
  subst e hv
  obtain ⟨a, vs, rfl, ha, qk⟩ := dct_of r ry ed
  exact ⟨a, b, vs, ks, rfl, rfl, ha, hb, hQ _ (by rw [← val_some qk]; exact q)⟩
theorem dec_int (i j : Int) : decide (V.int i = V.int j) = decide (i = j) := by by_cases h : i = j <;> simp [h]
theorem dec_bl (i j : Bool) : decide (V.bl i = V.bl j) = decide (i = j) := by by_cases h : i = j <;> simp [h]
theorem dec_str (i j : Str) : decide (V.str i = V.str j) = decide (i = j) := by by_cases h : i = j <;> simp [h]
theorem eq_of_data (r : Rp K η μ S H) {x y : D} {v u : V} {QB : Bool → Prop} {Q : VK} (rx : RV K H η μ x v) (ry : RV K H η μ y u) (h : eqD S x y QB) (hQ : ∀ b, QB b → Q (.bl b) H) :
    rEq v u H Q ∨ rEqD K v u H Q := by
  simp only [eqD] at h
  split at h
  · cases rx; cases ry; exact .inl ⟨rfl, hQ _ (by rw [dec_int]; exact h)⟩
  · cases rx; cases ry; exact .inl ⟨rfl, hQ _ (by rw [dec_bl]; exact h)⟩
  · cases rx; cases ry; exact .inl ⟨rfl, hQ _ (by rw [dec_str]; exact h)⟩
  · obtain ⟨p, q, e1, e2, s1, s2, h⟩ := h
    exact .inr ⟨p, q, dpS_of r rx e1, dpS_of r ry e2, s1, s2, hQ _ h⟩
theorem ne_of_data (r : Rp K η μ S H) {x y : D} {v u : V} {QB : Bool → Prop} {Q : VK} (rx : RV K H η μ x v) (ry : RV K H η μ y u) (h : eqD S x y fun b => QB (!b)) (hQ : ∀ b, QB b → Q (.bl b) H) :
    rNe v u H Q ∨ rNeD K v u H Q := by
  simp only [eqD] at h
  split at h
  · cases rx; cases ry; exact .inl ⟨rfl, hQ _ (by rw [dec_int]; exact h)⟩
  · cases rx; cases ry; exact .inl ⟨rfl, hQ _ (by rw [dec_bl]; exact h)⟩
  · cases rx; cases ry; exact .inl ⟨rfl, hQ _ (by rw [dec_str]; exact h)⟩
  · obtain ⟨p, q, e1, e2, s1, s2, h⟩ := h
    exact .inr ⟨p, q, dpS_of r rx e1, dpS_of r ry e2, s1, s2, hQ _ h⟩
theorem in_of (r : Rp K η μ S H) {neg : Bool} {x y : D} {v u : V} {QB : Bool → Prop} {Q : VK} (rx : RV K H η μ x v) (ry : RV K H η μ y u) (h : ∃ xs, seqOf S y = some xs ∧ flatD x = true ∧ xs.all flatD = true ∧ (fun b => QB (if neg then !b else b)) (inV (toV x) (xs.map toV))) (hQ : ∀ b, QB b → Q (.bl b) H) : rIn K neg v u H Q := by
  obtain ⟨xs, e, f, fs, q⟩ := h
  obtain ⟨a, vs, rfl, hq, qs⟩ := seq_of r ry e
  obtain ⟨e1, f1⟩ := flat_of rx f
  obtain ⟨e2, f2⟩ := flats_of qs fs
  exact ⟨a, vs, rfl, hq, f1, f2, hQ _ (by rw [e1, e2]; exact q)⟩
theorem in_of2 (r : Rp K η μ S H) {x y : D} {v u : V} {QB : Bool → Prop} {Q : VK} (rx : RV K H η μ x v) (ry : RV K H η μ y u) (h : inD S x y QB) (hQ : ∀ b, QB b → Q (.bl b) H) : rIn K false v u H Q ∨ rInTup K v u H Q ∨ rInLst K v u H Q ∨ rInDT K false v u H Q := by
  unfold inD at h
  split at h
  · obtain ⟨n, kvs, e, ed, q⟩ := h
    cases rx with
    | key hk => exact .inr (.inr (.inr (in_dct (x := y) (neg := false) r ry rfl (.inl (.inl hk)) e ed q hQ)))
  · rcases h with ⟨n, kvs, ks, e, ed, ek, q⟩ | ⟨p, ys, ps, e1, rfl, e2, s1, s2, d1, q⟩ | ⟨p, ps, e1, e2, s1, s2, d1, q⟩
    · cases rx with
      | tup hb qb =>
        have eb := keysOf_rv qb ek
        subst eb
        exact .inr (.inr (.inr (in_dct (x := y) (neg := false) r ry rfl hb e ed q hQ)))
    · exact .inr (.inl ⟨p, ps, dp_of rx e1, dp_of ry (by simp only [pur, e2]; rfl), s1, s2, d1, hQ _ q⟩)
    · exact .inr (.inr (.inl ⟨p, ps, dp_of rx e1, dpS_of r ry e2, s1, s2, d1, hQ _ q⟩))
  · exact .inl (in_of (neg := false) r rx ry h hQ)
theorem in_of3 (r : Rp K η μ S H) {x y : D} {v u : V} {QB : Bool → Prop} {Q : VK} (rx : RV K H η μ x v) (ry : RV K H η μ y u) (h : inD S x y fun b => QB (!b)) (hQ : ∀ b, QB b → Q (.bl b) H) : rIn K true v u H Q ∨ rNotInTup K v u H Q ∨ rNotInLst K v u H Q ∨ rInDT K true v u H Q := by
  unfold inD at h
  split at h
  · obtain ⟨n, kvs, e, ed, q⟩ := h
    cases rx with
    | key hk => exact .inr (.inr (.inr (in_dct (x := y) (neg := true) r ry rfl (.inl (.inl hk)) e ed q hQ)))
  · rcases h with ⟨n, kvs, ks, e, ed, ek, q⟩ | ⟨p, ys, ps, e1, rfl, e2, s1, s2, d1, q⟩ | ⟨p, ps, e1, e2, s1, s2, d1, q⟩
    · cases rx with
      | tup hb qb =>
        have eb := keysOf_rv qb ek
        subst eb
        exact .inr (.inr (.inr (in_dct (x := y) (neg := true) r ry rfl hb e ed q hQ)))
    · exact .inr (.inl ⟨p, ps, dp_of rx e1, dp_of ry (by simp only [pur, e2]; rfl), s1, s2, d1, hQ _ q⟩)
    · exact .inr (.inr (.inl ⟨p, ps, dp_of rx e1, dpS_of r ry e2, s1, s2, d1, hQ _ q⟩))
  · exact .inl (in_of (neg := true) r rx ry h hQ)
theorem non_iff {x : D} {v : V} (rx : RV K H η μ x v) : decide (v = .non) = isNon x := by
  cases rx <;> simp [isNon]
theorem cmpR (hu : X.A.units + 64 < cLine) : ∀ op, ∃ r, CmpR X op r
  | .Lt => ⟨_, op_lt.or (op_ltD hu), fun r rx ry h hQ => ord_of r rx ry h hQ⟩
  | .LtE => ⟨_, op_le.or (op_leD hu), fun r rx ry h hQ => ord_of r rx ry h hQ⟩
  | .Gt => ⟨_, op_gt.or (op_gtD hu), fun r rx ry h hQ => ord_of r rx ry h hQ⟩
  | .GtE => ⟨_, op_ge.or (op_geD hu), fun r rx ry h hQ => ord_of r rx ry h hQ⟩
  | .Eq => ⟨_, op_eq.or (op_eqD hu), fun r rx ry h hQ => eq_of_data r rx ry h hQ⟩
  | .NotEq => ⟨_, op_ne.or (op_neD hu), fun r rx ry h hQ => ne_of_data r rx ry h hQ⟩
  | .In => ⟨_, op_in_seq.or ((op_inTup hu).or ((op_inLst hu).or (op_inDT hu))), fun r rx ry h hQ => in_of2 r rx ry h hQ⟩
  | .NotIn => ⟨_, op_notIn_seq.or ((op_notInTup hu).or ((op_notInLst hu).or (op_notInDT hu))), fun r rx ry h hQ => in_of3 r rx ry h hQ⟩
  | .Is => ⟨_, op_isN.or op_isBl, fun {η μ S H x y v u QB Q} r rx ry h hQ => by
      simp only [cmpD, isD] at h
      split at h
      · cases ry; exact .inl ⟨rfl, hQ _ (by rw [non_iff rx]; exact h)⟩
      · obtain ⟨c, rfl, h⟩ := h
        cases ry; cases rx; exact .inr ⟨_, _, rfl, rfl, hQ _ h⟩
      · exact h.elim⟩
  | .IsNot => ⟨_, op_notN.or op_notBl, fun {η μ S H x y v u QB Q} r rx ry h hQ => by
      simp only [cmpD, isD] at h
      split at h
      · cases ry; exact .inl ⟨rfl, hQ _ (by rw [non_iff rx]; exact h)⟩
      · obtain ⟨c, rfl, h⟩ := h
        cases ry; cases rx; exact .inr ⟨_, _, rfl, rfl, hQ _ h⟩
      · exact h.elim⟩
theorem tru_of (r : Rp K η μ S H) {x : D} {v : V} {QB : Bool → Prop} (rx : RV K H η μ x v) (h : truD S x QB) : ∃ k, TruV K v H k ∧ QB k := by
  simp only [truD] at h
  split at h
  · cases rx; exact ⟨false, rfl, h⟩
  · cases rx; exact ⟨_, rfl, h⟩
  · cases rx; exact ⟨_, rfl, h⟩
  · cases rx; exact ⟨_, ⟨h.1, rfl⟩, h.2⟩
  · obtain ⟨xs, e, q⟩ := h
    obtain ⟨a, vs, rfl, hq, qs⟩ := seq_of r rx e
    have el : xs.isEmpty = vs.isEmpty := by
      cases qs <;> rfl
    rw [el] at q
    rcases hq with hq | hq
    · exact ⟨_, .inl ⟨vs, hq, rfl⟩, q⟩
    · exact ⟨_, .inr (.inl ⟨vs, hq, rfl⟩), q⟩
theorem atI_of {xs : List D} {vs : List V} {i : Int} {d : D} (q : RVs K H η μ xs vs) (e : atI xs i = some d) : ∃ v, atI vs i = some v ∧ RV K H η μ d v := by
  unfold atI at e ⊢
  rw [← q.length]
  cases h : ixN xs.length i with
  | none => rw [h] at e; cases e
  | some j =>
    rw [h] at e
    exact q.get e
theorem ix_of (r : Rp K η μ S H) {x y : D} {v u : V} {QD : D → Prop} {Q : VK} (rx : RV K H η μ x v) (ry : RV K H η μ y u) (h : ixD S x y QD) (hQ : ∀ d v, RV K H η μ d v → QD d → Q v H) : rIx K v u H Q ∨ rIxD K v u H Q := by
  simp only [ixD] at h
  split at h
  · split at h
    · obtain ⟨c, h1, h2, h3⟩ := h
      cases rx; cases ry
      exact .inl (.inr (.inr ⟨_, _, c, rfl, rfl, h1, h2, hQ _ _ (.str _) h3⟩))
    · obtain ⟨xs, d, h1, h2, h3⟩ := h
      cases ry
      obtain ⟨a, vs, rfl, hq, qs⟩ := seq_of r rx h1
      obtain ⟨w, e, rw'⟩ := atI_of qs h2
      rcases hq with hq | hq
      · exact .inl (.inl ⟨_, _, _, w, rfl, rfl, hq, e, hQ _ _ rw' h3⟩)
      · exact .inl (.inr (.inl ⟨_, _, _, w, rfl, rfl, hq, e, hQ _ _ rw' h3⟩))
  · obtain ⟨n, kvs, ks, d, rfl, h1, h2, h3, h4⟩ := h
    obtain ⟨a, vs, rfl, ha, qk⟩ := dct_of r rx h1
    cases ry with
    | tup hb qb =>
      have eb := keysOf_rv qb h2
      subst eb
      obtain ⟨w, hw, rw'⟩ := (qk.val ks).1 d h3
      exact .inr ⟨a, _, vs, ks, w, rfl, rfl, ha, hb, hw, hQ _ _ rw' h4⟩
  · obtain ⟨n, kvs, d, rfl, h1, h3, h4⟩ := h
    rename_i ks
    obtain ⟨a, vs, rfl, ha, qk⟩ := dct_of r rx h1
    cases ry with
    | key hb =>
      obtain ⟨w, hw, rw'⟩ := (qk.val ks).1 d h3
      exact .inr ⟨a, _, vs, ks, w, rfl, rfl, ha, .inl (.inl hb), hw, hQ _ _ rw' h4⟩
  · exact h.elim
theorem cut_of {xs : List D} {vs : List V} (q : RVs K H η μ xs vs) (lo hi : Option Int) : RVs K H η μ (cutD xs lo hi) (cutV vs lo hi) := by
  unfold cutD cutV
  rw [← q.length]
  exact (q.drop _).take _
end
end DL
namespace DL
open PySem PySem.Spec PyProof.Rows L2
/-- the def at f keeps sp, called from where no repr is under way -/
structure FnG (P : Program) (w : World) (K : PySem.W.Frag) (mg : Str → Option Value) (base : Heap) (k : Nat) (f : Addr) (fd : FuncData) (ps : List Str) (sp : List V → Hp → VK → Prop) : Prop where
  len : ∀ vs H Q, sp vs H Q → vs.length = ps.length
  run : ∀ (A : Around) (outer : List Env) (s : Shared) (H : Hp) (args : Args) (us : List Value) (vs : List V) (Q : VK), A.guards = some [] → Room k A → Env0 P w K mg base A outer s H →
    BindsTo s fd args (ps.zip us) → Vals vs us → sp vs H Q → codeAny (model P w) A (.call (.ref f) args) (CR L2.CX0 outer P w H s Q L2.E0) s
section
variable {P : Program} {w : World} {K : PySem.W.Frag} {mg : Str → Option Value} {base : Heap} {k j : Nat} {f : Addr} {fd : FuncData} {ps : List Str} {sp sp' : List V → Hp → VK → Prop}
theorem FnG.mono (F : FnG P w K mg base j f fd ps sp) (h : j ≤ k) : FnG P w K mg base k f fd ps sp :=
  ⟨F.len, fun A o s H args us vs Q hg hr => F.run A o s H args us vs Q hg (hr.mono h)⟩
theorem FnG.imp (F : FnG P w K mg base k f fd ps sp) (h : ∀ vs H Q, sp' vs H Q → sp vs H Q) : FnG P w K mg base k f fd ps sp' :=
  ⟨fun vs H Q q => F.len vs H Q (h _ _ _ q), fun A o s H args us vs Q hg hr he hb hv hs => F.run A o s H args us vs Q hg hr he hb hv (h _ _ _ hs)⟩
end
/-- the context of a def's body -/
noncomputable abbrev cxG (P : Program) (w : World) (K : PySem.W.Frag) (mg : Str → Option Value) (base : Heap) (N : List Str) (qual : Str) (st : Stmt) (f : Addr) (cdv : Value) (A : Around) (outer : List Env) (s : Shared) (H : Hp) : Cx :=
  (cxOf L2.CX0 P w K mg base N qual (L2.defScope st) f cdv A outer s H L2.E0).nox
theorem fnG_of {P : Program} {w : World} {K : PySem.W.Frag} {mg : Str → Option Value} {base : Heap} {x qual : Str} {st : Stmt} {f : Addr} {fd : FuncData} {N ps : List Str} {k : Nat} {sp : List V → Hp → VK → Prop}
    (F : L2.Fun K x qual st f fd) (Sc : FnScope N ps (L2.defScope st)) (len : ∀ vs H Q, sp vs H Q → vs.length = ps.length)
    (body : ∀ (cdv : Value) (A : Around) (outer : List Env) (s : Shared) (H : Hp) (vs : List V) (Q : VK), (∃ oc od osl fd', K.lookup f = some ⟨oc, od, .func fd', osl⟩ ∧ fd'.code = cdv) → A.guards = some [] → Room k (A.deeper (envOfC qual (L2.defScope st) s.heap.objs.size f cdv)) → sp vs H Q →
      ∃ t, PSs (cxG P w K mg base N qual st f cdv A outer s H) (L2.defBody st) t ∧ t { nx := fun _ H' => Q .non H', rt := Q } (start N vs) H) :
    FnG P w K mg base (k + 1) f fd ps sp := by
  obtain ⟨oc, od, kV, doc, pm, an, cdv, ct, osl, efd, lk, hcd⟩ := F.ex
  subst efd
  constructor
  · exact len
  intro A outer s H args us vs Q hg room e0 hbt rvs hq
  have hlen := len vs H Q hq
  have keepB := fun b o e => (e0.bs b o e).1
  have kin : K.In s.heap := e0.mod.kin.keeps keepB
  have noLim : s.heap.NoLimit := e0.mod.nolimit.keeps keepB
  refine codeAny_call_function room.depth (kin _ _ lk) rfl Sc.co Sc.gen rfl (PySem.W.codeRec_of kin hcd) (hbt _ _ _ _ ?_)
  refine wpAny_newFunctionEnv_cells Sc.kind (fun y hy => ?kinds) fun env he s1 new => ?rest
  case kinds =>
    obtain ⟨nm, val⟩ := y
    exact (Sc.par nm (List.of_mem_zip hy).1).imp id fun q => ⟨q, PySem.W.cellsFrom_some _ _ _ (.inl q)⟩
  case rest =>
    subst he
    obtain ⟨t, der, ans⟩ := body cdv A outer s H vs Q ⟨_, _, _, _, lk, rfl⟩ hg (room.deeper _) hq
    have start0 := inv_start (CX := L2.CX0) (E := L2.E0) Sc room.hd e0 hlen rvs new
    refine ⟨noLim.keeps new.toInCall.keep, codeAny_func ?_⟩
    refine wpAny_mono ((PSs.nox der).run [] s1 (start N vs) H _ start0 ans) (fun fl s' out => ?_) fun e s' out => out
    match fl, out with
    | .ret u, ⟨v, σ', H', J, rv, q⟩ => exact ⟨v, H', J.os, J.bare, J.base, J.hok, rv, q⟩
    | .next, ⟨σ', H', J, q⟩ => exact ⟨.non, H', J.os, J.bare, J.base, J.hok, rfl, q⟩
    | .brk, ⟨_, _, _, q⟩ => exact q.elim
    | .cont, ⟨_, _, _, q⟩ => exact q.elim
section
variable {X : Cx} {k : Nat} {f : Addr} {fd : FuncData} {ps ks : List Str} {sp : List V → Hp → VK → Prop} {x : Str} {p pos : Pos} {e : Expr} {es : List Expr} {kws : List Keyword} {t tk : TA} {g : List Value → List Value → List Value} {gV : List V → List V → List V}
theorem runG {pins : List (Addr × Obj)} {σ : L2.St} {H : Hp} {s : Shared} {Q : VK} {us ws : List Value} {vs zs : List V} (F : FnG X.prog X.w X.K X.mg X.base k f fd ps sp) (hr : Room k X.A) (hG : X.A.guards = some []) (hb : KBinds X.K fd ps ks g gV)
    (I : Inv X pins σ H s) (r : Vals vs us) (rz : Vals zs ws) (h : sp (gV vs zs) H Q) : wpAny (model X.prog X.w) X.A (call (.ref f) us (ks.zip ws)) (EP X pins σ Q) X.xe s := by
  have both := hb.rel r rz
  refine wpAny_call (codeAny_mono (F.run X.A X.stack s H ⟨us, ks.zip ws⟩ _ _ Q hG hr I.env0 (hb.to s us ws I.kIn ?_) both h) fun res s' hq => ?_)
  · exact both.length.symm.trans (F.len _ _ _ h)
  · match res, hq with
    | .ok (.ret u), hq => exact I.after hq
    | .ok .next, hq => exact hq.elim
    | .ok .brk, hq => exact hq.elim
    | .ok .cont, hq => exact hq.elim
    | .error er, hq => exact hq.elim
theorem pe_callG (F : FnG X.prog X.w X.K X.mg X.base k f fd ps sp) (hr : Room k X.A) (hG : X.A.guards = some []) (hg : Gl X x) (hm : X.mg x = some (.ref f)) (hk : PySem.W.keepIn X.K (.ref f) = true) (hb : KBinds X.K fd ps ks g gV)
    (ha : PA X (e :: es) t) (hkw : PK X kws tk) (hall : (backToKw pos (keywordEach kws X.env)).all (·.1.isSome) = true) (hks : (backToKw pos (keywordEach kws X.env)).filterMap (·.1) = ks)
    (hdb : (x == ("__debug__" : Str)) = false) (he : starEach (e :: es) X.env = (false, eval e X.env) :: starEach es X.env)
    (hpl : ((backTo pos (starEach (e :: es) X.env)).any (·.1) || (backToKw pos (keywordEach kws X.env)).any (·.1.isNone)) = false) :
    PE X (.Call (.Name x p) (e :: es) kws pos) (fun σ H Q => t σ H fun vs H1 => tk σ H1 fun zs H2 => sp (gV vs zs) H2 Q) := by
  constructor
  intro pins s σ H Q I h
  refine wpAny_Call_Name_kw (ld_glob I hg hm ?_ hdb)
  refine PySem.W.callWith_KW (h₀ := X.base) I.ok.mod.kin hk hall (thn (ha.run pos pins s σ H _ I h) fun us s1 out1 => ?_) hpl he
  obtain ⟨vs, H1, I1, rel1, q1⟩ := out1
  refine thn (hkw.run pos pins s1 σ H1 _ I1 q1) fun ws s2 out2 => ?_
  obtain ⟨zs, H2, I2, rel2, q2⟩ := out2
  rw [hks]
  exact ⟨I2.kIn, runG F hr hG hb I2 rel1 rel2 q2⟩
theorem pe_callG0 (F : FnG X.prog X.w X.K X.mg X.base k f fd ps sp) (hr : Room k X.A) (hG : X.A.guards = some []) (hg : Gl X x) (hm : X.mg x = some (.ref f)) (hk : PySem.W.keepIn X.K (.ref f) = true) (hb : KBinds X.K fd ps ks g gV)
    (hkw : PK X kws tk) (hall : (backToKw pos (keywordEach kws X.env)).all (·.1.isSome) = true) (hks : (backToKw pos (keywordEach kws X.env)).filterMap (·.1) = ks)
    (hdb : (x == ("__debug__" : Str)) = false) (hpl : ((backTo pos (starEach [] X.env)).any (·.1) || (backToKw pos (keywordEach kws X.env)).any (·.1.isNone)) = false) :
    PE X (.Call (.Name x p) [] kws pos) (fun σ H Q => tk σ H fun zs H2 => sp (gV [] zs) H2 Q) := by
  constructor
  intro pins s σ H Q I h
  refine wpAny_Call_Name_kw (ld_glob I hg hm ?_ hdb)
  refine PySem.W.callWith_KW0 (h₀ := X.base) I.ok.mod.kin hk hall (thn (hkw.run pos pins s σ H _ I h) fun ws s2 out2 => ?_) hpl
  obtain ⟨zs, H2, I2, rel2, q2⟩ := out2
  rw [hks]
  exact ⟨I2.kIn, runG (us := []) F hr hG hb I2 .nil rel2 q2⟩
/-- repr of data -/
theorem call_reprD (hG : X.A.guards = some []) (hu : X.A.units + 64 < cLine) : CallR X (.builtin "repr") (fun xs H Q => ∃ v d, xs = [v] ∧ Dp X.K H v d ∧ RepOk d ∧ Q (.str d.shown) H) := by
  intro pins s σ H xs us Q I r h
  obtain ⟨v, d, rfl, hd, ok, q⟩ := h
  obtain ⟨u, rfl, ru⟩ := vals1 r
  obtain ⟨as, rd⟩ := Dp.reads I d v u hd ru
  have dep := ok.dp
  cases hd with
  | int i => obtain ⟨t, rfl⟩ := ru; exact PySem.P.repr_of_int (by have := ok.sh; simpa [PyData.showable] using this) ⟨.str _, H, I.tok _, ⟨_, rfl⟩, q⟩
  | lst h1 h2 =>
    cases ru
    refine repr_of_reads' rd ok.sh (fun z => absurd (ok.nd.symm.trans z) (by decide)) hG (by omega) (fun _ _ e => e) (fun h' t tk hk => ?_) ok.sz
    exact ⟨.str _, H, I.kept hk, ⟨_, rfl⟩, q⟩
  | tup h1 h2 =>
    cases ru
    refine repr_of_reads' rd ok.sh (fun z => absurd (ok.nd.symm.trans z) (by decide)) hG (by omega) (fun _ _ e => e) (fun h' t tk hk => ?_) ok.sz
    exact ⟨.str _, H, I.kept hk, ⟨_, rfl⟩, q⟩
  | non => cases ru; exact PySem.P.repr_of_none ⟨.str _, H, I.tok _, ⟨_, rfl⟩, q⟩
  | bl b => cases ru; exact PySem.P.repr_of_bool ⟨.str _, H, I.tok _, ⟨_, rfl⟩, (by cases b <;> exact q)⟩
  | str y => obtain ⟨t, rfl⟩ := ru; exact PySem.P.repr_of_str ⟨.str _, H, I.tok _, ⟨_, rfl⟩, q⟩ ok.sz
end
/-- the def at f keeps sp, or lets out an exception that sp knows -/
structure FnX (P : Program) (w : World) (K : PySem.W.Frag) (mg : Str → Option Value) (base : Heap) (k : Nat) (f : Addr) (fd : FuncData) (ps : List Str) (sp : List V → Hp → VK → XK → Prop) : Prop where
  len : ∀ vs H Q E, sp vs H Q E → vs.length = ps.length
  run : ∀ (A : Around) (outer : List Env) (s : Shared) (H : Hp) (args : Args) (us : List Value) (vs : List V) (Q : VK) (E : XK), A.guards = some [] → Room k A → Env0 P w K mg base A outer s H →
    BindsTo s fd args (ps.zip us) → Vals vs us → sp vs H Q E → codeAny (model P w) A (.call (.ref f) args) (CR (L2.CX P w) outer P w H s Q E) s
section
variable {P : Program} {w : World} {K : PySem.W.Frag} {mg : Str → Option Value} {base : Heap} {k j : Nat} {f : Addr} {fd : FuncData} {ps : List Str} {sp : List V → Hp → VK → XK → Prop} {spG : List V → Hp → VK → Prop}
theorem FnX.mono (F : FnX P w K mg base j f fd ps sp) (h : j ≤ k) : FnX P w K mg base k f fd ps sp :=
  ⟨F.len, fun A o s H args us vs Q E hg hr => F.run A o s H args us vs Q E hg (hr.mono h)⟩
theorem FnX.toG (F : FnX P w K mg base k f fd ps sp) (h : ∀ vs H Q, spG vs H Q → sp vs H Q (fun _ _ _ => False)) : FnG P w K mg base k f fd ps spG := by
  refine ⟨fun vs H Q q => F.len _ _ _ _ (h _ _ _ q), fun A o s H args us vs Q hg hr he hb hv hs => ?_⟩
  refine codeAny_mono (F.run A o s H args us vs Q _ hg hr he hb hv (h _ _ _ hs)) fun res s' hq => ?_
  match res, hq with
  | .ok (.ret u), hq => exact hq
  | .ok .next, hq => exact hq.elim
  | .ok .brk, hq => exact hq.elim
  | .ok .cont, hq => exact hq.elim
  | .error er, hq =>
    obtain ⟨_, _, _, _, _, _, _, _, _, _, _, _, z⟩ := hq
    exact z.elim
end
end DL
namespace DL
open PySem PySem.Spec PyProof.Rows L2
theorem make_guards {A : Around} {C : Addr} {us : List Value} {kw : List (Str × Value)} (h : A.guards = some []) : (A.under (.builtin "type.__call__" ⟨.ref C :: us, kw⟩)).guards = some [] := by
  first | exact h | simpa [Around.under, Code.weight, Code.isCreation, Code.isGuard, Code.isCaller, Code.frames, Code.isFrame, guardIds] using h
section
variable {X : Cx} {k : Nat} {f C : Addr} {fd : FuncData} {ps ks : List Str} {sp : List V → Hp → VK → Prop} {x m : Str} {p pos apos : Pos} {o e : Expr} {es : List Expr} {kws : List Keyword} {ta : TE} {t tk : TA} {g : List Value → List Value → List Value} {gV : List V → List V → List V}
theorem pe_methG {pl : Sem Bool} (he : PE X o ta) (c : Cls X.K C) (hm : Meth X.K C m f) (F : FnG X.prog X.w X.K X.mg X.base k f fd ps sp) (hr : Room k X.A) (hG : X.A.guards = some []) (hb : KBinds X.K fd ps ks g gV)
    (ha : PA X (e :: es) t) (hkw : PK X kws tk) (hall : (backToKw pos (keywordEach kws X.env)).all (·.1.isSome) = true) (hks : (backToKw pos (keywordEach kws X.env)).filterMap (·.1) = ks)
    (hst : starEach (e :: es) X.env = (false, eval e X.env) :: starEach es X.env)
    (hpl : ((backTo pos (starEach (e :: es) X.env)).any (·.1) || (backToKw pos (keywordEach kws X.env)).any (·.1.isNone)) = false)
    (ht : eval (.Call (.Attribute o m apos) (e :: es) kws pos) X.env = (do
      let ov ← eval o X.env
      standAt apos.atName
      let (f, first) ← holding [ov] (getMethod ov m pl)
      callWith pos f first (backTo pos (starEach (e :: es) X.env)) (backToKw pos (keywordEach kws X.env)))) :
    PE X (.Call (.Attribute o m apos) (e :: es) kws pos) (fun σ H Q => ta σ H fun x H1 => ∃ a dx fs, x = .ref a ∧ H1 a = some (.ins C dx fs) ∧ fs.lookup m = none ∧ t σ H1 fun vs H2 => tk σ H2 fun zs H3 => sp (gV (x :: vs) zs) H3 Q) := by
  constructor
  intro pins s σ H Q I h
  refine PySem.W.methodCall_KW (pl := pl) (thn (he.run pins s σ H _ I h) fun u s1 out => ?_) ht
  obtain ⟨x, H1, I1, rx, a, dx, fs, rfl, ea, l, q⟩ := out
  cases rx
  refine getmeth_ok I1 ea c hm l ?_
  refine PySem.W.callWith_KW (first := [.ref a]) (h₀ := X.base) I.ok.mod.kin hm.kp hall (thn (ha.run pos pins s1 σ H1 _ I1 q) fun us s2 out1 => ?_) hpl hst
  obtain ⟨vs, H2, I2, rel1, q1⟩ := out1
  refine thn (hkw.run pos pins s2 σ H2 _ I2 q1) fun ws s3 out2 => ?_
  obtain ⟨zs, H3, I3, rel2, q2⟩ := out2
  rw [hks]
  exact ⟨I3.kIn, runG (us := .ref a :: us) (vs := .ref a :: vs) F hr hG hb I3 (.cons rfl rel1) rel2 q2⟩
theorem pe_methG0 {pl : Sem Bool} (he : PE X o ta) (c : Cls X.K C) (hm : Meth X.K C m f) (F : FnG X.prog X.w X.K X.mg X.base k f fd ps sp) (hr : Room k X.A) (hG : X.A.guards = some []) (hb : KBinds X.K fd ps ks g gV)
    (hkw : PK X kws tk) (hall : (backToKw pos (keywordEach kws X.env)).all (·.1.isSome) = true) (hks : (backToKw pos (keywordEach kws X.env)).filterMap (·.1) = ks)
    (hpl : ((backTo pos (starEach [] X.env)).any (·.1) || (backToKw pos (keywordEach kws X.env)).any (·.1.isNone)) = false)
    (ht : eval (.Call (.Attribute o m apos) [] kws pos) X.env = (do
      let ov ← eval o X.env
      standAt apos.atName
      let (f, first) ← holding [ov] (getMethod ov m pl)
      callWith pos f first (backTo pos (starEach [] X.env)) (backToKw pos (keywordEach kws X.env)))) :
    PE X (.Call (.Attribute o m apos) [] kws pos) (fun σ H Q => ta σ H fun x H1 => ∃ a dx fs, x = .ref a ∧ H1 a = some (.ins C dx fs) ∧ fs.lookup m = none ∧ tk σ H1 fun zs H3 => sp (gV [x] zs) H3 Q) := by
  constructor
  intro pins s σ H Q I h
  refine PySem.W.methodCall_KW (pl := pl) (thn (he.run pins s σ H _ I h) fun u s1 out => ?_) ht
  obtain ⟨x, H1, I1, rx, a, dx, fs, rfl, ea, l, q⟩ := out
  cases rx
  refine getmeth_ok I1 ea c hm l ?_
  refine PySem.W.callWith_KW0 (first := [.ref a]) (h₀ := X.base) I.ok.mod.kin hm.kp hall (thn (hkw.run pos pins s1 σ H1 _ I1 q) fun ws s3 out2 => ?_) hpl
  obtain ⟨zs, H3, I3, rel2, q2⟩ := out2
  rw [hks]
  exact ⟨I3.kIn, runG (us := [.ref a]) (vs := [.ref a]) F hr hG hb I3 (.cons rfl .nil) rel2 q2⟩
/-- a new instance, then __init__ -/
theorem runMk {pins : List (Addr × Obj)} {σ : L2.St} {H : Hp} {s : Shared} {Q : VK} {us ws : List Value} {vs zs : List V} (M : Mk X.K C f) (F : FnG X.prog X.w X.K X.mg X.base k f fd ps sp) (hr : Room (k + 1) X.A) (hG : X.A.guards = some []) (hb : KBinds X.K fd ps ks g gV)
    (I : Inv X pins σ H s) (r : Vals vs us) (rz : Vals zs ws)
    (h : ∀ x dx, H x = none → H dx = none → dx ≠ x → sp (gV (.ref x :: vs) zs) (upd (upd H dx (.own x)) x (.ins C dx [])) (fun v H2 => v = .non ∧ Q (.ref x) H2)) :
    wpAny (model X.prog X.w) X.A (call (.ref C) us (ks.zip ws)) (EP X pins σ Q) X.xe s := by
  have hq := h (s.heap.objs.size + 1) s.heap.objs.size (I.hok.fresh (Nat.le_succ _)) (I.hok.fresh (Nat.le_refl _)) (Nat.ne_of_lt (Nat.lt_succ_self _))
  have J := Inv.made (C := C) I
  have both := hb.rel (vs := .ref (s.heap.objs.size + 1) :: vs) (us := .ref (s.heap.objs.size + 1) :: us) (.cons rfl r) rz
  refine wpAny_call (make_map (f := f) I.kIn M.makes M.init (beq_iff_eq.mp M.fn) (codeAny_mono (F.run _ X.stack _ _ ⟨Value.ref (s.heap.objs.size + 1) :: us, ks.zip ws⟩ _ _ _ (make_guards hG) (hr.make C us (ks.zip ws))
    (J.env0.make C us (ks.zip ws)) (hb.to _ (Value.ref (s.heap.objs.size + 1) :: us) ws J.kIn ?_) both hq) fun res s' out => ?_))
  · exact both.length.symm.trans (F.len _ _ _ hq)
  · match res, out with
    | .ok (.ret u), out =>
      obtain ⟨v, H', J', rv, ev, q3⟩ := J.after out
      subst ev
      exact ⟨rv, ⟨V.ref (s.heap.objs.size + 1), H', J', rfl, q3⟩⟩
    | .ok .next, out => exact out.elim
    | .ok .brk, out => exact out.elim
    | .ok .cont, out => exact out.elim
    | .error er, out => exact out.elim
noncomputable def tMkG (C : Addr) (sp : List V → Hp → VK → Prop) (gV : List V → List V → List V) (t tk : TA) : TE := fun σ H Q => t σ H fun vs H1 => tk σ H1 fun zs H2 => ∀ x dx, H2 x = none → H2 dx = none → dx ≠ x →
  sp (gV (.ref x :: vs) zs) (upd (upd H2 dx (.own x)) x (.ins C dx [])) (fun v H3 => v = .non ∧ Q (.ref x) H3)
theorem pe_makeG (M : Mk X.K C f) (F : FnG X.prog X.w X.K X.mg X.base k f fd ps sp) (hr : Room (k + 1) X.A) (hG : X.A.guards = some []) (hg : Gl X x) (hm : X.mg x = some (.ref C)) (hb : KBinds X.K fd ps ks g gV)
    (ha : PA X (e :: es) t) (hkw : PK X kws tk) (hall : (backToKw pos (keywordEach kws X.env)).all (·.1.isSome) = true) (hks : (backToKw pos (keywordEach kws X.env)).filterMap (·.1) = ks)
    (hdb : (x == ("__debug__" : Str)) = false) (he : starEach (e :: es) X.env = (false, eval e X.env) :: starEach es X.env)
    (hpl : ((backTo pos (starEach (e :: es) X.env)).any (·.1) || (backToKw pos (keywordEach kws X.env)).any (·.1.isNone)) = false) :
    PE X (.Call (.Name x p) (e :: es) kws pos) (tMkG C sp gV t tk) := by
  constructor
  intro pins s σ H Q I h
  refine wpAny_Call_Name_kw (ld_glob I hg hm ?_ hdb)
  refine PySem.W.callWith_KW (h₀ := X.base) I.ok.mod.kin M.kp hall (thn (ha.run pos pins s σ H _ I h) fun us s1 out1 => ?_) hpl he
  obtain ⟨vs, H1, I1, rel1, q1⟩ := out1
  refine thn (hkw.run pos pins s1 σ H1 _ I1 q1) fun ws s2 out2 => ?_
  obtain ⟨zs, H2, I2, rel2, q2⟩ := out2
  rw [hks]
  exact ⟨I2.kIn, runMk M F hr hG hb I2 rel1 rel2 q2⟩
theorem pe_makeG0 (M : Mk X.K C f) (F : FnG X.prog X.w X.K X.mg X.base k f fd ps sp) (hr : Room (k + 1) X.A) (hG : X.A.guards = some []) (hg : Gl X x) (hm : X.mg x = some (.ref C)) (hb : KBinds X.K fd ps ks g gV)
    (hkw : PK X kws tk) (hall : (backToKw pos (keywordEach kws X.env)).all (·.1.isSome) = true) (hks : (backToKw pos (keywordEach kws X.env)).filterMap (·.1) = ks)
    (hdb : (x == ("__debug__" : Str)) = false) (hpl : ((backTo pos (starEach [] X.env)).any (·.1) || (backToKw pos (keywordEach kws X.env)).any (·.1.isNone)) = false) :
    PE X (.Call (.Name x p) [] kws pos) (fun σ H Q => tk σ H fun zs H2 => ∀ x dx, H2 x = none → H2 dx = none → dx ≠ x → sp (gV [.ref x] zs) (upd (upd H2 dx (.own x)) x (.ins C dx [])) (fun v H3 => v = .non ∧ Q (.ref x) H3)) := by
  constructor
  intro pins s σ H Q I h
  refine wpAny_Call_Name_kw (ld_glob I hg hm ?_ hdb)
  refine PySem.W.callWith_KW0 (h₀ := X.base) I.ok.mod.kin M.kp hall (thn (hkw.run pos pins s σ H _ I h) fun ws s2 out2 => ?_) hpl
  obtain ⟨zs, H2, I2, rel2, q2⟩ := out2
  rw [hks]
  exact ⟨I2.kIn, runMk (us := []) M F hr hG hb I2 .nil rel2 q2⟩
end
section
variable {X : Cx} {k : Nat} {f C : Addr} {fd : FuncData} {ps ks : List Str} {sp : List V → Hp → VK → Prop} {x m : Str} {p pos apos : Pos} {o e : Expr} {es : List Expr} {kws : List Keyword} {ta : TE} {t tk : TA} {g : List Value → List Value → List Value} {gV : List V → List V → List V}
/-- what the text says of a class whose != is told by its own __eq__ -/
noncomputable def NeC (K : PySem.W.Frag) (C : Addr) : Prop := ∃ (nm q : Str) (N : Addr) (bs : List Value) (hdct : Bool) (sn : List Str) (sub : List Value) (ab : Bool) (col : Option Bool) (dd : Option Addr) (k0 k1 k2 k3 k5 : Option Value) (newId : String) (f : Addr),
  K.lookup C = some (excClassObj nm q C N bs [.type "object"] hdct sn sub ab col dd k0 k1 k2 k3 k5 newId) ∧ PySem.W.nsOkIn K N = true ∧ PySem.W.nsIn K N "__eq__" = some (some (.ref f)) ∧ PySem.W.nsIn K N "__ne__" = some none ∧ PySem.W.findIn K (.ref C) "__eq__" = some (some (.ref f))
end
end DL
namespace DL
open PySem PySem.Spec PyProof.Rows L2
section
variable {X : Cx}
theorem sumT_raw {prog : Program} {w : World} {A : Around} {E : Value → Shared → Prop} {s : Shared} {l : Addr} {its : List Value} {ns : List Int} {Q : Value → Shared → Prop} (hh : A.handled = none) (hl : s.heap.IsTuple l its.toArray) (hi : IntsAre its ns)
    (h : ∀ h' tk t', (∀ b o, s.heap.get? b = some o → h'.get? b = some o) → Q (.int ns.sum t') { s with heap := h', toks := tk }) : wpAny (model prog w) A (call (.builtin "sum") [.ref l]) Q E s := by
  obtain ⟨xs, e⟩ := hi.allInts.items
  have hn : numsOf (intItems xs).toList = ns := by rw [← e]; exact hi.numsOf
  rw [nums_intItems] at hn
  rw [e] at hl
  refine PySem.W.ktm_sumG hh hl fun h' tk t' hk => ?_
  have := h h' tk t' hk
  rw [preSum_eq, List.take_of_length_le (by simp), hn]; exact this
theorem cr_sumT (hc : X.calm = true) : CallR X (.builtin "sum") (fun vs H Q => ∃ (a : Addr) (ns : List Int), vs = [V.ref a] ∧ (SqL X.K H a (ns.map V.int) ∨ SqT X.K H a (ns.map V.int)) ∧ Q (.int ns.sum) H) := by
  intro pins s σ H vs us Q I r h
  obtain ⟨a, ns, rfl, hs, q⟩ := h
  rcases hs with hs | hs
  · exact cr_sum hc pins s σ H _ us Q I r ⟨a, ns, rfl, hs, q⟩
  · obtain ⟨its, rv, hl, _⟩ := I.tuple hs
    rw [Vals.ref1 r]
    exact sumT_raw (I.ok.hd hc) hl rv.ints fun h' tk t' hk => ⟨.int _, H, I.kept hk, ⟨_, rfl⟩, q⟩
end
noncomputable def BI.name : BI → Str
  | .len => "len" | .abs => "abs" | .min2 => "min" | .max2 => "max" | .int1 => "int" | .tuple1 => "tuple" | .list1 => "list" | .all1 => "all" | .any1 => "any" | .repr1 => "repr" | .sum1 => "sum" | .min1 => "min" | .max1 => "max" | .sorted1 => "sorted" | .reprE => "repr" | .min3 => "min" | .max3 => "max" | .str1 => "str" | .listD => "list" | .intS => "int" | .sortT => "sorted" | .sortL => "sorted" | .sortD => "sorted" | .minD => "min" | .sortP => "sorted"
noncomputable def BI.val : BI → Value
  | .len => .builtin "len" | .abs => .builtin "abs" | .min2 => .builtin "min" | .max2 => .builtin "max" | .int1 => .type "int" | .tuple1 => .type "tuple" | .list1 => .type "list" | .all1 => .builtin "all" | .any1 => .builtin "any"
  | .repr1 => .builtin "repr" | .sum1 => .builtin "sum" | .min1 => .builtin "min" | .max1 => .builtin "max" | .sorted1 => .builtin "sorted" | .reprE => .builtin "repr" | .min3 => .builtin "min" | .max3 => .builtin "max" | .str1 => .type "str" | .listD => .type "list" | .intS => .type "int" | .sortT => .builtin "sorted" | .sortL => .builtin "sorted" | .sortD => .builtin "sorted" | .minD => .builtin "min" | .sortP => .builtin "sorted"
theorem BI.boot : ∀ b : BI, bootBuiltins b.name = some b.val := by
  intro b; cases b <;> decide +kernel
theorem BI.nm : ∀ b : BI, b.name ≠ "__name__" ∧ (b.name == ("__debug__" : Str)) = false := by
  intro b; cases b <;> exact ⟨by decide +kernel, by decide +kernel⟩
section
variable {X : Cx} {K : PySem.W.Frag} {η μ : List Addr} {S : DStore} {H : Hp}
noncomputable def BiR (X : Cx) (b : BI) (r : List V → Hp → VK → Prop) : Prop := CallR X b.val r ∧ ∀ {η μ S H m ds vs QD Q}, Rp X.K η μ S H → RVs X.K H η μ ds vs → biD b m ds S QD → (∀ v H', Post X.K η μ H QD v H' → Q v H') → r vs H Q
theorem rvs_perm : ∀ {ds : List D} {vs ys : List V}, RVs K H η μ ds vs → ys.Perm vs → ∃ ds', ds'.Perm ds ∧ RVs K H η μ ds' ys := by
  intro ds vs ys h p
  induction p generalizing ds with
  | nil => exact ⟨ds, .refl _, h⟩
  | cons x p ih =>
    cases h with
    | cons a b =>
      obtain ⟨ds', e1, e2⟩ := ih b
      exact ⟨_ :: ds', e1.cons _, .cons a e2⟩
  | swap x y l =>
    cases h with
    | cons a b =>
      cases b with
      | cons c d => exact ⟨_, List.Perm.swap .., .cons c (.cons a d)⟩
  | trans p1 p2 ih1 ih2 =>
    obtain ⟨d1, e1, r1⟩ := ih2 h
    obtain ⟨d2, e2, r2⟩ := ih1 r1
    exact ⟨d2, e2.trans e1, r2⟩
theorem ints_rv : ∀ ns : List Int, RVs K H η μ (ns.map D.int) (ns.map V.int)
  | [] => .nil
  | n :: ns => .cons (.int n) (ints_rv ns)
theorem rks_pair : ∀ {kvs : List (List L2.Key × D)} {vs : List (List L2.Key × V)}, RKs K H η μ kvs vs → (∀ p ∈ kvs, ∃ i j : Int, p.1 = [Sum.inl i, Sum.inl j]) → ∀ p ∈ vs, ∃ i j : Int, p.1 = [Sum.inl i, Sum.inl j]
  | _, _, .nil, _, p, hp => absurd hp (by simp)
  | _, _, .cons a b, h, p, hp => by
    rcases List.mem_cons.mp hp with rfl | hp
    · exact h _ (List.mem_cons_self ..)
    · exact rks_pair b (fun q hq => h q (List.mem_cons_of_mem _ hq)) p hp
theorem rks_map {β : Type} {f : List L2.Key → β} : ∀ {kvs : List (List L2.Key × D)} {vs : List (List L2.Key × V)}, RKs K H η μ kvs vs → kvs.map (fun p => f p.1) = vs.map fun p => f p.1
  | _, _, .nil => rfl
  | _, _, .cons _ b => by rw [List.map_cons, List.map_cons, rks_map b]
theorem rvs_maps {α : Type} {f : α → D} {g : α → V} : ∀ {l : List α}, (∀ x ∈ l, RV K H η μ (f x) (g x)) → RVs K H η μ (l.map f) (l.map g)
  | [], _ => .nil
  | x :: l, h => .cons (h x (List.mem_cons_self ..)) (rvs_maps fun y hy => h y (List.mem_cons_of_mem _ hy))
noncomputable def iPr : List Int → Int × Int
  | [i, j] => (i, j)
  | _ => (0, 0)
theorem rks_SI : ∀ {kvs : List (List L2.Key × D)} {vs : List (List L2.Key × V)}, RKs K H η μ kvs vs → (∀ p ∈ kvs, SI p.1) → ∀ p ∈ vs, SI p.1
  | _, _, .nil, _, p, hp => absurd hp (by simp)
  | _, _, .cons a b, h, p, hp => by
    rcases List.mem_cons.mp hp with rfl | hp
    · exact h _ (List.mem_cons_self ..)
    · exact rks_SI b (fun q hq => h q (List.mem_cons_of_mem _ hq)) p hp
theorem rks_keys : ∀ {kvs : List (List L2.Key × D)} {vs : List (List L2.Key × V)} {bs : List Addr}, RKs K H η μ kvs vs → IsKeys H vs bs → RVs K H η μ (kvs.map fun p => D.tup (p.1.map keyD)) (bs.map V.ref)
  | _, _, _, .nil, .nil => .nil
  | _, _, _, .cons a b, .cons h t => .cons (.tup (.inl (.inl h)) (keyD_rv _)) (rks_keys b t)
theorem pur_tI (r : List Int) : pur (tI r) = some (.tuple (r.map PyData.int)) := by
  have : ∀ r : List Int, purs (r.map D.int) = some (r.map PyData.int) := fun r => by
    induction r with
    | nil => rfl
    | cons x r ih => simp only [List.map_cons, purs, pur, ih, Option.bind_some, Option.map_some]
  simp only [tI, pur, this, Option.map_some]
theorem rvs_pairs : ∀ {bs : List (V × List Int)}, (∀ b ∈ bs, RV K H η μ (tI b.2) b.1) → RVs K H η μ (bs.map (tI ∘ (·.2))) (bs.map (·.1))
  | [], _ => .nil
  | b :: bs, h => .cons (h b (List.mem_cons_self ..)) (rvs_pairs fun c hc => h c (List.mem_cons_of_mem _ hc))
theorem perm_map {α β : Type} (f : α → β) : ∀ (l' : List β) (l : List α), l'.Perm (l.map f) → ∃ k : List α, k.Perm l ∧ k.map f = l'
  | [], l, h => by
    have : l = [] := by
      have := h.length_eq
      rw [List.length_map] at this
      exact List.length_eq_zero_iff.mp (by simpa using this.symm)
    subst this
    exact ⟨[], .refl _, rfl⟩
  | b :: r, l, h => by
    obtain ⟨a, ha, rfl⟩ := List.mem_map.mp (h.subset (List.mem_cons_self ..))
    obtain ⟨s, t, rfl⟩ := List.append_of_mem ha
    have h2 : r.Perm ((s ++ t).map f) := by
      have e : ((s ++ a :: t).map f).Perm (f a :: (s ++ t).map f) := by
        rw [List.map_append, List.map_append, List.map_cons]
        exact List.perm_middle
      exact (h.trans e).cons_inv
    obtain ⟨k, k1, k2⟩ := perm_map f r (s ++ t) h2
    exact ⟨a :: k, (k1.cons a).trans List.perm_middle.symm, by rw [List.map_cons, k2]⟩
theorem rvs_trip : ∀ {cs : List (V × (D × PyData))}, (∀ c ∈ cs, RV K H η μ c.2.1 c.1) → RVs K H η μ (cs.map fun c => c.2.1) (cs.map (·.1))
  | [], _ => .nil
  | b :: bs, h => .cons (h b (List.mem_cons_self ..)) (rvs_trip fun c hc => h c (List.mem_cons_of_mem _ hc))
theorem zip_rv {bs : List (D × PyData)} {vs : List V} (qs : RVs K H η μ (bs.map (·.1)) vs) : (vs.zip bs).map (·.1) = vs ∧ (vs.zip bs).map (·.2) = bs ∧ ∀ c ∈ vs.zip bs, c.2 ∈ bs ∧ RV K H η μ c.2.1 c.1 := by
  have hlen : bs.length = vs.length := by
    have := qs.length
    rwa [List.length_map] at this
  refine ⟨List.map_fst_zip (by omega), List.map_snd_zip (by omega), fun c hc => ?_⟩
  obtain ⟨i, hi⟩ := List.getElem?_of_mem hc
  obtain ⟨h1, h2⟩ := List.getElem?_zip_eq_some.mp hi
  obtain ⟨v, hv, rv⟩ := qs.get (show (bs.map (·.1))[i]? = some c.2.1 by rw [List.getElem?_map, h2]; rfl)
  rw [h1] at hv
  cases hv
  exact ⟨List.mem_of_getElem? h2, rv⟩
theorem rvs1 {d : D} {vs : List V} (h : RVs K H η μ [d] vs) : ∃ v, vs = [v] ∧ RV K H η μ d v := by
  cases h with
  | cons a b => cases b; exact ⟨_, rfl, a⟩
theorem rvs2 {d e : D} {vs : List V} (h : RVs K H η μ [d, e] vs) : ∃ v w, vs = [v, w] ∧ RV K H η μ d v ∧ RV K H η μ e w := by
  cases h with
  | cons a b => obtain ⟨w, rfl, c⟩ := rvs1 b; exact ⟨_, _, rfl, a, c⟩
theorem readsAll_ints {h : Heap} : ∀ {ns : List Int} {its : List Value}, Vals (ns.map V.int) its → ReadsAll h its (ns.map PyData.int) []
  | [], _, r => by cases r; exact .nil
  | n :: ns, _, r => by
    cases r with
    | cons a b =>
      obtain ⟨t, rfl⟩ := a
      exact .cons (as := []) (bs := []) (.int _ _) (readsAll_ints b)
theorem depth_ints : ∀ xs : List Int, PyData.depthAll (xs.map .int) = 0
  | [] => rfl
  | x :: xs => by simp [PyData.depthAll, PyData.depth, depth_ints xs]
theorem alike_ints (n : Int) (ns : List Int) : PySem.W.AlikeAll (.int n :: ns.map .int) := by
  have h : ∀ x ∈ (PyData.int n :: ns.map .int), ∃ k, x = .int k := by
    intro x hx
    rcases List.mem_cons.mp hx with rfl | hx
    · exact ⟨_, rfl⟩
    · obtain ⟨k, _, rfl⟩ := List.mem_map.mp hx; exact ⟨_, rfl⟩
  refine ⟨fun x hx y hy => ?_, fun x hx => ?_⟩
  · obtain ⟨i, rfl⟩ := h x hx
    obtain ⟨j, rfl⟩ := h y hy
    rfl
  · obtain ⟨i, rfl⟩ := h x hx
    exact fun z => nomatch z
theorem foldl_min : ∀ (ns : List Int) (n : Int), ns.foldl min n ∈ n :: ns ∧ ∀ y ∈ n :: ns, ns.foldl min n ≤ y
  | [], n => ⟨by simp, fun y hy => by simp at hy; subst hy; exact Int.le_refl _⟩
  | m :: ns, n => by
    obtain ⟨h1, h2⟩ := foldl_min ns (min n m)
    simp only [List.foldl_cons]
    have h3 := h2 (min n m) (by simp)
    refine ⟨?_, fun y hy => ?_⟩
    · rcases List.mem_cons.mp h1 with h | h
      · rw [h]
        rcases Int.le_total n m with z | z
        · rw [Int.min_eq_left z]; simp
        · rw [Int.min_eq_right z]; simp
      · simp [h]
    · rcases List.mem_cons.mp hy with rfl | hy
      · omega
      · rcases List.mem_cons.mp hy with rfl | hy
        · omega
        · exact h2 y (by simp [hy])
theorem foldl_max : ∀ (ns : List Int) (n : Int), ns.foldl max n ∈ n :: ns ∧ ∀ y ∈ n :: ns, y ≤ ns.foldl max n
  | [], n => ⟨by simp, fun y hy => by simp at hy; subst hy; exact Int.le_refl _⟩
  | m :: ns, n => by
    obtain ⟨h1, h2⟩ := foldl_max ns (max n m)
    simp only [List.foldl_cons]
    have h3 := h2 (max n m) (by simp)
    refine ⟨?_, fun y hy => ?_⟩
    · rcases List.mem_cons.mp h1 with h | h
      · rw [h]
        rcases Int.le_total n m with z | z
        · rw [Int.max_eq_right z]; simp
        · rw [Int.max_eq_left z]; simp
      · simp [h]
    · rcases List.mem_cons.mp hy with rfl | hy
      · omega
      · rcases List.mem_cons.mp hy with rfl | hy
        · omega
        · exact h2 y (by simp [hy])
theorem cr_minT (hc : X.calm = true) (hu : X.A.units + 64 < cLine) : CallR X (.builtin "min") (fun vs H Q => ∃ (a : Addr) (ns : List Int), vs = [V.ref a] ∧ SqT X.K H a (ns.map V.int) ∧ 0 < ns.length ∧ ∀ m, m ∈ ns → (∀ y, y ∈ ns → m ≤ y) → Q (.int m) H) := by
  intro pins s σ H vs us Q I r h
  obtain ⟨a, ns, rfl, hs, hne, q⟩ := h
  obtain ⟨its, rv, p, _⟩ := I.tuple hs
  rw [Vals.ref1 r]
  cases ns with
  | nil => exact absurd hne (by simp)
  | cons n ns =>
    refine PySem.W.min_tuple_data (x := .int n) (xs := ns.map .int) (as := []) (I.ok.hd hc) (show s.heap.IsTuple a its.toArray from p) (readsAll_ints (ns := n :: ns) rv) (alike_ints n ns) (by rw [show PyData.int n :: ns.map .int = (n :: ns).map .int from rfl, depth_ints]; omega) fun i v h' tk bs hi rd hk => ?_
    rw [PySem.W.minD_ints] at rd
    cases rd
    obtain ⟨h1, h2⟩ := foldl_min ns n
    exact ⟨.int _, H, I.kept hk, ⟨_, rfl⟩, q _ h1 h2⟩
theorem cr_maxT (hc : X.calm = true) (hu : X.A.units + 64 < cLine) : CallR X (.builtin "max") (fun vs H Q => ∃ (a : Addr) (ns : List Int), vs = [V.ref a] ∧ SqT X.K H a (ns.map V.int) ∧ 0 < ns.length ∧ ∀ m, m ∈ ns → (∀ y, y ∈ ns → y ≤ m) → Q (.int m) H) := by
  intro pins s σ H vs us Q I r h
  obtain ⟨a, ns, rfl, hs, hne, q⟩ := h
  obtain ⟨its, rv, p, _⟩ := I.tuple hs
  rw [Vals.ref1 r]
  cases ns with
  | nil => exact absurd hne (by simp)
  | cons n ns =>
    refine PySem.W.max_tuple_data (x := .int n) (xs := ns.map .int) (as := []) (I.ok.hd hc) (show s.heap.IsTuple a its.toArray from p) (readsAll_ints (ns := n :: ns) rv) (alike_ints n ns) (by rw [show PyData.int n :: ns.map .int = (n :: ns).map .int from rfl, depth_ints]; omega) fun i v h' tk bs hi rd hk => ?_
    rw [PySem.W.maxD_ints] at rd
    cases rd
    obtain ⟨h1, h2⟩ := foldl_max ns n
    exact ⟨.int _, H, I.kept hk, ⟨_, rfl⟩, q _ h1 h2⟩
theorem tl_of (r : Rp K η μ S H) {d : D} {v : V} {xs : List D} (rv : RV K H η μ d v) (e : tlOf S d = some xs) : ∃ a vs, v = .ref a ∧ (SqL K H a vs ∨ SqT K H a vs) ∧ RVs K H η μ xs vs := by
  cases rv with
  | tup h q => simp [tlOf] at e; subst e; exact ⟨_, _, rfl, .inr h, q⟩
  | ptup h h2 q => simp [tlOf] at e; subst e; exact ⟨_, _, rfl, .inr (.inl (.inr ⟨_, h⟩)), q⟩
  | lst hm hn h q =>
    obtain ⟨a, vs, e1, e2, e3⟩ := lst_of r (.lst hm hn h q) e
    exact ⟨a, vs, e1, .inl (.inl (.inl e2)), e3⟩
  | ref h =>
    obtain ⟨a, vs, e1, e2, e3⟩ := lst_of r (.ref h) e
    exact ⟨a, vs, e1, .inl (.inl (.inl e2)), e3⟩
  | _ => simp [tlOf, lstOf] at e
theorem uniq_min {bs : List Int} {m m' : Int} (h1 : m ∈ bs) (h2 : ∀ y ∈ bs, m ≤ y) (h3 : m' ∈ bs) (h4 : ∀ y ∈ bs, m' ≤ y) : m' = m := by
  have := h2 m' h3; have := h4 m h1; omega
theorem uniq_max {bs : List Int} {m m' : Int} (h1 : m ∈ bs) (h2 : ∀ y ∈ bs, y ≤ m) (h3 : m' ∈ bs) (h4 : ∀ y ∈ bs, y ≤ m') : m' = m := by
  have := h2 m' h3; have := h4 m h1; omega
theorem rvs3 {d e f : D} {vs : List V} (h : RVs K H η μ [d, e, f] vs) : ∃ v w u, vs = [v, w, u] ∧ RV K H η μ d v ∧ RV K H η μ e w ∧ RV K H η μ f u := by
  cases h with
  | cons a b => obtain ⟨w, u, rfl, c, d⟩ := rvs2 b; exact ⟨_, _, _, rfl, a, c, d⟩
theorem biR (hc : X.calm = true) (hG : X.A.guards = some []) (hu : X.A.units + 64 < cLine) : ∀ b, ∃ r, BiR X b r
  | .len => ⟨_, call_len, fun {η μ S H m ds vs QD Q} r rv h hQ => by
      unfold biD at h
      split at h <;> first | exact h.elim | skip
      all_goals try (rename_i e1; cases e1)
      · obtain ⟨v, rfl, a⟩ := rvs1 rv; cases a
        exact ⟨_, _, rfl, ⟨h.1, rfl⟩, hQ _ _ (stay r (.int _) h.2)⟩
      · obtain ⟨v, rfl, a⟩ := rvs1 rv
        obtain ⟨xs, e, q⟩ := h
        obtain ⟨b, vs, rfl, hq, qs⟩ := seq_of r a e
        rw [qs.length] at q
        rcases hq with hq | hq
        · exact ⟨_, _, rfl, .inl ⟨_, hq, rfl⟩, hQ _ _ (stay r (.int _) q)⟩
        · exact ⟨_, _, rfl, .inr ⟨_, hq, rfl⟩, hQ _ _ (stay r (.int _) q)⟩⟩
  | .abs => ⟨_, call_abs, fun {η μ S H m ds vs QD Q} r rv h hQ => by
      unfold biD at h
      split at h <;> first | exact h.elim | skip
      all_goals try (rename_i e1; cases e1)
      · obtain ⟨v, rfl, a⟩ := rvs1 rv; cases a
        exact ⟨_, rfl, hQ _ _ (stay r (.int _) h)⟩⟩
  | .min2 => ⟨_, call_min2 hc, fun {η μ S H m ds vs QD Q} r rv h hQ => by
      unfold biD at h
      split at h <;> first | exact h.elim | skip
      all_goals try (rename_i e1; cases e1)
      · obtain ⟨v, w, rfl, a, b⟩ := rvs2 rv; cases a; cases b
        exact ⟨_, _, rfl, hQ _ _ (stay r (.int _) h)⟩⟩
  | .max2 => ⟨_, call_max2 hc, fun {η μ S H m ds vs QD Q} r rv h hQ => by
      unfold biD at h
      split at h <;> first | exact h.elim | skip
      all_goals try (rename_i e1; cases e1)
      · obtain ⟨v, w, rfl, a, b⟩ := rvs2 rv; cases a; cases b
        exact ⟨_, _, rfl, hQ _ _ (stay r (.int _) h)⟩⟩
  | .int1 => ⟨_, call_int1, fun {η μ S H m ds vs QD Q} r rv h hQ => by
      unfold biD at h
      split at h <;> first | exact h.elim | skip
      all_goals try (rename_i e1; cases e1)
      · obtain ⟨v, rfl, a⟩ := rvs1 rv; cases a
        exact .inl ⟨_, rfl, hQ _ _ (stay r (.int _) h)⟩
      · obtain ⟨v, rfl, a⟩ := rvs1 rv; cases a
        exact .inr ⟨_, rfl, hQ _ _ (stay r (.int _) h)⟩⟩
  | .tuple1 => ⟨_, call_tuple_of, fun {η μ S H m ds vs QD Q} r rv h hQ => by
      unfold biD at h
      split at h <;> first | exact h.elim | skip
      all_goals try (rename_i e1; cases e1)
      · obtain ⟨v, rfl, a⟩ := rvs1 rv
        cases a with
        | tup h1 q1 => exact ⟨_, _, rfl, .inr ⟨h1, hQ _ _ (stay r (.tup h1 q1) h)⟩⟩
      · obtain ⟨v, rfl, a⟩ := rvs1 rv
        obtain ⟨xs, e, q⟩ := h
        obtain ⟨b, vs, rfl, hq, qs⟩ := lst_of r a e
        exact ⟨_, _, rfl, .inl ⟨.inl (.inl hq), fun p hp => hQ _ _ (new_tup r qs q p hp)⟩⟩⟩
  | .list1 => ⟨_, call_list_of, fun {η μ S H m ds vs QD Q} r rv h hQ => by
      unfold biD at h
      split at h <;> first | exact h.elim | skip
      all_goals try (rename_i e1; cases e1)
      · obtain ⟨v, rfl, a⟩ := rvs1 rv
        obtain ⟨xs, e, q⟩ := h
        obtain ⟨b, vs, rfl, hq, qs⟩ := seq_of r a e
        exact ⟨_, _, rfl, hq, fun p hp => hQ _ _ (new_lst r qs q p hp)⟩⟩
  | .all1 => ⟨_, cr_all hc, fun {η μ S H m ds vs QD Q} r rv h hQ => by
      unfold biD at h
      split at h <;> first | exact h.elim | skip
      all_goals try (rename_i e1; cases e1)
      · obtain ⟨v, rfl, a⟩ := rvs1 rv
        obtain ⟨xs, bs, e, eb, q⟩ := h
        obtain ⟨b, vs, rfl, hq, qs⟩ := lst_of r a e
        exact ⟨_, bs, rfl, .inl (.inl (by rw [← bls_of qs eb]; exact hq)), hQ _ _ (stay r (.bl _) q)⟩⟩
  | .any1 => ⟨_, cr_any hc, fun {η μ S H m ds vs QD Q} r rv h hQ => by
      unfold biD at h
      split at h <;> first | exact h.elim | skip
      all_goals try (rename_i e1; cases e1)
      · obtain ⟨v, rfl, a⟩ := rvs1 rv
        obtain ⟨xs, bs, e, eb, q⟩ := h
        obtain ⟨b, vs, rfl, hq, qs⟩ := lst_of r a e
        exact ⟨_, bs, rfl, .inl (.inl (by rw [← bls_of qs eb]; exact hq)), hQ _ _ (stay r (.bl _) q)⟩⟩
  | .sum1 => ⟨_, cr_sumT hc, fun {η μ S H m ds vs QD Q} r rv h hQ => by
      unfold biD at h
      split at h <;> first | exact h.elim | skip
      all_goals try (rename_i e1; cases e1)
      · obtain ⟨v, rfl, a⟩ := rvs1 rv
        obtain ⟨xs, bs, e, eb, q⟩ := h
        obtain ⟨b, vs, rfl, hq, qs⟩ := tl_of r a e
        exact ⟨_, bs, rfl, by rw [← ints_of qs eb]; exact hq, hQ _ _ (stay r (.int _) q)⟩⟩
  | .repr1 => ⟨_, call_reprD hG hu, fun {η μ S H m ds vs QD Q} r rv h hQ => by
      unfold biD at h
      split at h <;> first | exact h.elim | skip
      all_goals try (rename_i e1; cases e1)
      · obtain ⟨v, rfl, a⟩ := rvs1 rv
        obtain ⟨p, e, ok, q⟩ := h
        exact ⟨_, p, rfl, dpS_of r a e, ok, hQ _ _ (stay r (.str _) q)⟩⟩
  | .reprE => ⟨_, call_reprE hG hu, fun {η μ S H m ds vs QD Q} r rv h hQ => by
      unfold biD at h
      split at h <;> first | exact h.elim | skip
      all_goals try (rename_i e1; cases e1)
      · obtain ⟨v, rfl, a⟩ := rvs1 rv
        obtain ⟨p, e, ok, q⟩ := h
        exact ⟨_, p, rfl, dpE_of r a e, ok, hQ _ _ (stay r (.str _) q)⟩⟩
  | .min1 => ⟨_, (cr_min hc).or (cr_minT hc hu), fun {η μ S H m ds vs QD Q} r rv h hQ => by
      unfold biD at h
      split at h <;> first | exact h.elim | skip
      all_goals try (rename_i e1; cases e1)
      · obtain ⟨v, rfl, a⟩ := rvs1 rv
        obtain ⟨xs, bs, k, e, eb, hk1, hk2, q⟩ := h
        obtain ⟨b, vs, rfl, hq, qs⟩ := tl_of r a e
        have hl : 0 < bs.length := List.length_pos_of_mem hk1
        rw [ints_of qs eb] at hq
        rcases hq with hq | hq
        · exact .inl ⟨_, bs, rfl, hq, hl, fun k' h1 h2 => by rw [uniq_min hk1 hk2 h1 h2]; exact hQ _ _ (stay r (.int _) q)⟩
        · exact .inr ⟨_, bs, rfl, hq, hl, fun k' h1 h2 => by rw [uniq_min hk1 hk2 h1 h2]; exact hQ _ _ (stay r (.int _) q)⟩⟩
  | .max1 => ⟨_, (cr_max hc).or (cr_maxT hc hu), fun {η μ S H m ds vs QD Q} r rv h hQ => by
      unfold biD at h
      split at h <;> first | exact h.elim | skip
      all_goals try (rename_i e1; cases e1)
      · obtain ⟨v, rfl, a⟩ := rvs1 rv
        obtain ⟨xs, bs, k, e, eb, hk1, hk2, q⟩ := h
        obtain ⟨b, vs, rfl, hq, qs⟩ := tl_of r a e
        have hl : 0 < bs.length := List.length_pos_of_mem hk1
        rw [ints_of qs eb] at hq
        rcases hq with hq | hq
        · exact .inl ⟨_, bs, rfl, hq, hl, fun k' h1 h2 => by rw [uniq_max hk1 hk2 h1 h2]; exact hQ _ _ (stay r (.int _) q)⟩
        · exact .inr ⟨_, bs, rfl, hq, hl, fun k' h1 h2 => by rw [uniq_max hk1 hk2 h1 h2]; exact hQ _ _ (stay r (.int _) q)⟩⟩
  | .min3 => ⟨_, call_min3Nu hc, fun {η μ S H m ds vs QD Q} r rv h hQ => by
      unfold biD at h
      split at h <;> first | exact h.elim | skip
      all_goals try (rename_i e1; cases e1)
      · obtain ⟨v, w, u, rfl, a, b, c⟩ := rvs3 rv; cases a; cases b; cases c
        refine ⟨_, _, _, _, rfl, ?_, hQ _ _ (stay r (.int _) h)⟩
        simp only [nuMin3, nuMin2, nuLt, nuCB, Option.map_some, Option.bind_some, decide_eq_true_eq, gt_iff_lt]
        first
          | rfl
          | (split <;> simp only [nuLt, nuCB, Option.map_some, decide_eq_true_eq] <;> first | rfl | (split <;> rfl))⟩
  | .max3 => ⟨_, call_max3Nu hc, fun {η μ S H m ds vs QD Q} r rv h hQ => by
      unfold biD at h
      split at h <;> first | exact h.elim | skip
      all_goals try (rename_i e1; cases e1)
      · obtain ⟨v, w, u, rfl, a, b, c⟩ := rvs3 rv; cases a; cases b; cases c
        refine ⟨_, _, _, _, rfl, ?_, hQ _ _ (stay r (.int _) h)⟩
        simp only [nuMax3, nuMax2, nuLt, nuCB, Option.map_some, Option.bind_some, decide_eq_true_eq, gt_iff_lt]
        first
          | rfl
          | (split <;> simp only [nuLt, nuCB, Option.map_some, decide_eq_true_eq] <;> first | rfl | (split <;> rfl))⟩
  | .sortT => ⟨_, cr_sortedTI, fun {η μ S H m ds vs QD Q} r rv h hQ => by
      unfold biD at h
      split at h <;> first | exact h.elim | skip
      all_goals try (rename_i e1; cases e1)
      · obtain ⟨v, rfl, a⟩ := rvs1 rv
        obtain ⟨ns, en, q⟩ := h
        cases a with
        | tup hq qs =>
          rw [ints_of qs en] at hq
          exact ⟨_, ns, rfl, hq, fun ns' p h1 h2 hpn => hQ _ _ (new_lst r (ints_rv ns') (q ns' h1 h2) p hpn)⟩⟩
  | .sortL => ⟨_, cr_sortedLT hu, fun {η μ S H m ds vs QD Q} r rv h hQ => by
      unfold biD at h
      split at h <;> first | exact h.elim | skip
      all_goals try (rename_i e1; cases e1)
      · obtain ⟨v, rfl, a⟩ := rvs1 rv
        obtain ⟨rows, e, hne, q⟩ := h
        obtain ⟨b, vs, rfl, hq, qs⟩ := lst_of r a e
        have hlen : rows.length = vs.length := by
          have := qs.length
          rwa [List.length_map] at this
        have e1 : (vs.zip rows).map (·.1) = vs := List.map_fst_zip (by omega)
        have e2 : (vs.zip rows).map (·.2) = rows := List.map_snd_zip (by omega)
        have mem : ∀ b ∈ vs.zip rows, b.2 ∈ rows ∧ RV X.K H η μ (tI b.2) b.1 := fun b hb => by
          obtain ⟨i, hi⟩ := List.getElem?_of_mem hb
          obtain ⟨h1, h2⟩ := List.getElem?_zip_eq_some.mp hi
          obtain ⟨v, hv, rv⟩ := qs.get (show (rows.map tI)[i]? = some (tI b.2) by rw [List.getElem?_map, h2]; rfl)
          rw [h1] at hv
          cases hv
          exact ⟨List.mem_of_getElem? h2, rv⟩
        refine ⟨b, vs.zip rows, rfl, by rw [e1]; exact .inl (.inl hq), fun b hb => ⟨hne _ (mem b hb).1, dp_of (mem b hb).2 (pur_tI _)⟩, fun bs' p hp hpw hpn => ?_⟩
        refine hQ _ _ (new_lst (m := m) r (rvs_pairs fun b hb => (mem b (hp.mem_iff.mp hb)).2) ?_ p hpn)
        have hperm : (bs'.map (·.2)).Perm rows := by
          have := hp.map (·.2)
          rwa [e2] at this
        have := q _ hperm (List.pairwise_map.mpr hpw)
        rwa [List.map_map] at this⟩
  | .sortP => ⟨_, cr_sortedDP hc hu, fun {η μ S H m ds vs QD Q} r rv h hQ => by
      unfold biD at h
      split at h <;> first | exact h.elim | skip
      all_goals try (rename_i e1; cases e1)
      · obtain ⟨v, rfl, a⟩ := rvs1 rv
        obtain ⟨n, kvs, rfl, e, hp, q⟩ := h
        obtain ⟨b, vs, rfl, hd, ks⟩ := dct_of r a e
        have hpv := rks_pair ks hp
        refine ⟨b, vs, rfl, hd, hpv, fun p bs bs' hpn hbs hbt hperm hpw => ?_⟩
        have hpr : ∀ c ∈ bs, ∃ i j : Int, c.2 = [i, j] := fun c hc => by
          have hm : c.2 ∈ vs.map fun q => kI q.1 := by rw [← hbs]; exact List.mem_map.mpr ⟨c, hc, rfl⟩
          obtain ⟨w, hw, e3⟩ := List.mem_map.mp hm
          obtain ⟨i, j, e4⟩ := hpv w hw
          rw [e4] at e3
          exact ⟨i, j, e3.symm⟩
        have rvs' : RVs X.K H η μ ((bs'.map fun c => iPr c.2).map pD) (bs'.map (·.1)) := by
          rw [List.map_map]
          refine rvs_maps fun c hc => ?_
          have hc' := hperm.mem_iff.mp hc
          obtain ⟨i, j, e3⟩ := hpr c hc'
          obtain ⟨a', e4, e5⟩ := hbt c hc'
          show RV X.K H η μ (pD (iPr c.2)) c.1
          rw [e4, e3]
          rw [e3] at e5
          exact .tup (.inl (.inl e5)) (.cons (.int _) (.cons (.int _) .nil))
        refine hQ _ _ (new_lst r rvs' (q _ ?_ ?_) p hpn)
        · have e6 : kvs.map (fun p => kPr p.1) = bs.map fun c => iPr c.2 := by
            have e7 : bs.map (fun c => iPr c.2) = (vs.map fun q => kI q.1).map iPr := by rw [← hbs, List.map_map]; rfl
            rw [e7, List.map_map, rks_map (f := kPr) ks]
            refine List.map_congr_left fun w hw => ?_
            obtain ⟨i, j, e4⟩ := hpv w hw
            show kPr w.1 = iPr (kI w.1)
            rw [e4]
            rfl
          rw [e6]
          exact hperm.map _
        · rw [List.pairwise_map]
          refine hpw.imp_of_mem fun {x y} hx hy hxy => ?_
          obtain ⟨i, j, e3⟩ := hpr x (hperm.mem_iff.mp hx)
          obtain ⟨i', j', e4⟩ := hpr y (hperm.mem_iff.mp hy)
          rw [e3, e4] at hxy ⊢
          rcases List.cons_le_cons_iff.mp hxy with h1 | ⟨h1, h2⟩
          · exact .inl h1
          · refine .inr ⟨h1, ?_⟩
            rcases List.cons_le_cons_iff.mp h2 with h3 | ⟨h3, _⟩
            · exact Int.le_of_lt h3
            · exact Int.le_of_eq h3⟩
  | .sortD => ⟨_, cr_sortedAD hu, fun {η μ S H m ds vs QD Q} r rv h hQ => by
      unfold biD at h
      split at h <;> first | exact h.elim | skip
      all_goals try (rename_i e1; cases e1)
      · obtain ⟨v, rfl, a⟩ := rvs1 rv
        obtain ⟨bs, e, hb, hal, hso, q⟩ := h
        obtain ⟨b, vs, rfl, hq, qs⟩ := lst_of r a e
        obtain ⟨e1, e2, mem⟩ := zip_rv qs
        have ef : ((vs.zip bs).map fun c => ((c.1, c.2.2) : V × PyData)).map (·.1) = vs := by rw [List.map_map]; exact e1
        have es : ((vs.zip bs).map fun c => ((c.1, c.2.2) : V × PyData)).map sndP = bs.map (·.2) := by
          rw [List.map_map]
          have := congrArg (List.map fun x : D × PyData => x.2) e2
          rwa [List.map_map] at this
        refine ⟨b, (vs.zip bs).map fun c => (c.1, c.2.2), rfl, by rw [ef]; exact .inl (.inl hq), fun c hc => ?_, by rw [es]; exact hal, by rw [es]; exact hso, fun bs' p hp hpw hpn => ?_⟩
        · obtain ⟨w, hw, rfl⟩ := List.mem_map.mp hc
          obtain ⟨m1, m2⟩ := mem w hw
          exact ⟨(hb _ m1).2, dp_of m2 (hb _ m1).1⟩
        · obtain ⟨k, k1, rfl⟩ := perm_map _ _ _ hp
          have g1 : (k.map (·.2)).Perm bs := by have := k1.map (·.2); rwa [e2] at this
          have n1 : ((k.map fun c => ((c.1, c.2.2) : V × PyData)).map (·.1)) = k.map (·.1) := by rw [List.map_map]; rfl
          rw [n1]
          refine hQ _ _ (new_lst (m := m) r (rvs_trip fun c hc => (mem c (k1.mem_iff.mp hc)).2) ?_ p hpn)
          have := q (k.map (·.2)) g1 (List.pairwise_map.mpr (List.pairwise_map.mp hpw))
          rwa [List.map_map] at this⟩
  | .minD => ⟨_, cr_minAD hc hu, fun {η μ S H m ds vs QD Q} r rv h hQ => by
      unfold biD at h
      split at h <;> first | exact h.elim | skip
      all_goals try (rename_i e1; cases e1)
      · obtain ⟨v, rfl, a⟩ := rvs1 rv
        obtain ⟨bs, e, hne, hb, hal, q⟩ := h
        obtain ⟨b, vs, rfl, hq, qs⟩ := lst_of r a e
        obtain ⟨e1, e2, mem⟩ := zip_rv qs
        have ef : ((vs.zip bs).map fun c => ((c.1, c.2.2) : V × PyData)).map (·.1) = vs := by rw [List.map_map]; exact e1
        have es : ((vs.zip bs).map fun c => ((c.1, c.2.2) : V × PyData)).map sndP = bs.map (·.2) := by
          rw [List.map_map]
          have := congrArg (List.map fun x : D × PyData => x.2) e2
          rwa [List.map_map] at this
        refine ⟨b, (vs.zip bs).map fun c => (c.1, c.2.2), rfl, by rw [ef]; exact .inl (.inl hq), fun z => ?_, fun c hc => ?_, by rw [es]; exact hal, fun c hc hmin => ?_⟩
        · have h0 : ((vs.zip bs).map (·.2)) = [] := by
            have := List.map_eq_nil_iff.mp z
            rw [this]; rfl
          rw [e2] at h0
          exact hne h0
        · obtain ⟨w, hw, rfl⟩ := List.mem_map.mp hc
          obtain ⟨m1, m2⟩ := mem w hw
          exact ⟨(hb _ m1).2, dp_of m2 (hb _ m1).1⟩
        · obtain ⟨w, hw, rfl⟩ := List.mem_map.mp hc
          obtain ⟨m1, m2⟩ := mem w hw
          refine hQ _ _ (stay r m2 (q w.2 m1 fun d hd => ?_))
          rw [← e2] at hd
          obtain ⟨u, hu', rfl⟩ := List.mem_map.mp hd
          exact hmin (u.1, u.2.2) (List.mem_map.mpr ⟨u, hu', rfl⟩)⟩
  | .intS => ⟨_, call_int_str, fun {η μ S H m ds vs QD Q} r rv h hQ => by
      unfold biD at h
      split at h <;> first | exact h.elim | skip
      all_goals try (rename_i e1; cases e1)
      · obtain ⟨v, rfl, a⟩ := rvs1 rv; cases a
        obtain ⟨n, e, hl, q⟩ := h
        exact ⟨_, n, rfl, e, hl, hQ _ _ (stay r (.int _) q)⟩⟩
  | .str1 => ⟨_, call_str_int, fun {η μ S H m ds vs QD Q} r rv h hQ => by
      unfold biD at h
      split at h <;> first | exact h.elim | skip
      all_goals try (rename_i e1; cases e1)
      · obtain ⟨v, rfl, a⟩ := rvs1 rv
        obtain ⟨i, rfl, hl, q⟩ := h
        cases a
        exact ⟨_, rfl, hl, hQ _ _ (stay r (.str _) q)⟩⟩
  | .listD => ⟨_, call_list_dT hc, fun {η μ S H m ds vs QD Q} r rv h hQ => by
      unfold biD at h
      split at h <;> first | exact h.elim | skip
      all_goals try (rename_i e1; cases e1)
      · obtain ⟨v, rfl, a⟩ := rvs1 rv
        obtain ⟨n, kvs, rfl, e, q⟩ := h
        obtain ⟨b, vs, rfl, hd, ks⟩ := dct_of r a e
        exact ⟨_, _, rfl, hd, fun p bs hpn hk => hQ _ _ (new_lst r (rks_keys ks hk) q p hpn)⟩⟩
  | .sorted1 => ⟨_, cr_sortedI.or ((cr_sortedDT hc).or (cr_sortedDS hc hu)), fun {η μ S H m ds vs QD Q} r rv h hQ => by
      unfold biD at h
      split at h <;> first | exact h.elim | skip
      all_goals try (rename_i e1; cases e1)
      · obtain ⟨v, rfl, a⟩ := rvs1 rv
        rcases h with ⟨xs, ns, e, en, q⟩ | ⟨n, kvs, rfl, e, hp, q⟩ | ⟨n, kvs, rfl, e, hp, q⟩
        · obtain ⟨b, vs, rfl, hq, qs⟩ := lst_of r a e
          rw [ints_of qs en] at hq
          exact .inl ⟨b, ns, rfl, .inl (.inl hq), fun ns' p h1 h2 hpn => hQ _ _ (new_lst r (ints_rv ns') (q ns' h1 h2) p hpn)⟩
        · obtain ⟨b, vs, rfl, hd, ks⟩ := dct_of r a e
          refine .inr (.inl ⟨b, vs, rfl, hd, rks_pair ks hp, fun p ys bs hpn hk hperm => ?_⟩)
          obtain ⟨ds', e1, e2⟩ := rvs_perm (rks_keys ks hk) hperm
          exact hQ _ _ (new_lst r e2 (q ds' e1) p hpn)
        · obtain ⟨b, vs, rfl, hd, ks⟩ := dct_of r a e
          refine .inr (.inr ⟨b, vs, rfl, hd, rks_SI ks hp, fun p ys bs hpn hk hperm => ?_⟩)
          obtain ⟨ds', e1, e2⟩ := rvs_perm (rks_keys ks hk) hperm
          exact hQ _ _ (new_lst r e2 (q ds' e1) p hpn)⟩
end
end DL
namespace DL
open PySem PySem.Spec PyProof.Rows L2
theorem meets_enumerate_newT (l : Addr) (items : Array Value) :
    Meets (Builtin.«enumerate.__new__» ⟨[.type "enumerate", .ref l], []⟩) (fun _ R s => s.heap.IsTuple l items ∧
      R (.ok (.ret (.ref (s.heap.push { cls := .type "tuple_iterator", data := .fields #[.ref l, .int 0 0] }).objs.size)))
        { s with heap := (s.heap.push { cls := .type "tuple_iterator", data := .fields #[.ref l, .int 0 0] }).push { cls := .type "enumerate", data := .fields #[.none, .bool false, .ref s.heap.objs.size, rawInt 0, .none, .none] } }) :=
  .of_wp fun prog w A R s h => by
    obtain ⟨hp, g, d, tk, os⟩ := s; obtain ⟨hl, h⟩ := h
    have hsub := sub_enumerate
    have hL : Heap.IsTuple (Shared.heap ⟨hp, g, d, tk, os⟩) l items := hl
    wp_walk
    refine wpAny_stack_any fun st => wpAny_pure ?_
    split
    · rename_i c _ _ _ _ _
      cases (c == Value.type "enumerate")
      · wp_walk using wpAny_pyIter_tuple hL
        exact ⟨_, rfl, h⟩
      · wp_walk using wpAny_pyIter_tuple hL
        exact ⟨_, rfl, h⟩
    · wp_walk using wpAny_pyIter_tuple hL
      exact ⟨_, rfl, h⟩
section
variable {prog : Program} {w : World} {A : Around} {E : Value → Shared → Prop} {s : Shared}
theorem call_enumerate_tuple {l : Addr} {items : Array Value} {Q : Value → Shared → Prop} (hL : s.heap.IsTuple l items)
    (h : ∀ h', IsEnum h' (s.heap.objs.size + 1) s.heap.objs.size 0 .none → h'.IsTupleIter s.heap.objs.size l 0 → h'.objs.size = s.heap.objs.size + 2 →
      (∀ b o, s.heap.get? b = some o → h'.get? b = some o) → Q (.ref (s.heap.objs.size + 1)) { s with heap := h' }) :
    wpAny (model prog w) A (call (.type "enumerate") [.ref l]) Q E s := by
  refine callType_new F.called_enumerate (by decide) (F.typeCall_enumerate_1 _) (F.newCall_enumerate_1 _) (fun obj => F.args_object_init_2 obj _) F.entry_enumerate_new
    (meets_enumerate_newT l items) ⟨hL, ?_⟩
  have hz : (s.heap.push { cls := .type "tuple_iterator", data := .fields #[.ref l, .int 0 0] }).objs.size = s.heap.objs.size + 1 := Heap.size_push ..
  show _ ∧ _
  rw [hz]
  have he : IsEnum ((s.heap.push { cls := .type "tuple_iterator", data := .fields #[.ref l, .int 0 0] }).push
      { cls := .type "enumerate", data := .fields #[.none, .bool false, .ref s.heap.objs.size, rawInt 0, .none, .none] }) (s.heap.objs.size + 1) s.heap.objs.size 0 .none := by
    have := Heap.get?_push_size (s.heap.push { cls := .type "tuple_iterator", data := .fields #[.ref l, .int 0 0] })
      (o := { cls := .type "enumerate", data := .fields #[.none, .bool false, .ref s.heap.objs.size, rawInt 0, .none, .none] }) rfl
    rw [hz] at this; exact this
  refine ⟨⟨_, he, rfl⟩, h _ he ⟨_, Heap.get?_push_of_some _ (Heap.get?_push_size _ rfl), rfl, rfl⟩ (by rw [Heap.size_push, hz]) fun b o x => Heap.get?_push_of_some _ (Heap.get?_push_of_some _ x)⟩
theorem pyNext_enumT_end {e it l : Addr} {i : Nat} {items : Array Value} {old : Value} {Q : Option Value → Shared → Prop} (hh : A.handled = none)
    (he : IsEnum s.heap e it i old) (hit : s.heap.IsTupleIter it l i) (hl : s.heap.IsTuple l items) (hx : items[i]? = none)
    (hQ : ∀ h', Heap.ExtBut it s.heap h' → Q none { s with heap := h' }) : wpAny (model prog w) A (pyNext (.ref e)) Q E s := by
  have hT : s.TypeIs (.ref e) "enumerate" := ⟨_, he, rfl⟩
  unfold pyNext
  refine wpAny_bind (wpAny_attempt (wpAny_callSpecial?_slot (name := Str.ofString "__next__") hT F.slot_enumerate_next
    (wpAny_call_entry F.slot_enumerate_next hT F.entry_enumerate_next ?_ (F.args_enumerate_next_1 _))))
  show wpAny _ _ (field (.ref e) 2 >>= _) _ _ _
  refine wpAny_bind (wpAny_field he rfl (x := .ref it) rfl ?_)
  refine wpAny_bind (RZ.nextOf_tuple_end hh hit hl hx fun h' x he' hx' => ?_)
  obtain ⟨o, ho, hc⟩ := hx'
  refine wpAny_bind (wpAny_isInstance (T := "StopIteration") (b := true) ⟨o, ho, hc⟩ isSubtype_stop ?_)
  exact wpAny_pure (hQ _ he')
end
/-- the tuple at a, each item in a new pair -/
noncomputable def IteT (K : PySem.W.Frag) (a : Addr) : It :=
  ⟨fun i H => ∃ (xs : List V) (x : V), SqT K H a xs ∧ xs[i]? = some x, fun i H v H' => ∃ T x, v = .ref T ∧ H T = none ∧ H' = upd H T (.tup [.int (i : Nat), x]) ∧ ∀ xs, SqT K H a xs → xs[i]? = some x, fun i H => ∃ xs : List V, SqT K H a xs ∧ xs.length ≤ i⟩
theorem turn_enumT {P : Program} {w : World} {K : PySem.W.Frag} {elts : List Expr} {kk : Nat} {tpos : Pos} (a e it : Addr) (hae : a ≠ e) (hai : a ≠ it) :
    Turn P w K (.Tuple elts kk tpos) (IteT K a) [e, it] e (fun i h => (∃ old, IsEnum h e it ((i : Nat) : Int) old) ∧ h.IsTupleIter it a i ∧ e ≠ it) where
  mem := by simp
  obj := fun i h st b hb => by
    obtain ⟨⟨old, he⟩, ⟨o, ho, hc, hd⟩, _⟩ := st
    have e' : b = e ∨ b = it := by simpa using hb
    rcases e' with z | z
    · rw [z]; exact ⟨_, he, fun v q => nomatch q⟩
    · rw [z]; exact ⟨o, ho, fun v q => by rw [hd] at q; cases q⟩
  keep := fun i h h' st k => let ⟨⟨old, he⟩, hi, hne⟩ := st; ⟨⟨old, k e (by simp) _ he⟩, hi.at fun o q => k it (by simp) o q, hne⟩
  item := by
    intro X hP hw hK hc i pins s σ H E I hf st hg
    subst hP hw hK
    obtain ⟨⟨old, he⟩, hit, hne⟩ := st
    obtain ⟨xs, x, hq, hx⟩ := hg
    obtain ⟨its, rv, p, hz⟩ := I.tuple hq
    obtain ⟨u, hu, ru⟩ := rv.get hx
    have hul : i < its.toArray.size := by simpa using (List.getElem?_eq_some_iff.mp hu).1
    have hel : e < s.heap.objs.size := Heap.lt_size he
    have hil : it < s.heap.objs.size := by obtain ⟨_, q, _⟩ := hit; exact Heap.lt_size q
    refine wpAny_pyNext_enum_itemD (Draws.tuple (A := X.A.in1) (show X.A.in1.handled = none from I.ok.hd hc) it a hai its.toArray) he ⟨hit, p⟩ hul hne (by simp [hne, Ne.symm hae]) fun y h' tk hy ho hst hT hsz hk => ?_
    have hyu : y = u := Option.some.inj (hy.symm.trans (by simpa using hu))
    subst hyu
    refine ⟨_, rfl, wpAny_letOwnedTupleGo_enum (s := { s with heap := h', toks := tk + 1 }) ho fun h'' he' sb => ?_⟩
    have hT2 : h''.get? s.heap.objs.size = some { cls := .type "tuple", data := .seq #[.int i tk, y] } := (sb.2 _ (Nat.ne_of_gt hel)).trans hT
    have new : ObjOk X.prog X.w (upd H s.heap.objs.size (.tup [.int (i : Nat), x])) h'' s.heap.objs.size (.tup [.int (i : Nat), x]) :=
      ⟨by show 2 ≤ sizeLine; decide, [.int i tk, y], .cons ⟨_, rfl⟩ (.cons ru .nil), ⟨_, hT2, rfl, _, rfl⟩⟩
    have I1 : Inv X pins σ (upd H s.heap.objs.size (.tup [.int (i : Nat), x])) { s with heap := h'', toks := tk + 1 } :=
      I.turnedNew (ch := [e, it]) (fun b ob hb q => (sb.2 b (fun z => hb (by simp [z]))).trans (hk b ob (fun z => hb (by simp [z])) (fun z => hb (by simp [z])) q)) hf (Nat.le_refl _) new
    refine ⟨.ref s.heap.objs.size, _, I1, rfl, ⟨_, x, rfl, I.hok.fresh (Nat.le_refl _), rfl, fun ys hy => by rw [I.tuple_inj hy hq]; exact hx⟩, ⟨⟨y, ?_⟩, hst.1.at fun o q => (sb.2 it (Ne.symm hne)).trans q, hne⟩, fun b hb => ?_⟩
    · have e1 : ((i + 1 : Nat) : Int) = (i : Int) + 1 := by omega
      rw [e1]; exact he'
    · have hb' : b < s.heap.objs.size := by
        have e' : b = e ∨ b = it := by simpa using hb
        rcases e' with z | z
        · rw [z]; exact hel
        · rw [z]; exact hil
      rw [upd_ne (Nat.ne_of_lt hb')]
      exact (hf b hb).1
  done := by
    intro X hP hw hK hc i pins s σ H E I hf st hg
    subst hP hw hK
    obtain ⟨⟨old, he⟩, hit, hne⟩ := st
    obtain ⟨xs, hq, hx⟩ := hg
    obtain ⟨its, rv, p, hz⟩ := I.tuple hq
    obtain ⟨f0, f1, f2, f3, f4, f5⟩ := hf it (by simp)
    have hl := rv.length
    exact pyNext_enumT_end (I.ok.hd hc) he hit (show s.heap.IsTuple a its.toArray from p) (by simp; omega) fun h' eb => ⟨rfl, I.turned (t' := s.toks) (fun b o hb q => eb b o hb q) f0 f1 f3 f4 f5⟩
  self := fun A i s Q E st h => let ⟨⟨_, he⟩, _⟩ := st; wpAny_pyIter_enum he h
noncomputable def iEnumT (K : PySem.W.Frag) (ta : TA) : TI := fun σ H R => ta σ H fun vs H1 => ∃ a xs, vs = [.ref a] ∧ ((SqL K H1 a xs ∧ R (Ite K a) H1) ∨ (SqT K H1 a xs ∧ R (IteT K a) H1))
theorem pi_enumA {X : Cx} {e : Expr} {ta : TA} {p pos tpos : Pos} {elts : List Expr} {kk : Nat} (hg : Gl X "enumerate") (hm : X.mg "enumerate" = none) (ha : PA X [e] ta) (hs : starEach [e] X.env = [(false, eval e X.env)] := by rfl) :
    PI X (.Tuple elts kk tpos) (.Call (.Name "enumerate" p) [e] [] pos) (iEnumT X.K ta) := by
  refine ⟨fun pins s σ H R I h => ?_⟩
  refine Call_ (ld_blt I hg hm boot_enumerate (PyProof.Rows.callWith_type1 (thn (ha.run pos pins s σ H _ I h) fun us s1 ⟨vs, H1, I1, r1, q1⟩ => ?_) hs rfl))
  obtain ⟨a, xs, ex, q⟩ := q1
  subst ex
  cases r1 with
  | cons r rr =>
    cases rr
    cases r
    have fr : ∀ b ∈ [s1.heap.objs.size + 1, s1.heap.objs.size], FpOk X pins H1 b := fun b hb => by
      have e' : b = s1.heap.objs.size + 1 ∨ b = s1.heap.objs.size := by simpa using hb
      have hle : s1.heap.objs.size ≤ b := by
        rcases e' with z | z
        · rw [z]; exact Nat.le_add_right _ _
        · rw [z]; exact Nat.le_refl _
      exact I1.fpOk hle (I1.hok.fresh hle)
    rcases q with ⟨hq, q⟩ | ⟨hq, q⟩
    · obtain ⟨its, rv, p', hz⟩ := I1.list hq
      refine call_enumerate_list p'.isList fun h' he hit hsz hk => wpAny_pyIter_enum he ?_
      have I2 : Inv X pins σ H1 { s1 with heap := h' } := I1.kept (t' := s1.toks) hk
      exact ⟨s1.heap.objs.size + 1, [s1.heap.objs.size + 1, s1.heap.objs.size], _, _, H1, rfl, I2, turn_enum a (s1.heap.objs.size + 1) s1.heap.objs.size, ⟨⟨.none, he⟩, hit, Nat.succ_ne_self _⟩, fr, q⟩
    · obtain ⟨its, rv, p', hz⟩ := I1.tuple hq
      obtain ⟨o1, ho1, _⟩ := id p'
      have hlt := Heap.lt_size ho1
      refine call_enumerate_tuple (show s1.heap.IsTuple a its.toArray from p') fun h' he hit hsz hk => wpAny_pyIter_enum he ?_
      have I2 : Inv X pins σ H1 { s1 with heap := h' } := I1.kept (t' := s1.toks) hk
      exact ⟨s1.heap.objs.size + 1, [s1.heap.objs.size + 1, s1.heap.objs.size], _, _, H1, rfl, I2, turn_enumT a (s1.heap.objs.size + 1) s1.heap.objs.size (Nat.ne_of_lt (Nat.lt_succ_of_lt hlt)) (Nat.ne_of_lt hlt), ⟨⟨.none, he⟩, hit, Nat.succ_ne_self _⟩, fr, q⟩
/-- a tuple (true) or a list (false) -/
noncomputable def SqA (K : PySem.W.Frag) (k : Bool) (H : Hp) (a : Addr) (xs : List V) : Prop := if k = true then SqT K H a xs else SqL K H a xs
noncomputable def IsSA (k : Bool) (h : Heap) (a : Addr) (its : Array Value) : Prop := if k = true then h.IsTuple a its else h.IsList a its
noncomputable def IsIA (k : Bool) (h : Heap) (it a : Addr) (i : Nat) : Prop := if k = true then h.IsTupleIter it a i else h.IsListIter it a i
theorem IsIA.at {k : Bool} {h h' : Heap} {it a : Addr} {i : Nat} (x : IsIA k h it a i) (e : ∀ o, h.get? it = some o → h'.get? it = some o) : IsIA k h' it a i := by
  cases k with
  | true => exact Heap.IsTupleIter.at (show h.IsTupleIter it a i from x) e
  | false => exact Heap.IsListIter.at (show h.IsListIter it a i from x) e
theorem IsIA.obj {k : Bool} {h : Heap} {it a : Addr} {i : Nat} (x : IsIA k h it a i) : ∃ o, h.get? it = some o ∧ ∀ v, o.data ≠ .cell v := by
  cases k with
  | true => obtain ⟨o, e, _, d⟩ := (show h.IsTupleIter it a i from x); exact ⟨o, e, fun v q => by rw [d] at q; cases q⟩
  | false => obtain ⟨o, e, _, d⟩ := (show h.IsListIter it a i from x); exact ⟨o, e, fun v q => by rw [d] at q; cases q⟩
theorem draws_A {prog : Program} {w : World} {A : Around} (hh : A.handled = none) (k : Bool) (it t : Addr) (hne : t ≠ it) (items : Array Value) :
    Draws prog w A it [it, t] items.size (fun i v => items[i]? = some v) (fun i h => IsIA k h it t i ∧ IsSA k h t items) := by
  cases k with
  | true => exact Draws.tuple hh it t hne items
  | false => exact Draws.list hh it t hne items
theorem inv_A {X : Cx} {pins : List (Addr × Obj)} {σ : L2.St} {H : Hp} {s : Shared} {k : Bool} {a : Addr} {xs : List V} (I : Inv X pins σ H s) (h : SqA X.K k H a xs) : ∃ its : List Value, Vals xs its ∧ IsSA k s.heap a its.toArray := by
  cases k with
  | true => obtain ⟨its, rv, p, _⟩ := I.tuple (show SqT X.K H a xs from h); exact ⟨its, rv, p⟩
  | false => obtain ⟨its, rv, p, _⟩ := I.list (show SqL X.K H a xs from h); exact ⟨its, rv, p.isList⟩
theorem inj_A {X : Cx} {pins : List (Addr × Obj)} {σ : L2.St} {H : Hp} {s : Shared} {k : Bool} {a : Addr} {xs ys : List V} (I : Inv X pins σ H s) (h : SqA X.K k H a xs) (h' : SqA X.K k H a ys) : xs = ys := by
  cases k with
  | true => exact I.tuple_inj (show SqT X.K H a xs from h) h'
  | false => exact I.list_inj (show SqL X.K H a xs from h) h'
noncomputable def ItzM (K : PySem.W.Frag) (k1 k2 : Bool) (a b : Addr) : It :=
  ⟨fun i H => ∃ (xs ys : List V) (x y : V), SqA K k1 H a xs ∧ SqA K k2 H b ys ∧ xs[i]? = some x ∧ ys[i]? = some y,
    fun i H v H' => ∃ T x y, v = .ref T ∧ H T = none ∧ H' = upd H T (.tup [x, y]) ∧ (∀ xs, SqA K k1 H a xs → xs[i]? = some x) ∧ ∀ ys, SqA K k2 H b ys → ys[i]? = some y,
    fun i H => ∃ xs ys : List V, SqA K k1 H a xs ∧ SqA K k2 H b ys ∧ i ≤ xs.length ∧ i ≤ ys.length ∧ (i = xs.length ∨ i = ys.length)⟩
theorem sep_of {a b z TI TO i1 i2 : Addr} (D : ZipApart z TI TO i1 i2 a b) : ZipSep2 z TI TO i1 i2 [i1, a] [i2, b] where
  TIz := D.TIz
  TOz := D.TOz
  TITO := D.TITO
  TIi1 := D.TIi1
  mem1 := by simp
  zf1 := by simp [Ne.symm D.i1z, Ne.symm D.l1z]
  Tf1 := by simp [D.TOi1, Ne.symm D.l1TO]
  TIi2 := D.TIi2
  mem2 := by simp
  zf2 := by simp [Ne.symm D.i2z, Ne.symm D.l2z]
  Tf2 := by simp [D.TOi2, Ne.symm D.l2TO]
  sep1_2 := by simp [D.i12, Ne.symm D.l2i1]
  sep2_1 := by simp [Ne.symm D.i12, Ne.symm D.l1i2]
theorem turn_zipM {P : Program} {w : World} {K : PySem.W.Frag} {elts : List Expr} {kk : Nat} {tpos : Pos} {k1 k2 : Bool} {a b z TI TO i1 i2 : Addr} (D : ZipApart z TI TO i1 i2 a b) :
    Turn P w K (.Tuple elts kk tpos) (ItzM K k1 k2 a b) [z, TI, TO, i1, i2] z (fun i h => IsZip h z TI TO .none ∧ IsPair h TI (.ref i1) (.ref i2) ∧ (∃ x y, IsPair h TO x y) ∧ IsIA k1 h i1 a i ∧ IsIA k2 h i2 b i) where
  mem := by simp
  obj := fun i h st c hc => by
    obtain ⟨hz, hTI, ⟨x, y, hTO⟩, h1, h2⟩ := st
    have e' : c = z ∨ c = TI ∨ c = TO ∨ c = i1 ∨ c = i2 := by simpa using hc
    rcases e' with q | q | q | q | q
    · rw [q]; exact ⟨_, hz, fun v q => nomatch q⟩
    · rw [q]; exact ⟨_, hTI, fun v q => nomatch q⟩
    · rw [q]; exact ⟨_, hTO, fun v q => nomatch q⟩
    · rw [q]; exact h1.obj
    · rw [q]; exact h2.obj
  keep := fun i h h' st k => by
    obtain ⟨hz, hTI, ⟨x, y, hTO⟩, h1, h2⟩ := st
    exact ⟨k z (by simp) _ hz, k TI (by simp) _ hTI, ⟨x, y, k TO (by simp) _ hTO⟩, h1.at fun o q => k i1 (by simp) o q, h2.at fun o q => k i2 (by simp) o q⟩
  item := by
    intro X hP hw hK hc i pins s σ H E I hf st hg
    subst hP hw hK
    obtain ⟨hz, hTI, ⟨x0, y0, hTO⟩, h1, h2⟩ := st
    obtain ⟨xs, ys, x, y, hqx, hqy, hx, hy⟩ := hg
    obtain ⟨its, rv, p⟩ := inv_A I hqx
    obtain ⟨its2, rv2, p2⟩ := inv_A I hqy
    obtain ⟨u, hu, ru⟩ := rv.get hx
    obtain ⟨u2, hu2, ru2⟩ := rv2.get hy
    have hl1 : i < its.toArray.size := by simpa using (List.getElem?_eq_some_iff.mp hu).1
    have hl2 : i < its2.toArray.size := by simpa using (List.getElem?_eq_some_iff.mp hu2).1
    have hh : X.A.in1.handled = none := I.ok.hd hc
    have hzl : z < s.heap.objs.size := Heap.lt_size hz
    refine wpAny_pyNext_zipD2_item (sep_of D) (draws_A hh k1 i1 a D.l1i1 its.toArray) (draws_A hh k2 i2 b D.l2i2 its2.toArray) hz hTI hTO ⟨h1, p⟩ ⟨h2, p2⟩ hl1 hl2 fun v1 v2 h' tk e1 e2 z' TO' s1' s2' hT hsz hk => ?_
    have q1 : v1 = u := Option.some.inj (e1.symm.trans (by simpa using hu))
    have q2 : v2 = u2 := Option.some.inj (e2.symm.trans (by simpa using hu2))
    subst q1 q2
    refine ⟨_, rfl, wpAny_letOwnedTupleGo_zip (s := { s with heap := h', toks := tk }) z' fun h'' z'' sb => ?_⟩
    have hT2 : h''.get? s.heap.objs.size = some { cls := .type "tuple", data := .seq #[v1, v2] } := (sb.2 _ (Nat.ne_of_gt hzl)).trans hT
    have new : ObjOk X.prog X.w (upd H s.heap.objs.size (.tup [x, y])) h'' s.heap.objs.size (.tup [x, y]) :=
      ⟨by show 2 ≤ sizeLine; decide, [v1, v2], .cons ru (.cons ru2 .nil), ⟨_, hT2, rfl, _, rfl⟩⟩
    have I1 : Inv X pins σ (upd H s.heap.objs.size (.tup [x, y])) { s with heap := h'', toks := tk } :=
      I.turnedNew (t' := tk) (ch := [z, TI, TO, i1, i2]) (fun c o hb q => (sb.2 c (fun q' => hb (by simp [q']))).trans (hk c o (fun q' => hb (by simp [q'])) (fun q' => hb (by simp [q'])) (fun q' => hb (by simp [q'])) (fun q' => hb (by simp [q'])) q)) hf (Nat.le_refl _) new
    refine ⟨.ref s.heap.objs.size, _, I1, rfl, ⟨_, x, y, rfl, I.hok.fresh (Nat.le_refl _), rfl, fun l hl => by rw [inj_A I hl hqx]; exact hx, fun l hl => by rw [inj_A I hl hqy]; exact hy⟩, ⟨z'', ?_, ⟨v1, v2, ?_⟩, ?_, ?_⟩, fun c hcm => ?_⟩
    · exact (sb.2 _ D.TIz).trans (hk _ _ D.TIz D.TITO D.TIi1 D.TIi2 hTI)
    · exact (sb.2 _ D.TOz).trans TO'
    · exact s1'.1.at fun o q => (sb.2 _ D.i1z).trans q
    · exact s2'.1.at fun o q => (sb.2 _ D.i2z).trans q
    · have hlt : c < s.heap.objs.size := by
        have e' : c = z ∨ c = TI ∨ c = TO ∨ c = i1 ∨ c = i2 := by simpa using hcm
        rcases e' with q | q | q | q | q
        · rw [q]; exact hzl
        · rw [q]; exact Heap.lt_size hTI
        · rw [q]; exact Heap.lt_size hTO
        · rw [q]; obtain ⟨_, e1, _⟩ := h1.obj; exact Heap.lt_size e1
        · rw [q]; obtain ⟨_, e2, _⟩ := h2.obj; exact Heap.lt_size e2
      rw [upd_ne (Nat.ne_of_lt hlt)]
      exact (hf c hcm).1
  done := by
    intro X hP hw hK hc i pins s σ H E I hf st hg
    subst hP hw hK
    obtain ⟨hz, hTI, ⟨x0, y0, hTO⟩, h1, h2⟩ := st
    obtain ⟨xs, ys, hqx, hqy, hl1, hl2, hend⟩ := hg
    obtain ⟨its, rv, p⟩ := inv_A I hqx
    obtain ⟨its2, rv2, p2⟩ := inv_A I hqy
    have n1 := rv.length
    have n2 := rv2.length
    have hh : X.A.in1.handled = none := I.ok.hd hc
    exact wpAny_pyNext_zipD2_end (sep_of D) (draws_A hh k1 i1 a D.l1i1 its.toArray) (draws_A hh k2 i2 b D.l2i2 its2.toArray) hz hTI hTO ⟨h1, p⟩ ⟨h2, p2⟩ (by simp; omega) (by simp; omega) (by simp; omega) fun h' tk hk => ⟨rfl, I.turnedL (t' := tk) (ch := [z, TI, TO, i1, i2]) (fun c o hb q =>
      hk c o (fun q' => hb (by simp [q'])) (fun q' => hb (by simp [q'])) (fun q' => hb (by simp [q'])) (fun q' => hb (by simp [q'])) q) hf⟩
  self := fun A i s Q E st h => wpAny_pyIter_zip st.1 h
noncomputable def itC (k : Bool) : String := if k then "tuple_iterator" else "list_iterator"
noncomputable abbrev zmH1 (k1 : Bool) (h : Heap) (l1 : Addr) : Heap := h.push { cls := .type (itC k1), data := .fields #[.ref l1, .int 0 0] }
noncomputable abbrev zmH2 (k1 k2 : Bool) (h : Heap) (l1 l2 : Addr) : Heap := (zmH1 k1 h l1).push { cls := .type (itC k2), data := .fields #[.ref l2, .int 0 0] }
noncomputable abbrev zmH3 (k1 k2 : Bool) (h : Heap) (l1 l2 : Addr) : Heap := (zmH2 k1 k2 h l1 l2).push { cls := .type "tuple", data := .seq #[.ref h.objs.size, .ref (zmH1 k1 h l1).objs.size] }
noncomputable abbrev zmH4 (k1 k2 : Bool) (h : Heap) (l1 l2 : Addr) : Heap := (zmH3 k1 k2 h l1 l2).push { cls := .type "tuple", data := .seq #[.none, .none] }
noncomputable abbrev zmH5 (k1 k2 : Bool) (h : Heap) (l1 l2 : Addr) : Heap := (zmH4 k1 k2 h l1 l2).push { cls := .type "zip", data := .fields #[.none, .bool false, .bool false, .ref (zmH2 k1 k2 h l1 l2).objs.size, .ref (zmH3 k1 k2 h l1 l2).objs.size] }
noncomputable abbrev zmTLH1 (h : Heap) (l1 : Addr) : Heap := h.push { cls := .type "tuple_iterator", data := .fields #[.ref l1, .int 0 0] }
noncomputable abbrev zmTLH2 (h : Heap) (l1 l2 : Addr) : Heap := (zmTLH1 h l1).push { cls := .type "list_iterator", data := .fields #[.ref l2, .int 0 0] }
noncomputable abbrev zmTLH3 (h : Heap) (l1 l2 : Addr) : Heap := (zmTLH2 h l1 l2).push { cls := .type "tuple", data := .seq #[.ref h.objs.size, .ref (zmTLH1 h l1).objs.size] }
noncomputable abbrev zmTLH4 (h : Heap) (l1 l2 : Addr) : Heap := (zmTLH3 h l1 l2).push { cls := .type "tuple", data := .seq #[.none, .none] }
noncomputable abbrev zmTLH5 (h : Heap) (l1 l2 : Addr) : Heap := (zmTLH4 h l1 l2).push { cls := .type "zip", data := .fields #[.none, .bool false, .bool false, .ref (zmTLH2 h l1 l2).objs.size, .ref (zmTLH3 h l1 l2).objs.size] }
noncomputable abbrev zmLTH1 (h : Heap) (l1 : Addr) : Heap := h.push { cls := .type "list_iterator", data := .fields #[.ref l1, .int 0 0] }
noncomputable abbrev zmLTH2 (h : Heap) (l1 l2 : Addr) : Heap := (zmLTH1 h l1).push { cls := .type "tuple_iterator", data := .fields #[.ref l2, .int 0 0] }
noncomputable abbrev zmLTH3 (h : Heap) (l1 l2 : Addr) : Heap := (zmLTH2 h l1 l2).push { cls := .type "tuple", data := .seq #[.ref h.objs.size, .ref (zmLTH1 h l1).objs.size] }
noncomputable abbrev zmLTH4 (h : Heap) (l1 l2 : Addr) : Heap := (zmLTH3 h l1 l2).push { cls := .type "tuple", data := .seq #[.none, .none] }
noncomputable abbrev zmLTH5 (h : Heap) (l1 l2 : Addr) : Heap := (zmLTH4 h l1 l2).push { cls := .type "zip", data := .fields #[.none, .bool false, .bool false, .ref (zmLTH2 h l1 l2).objs.size, .ref (zmLTH3 h l1 l2).objs.size] }
set_option maxHeartbeats 1000000 in
theorem meets_zipTL_new (l1 l2 : Addr) (xs ys : Array Value) :
    Meets (Builtin.«zip.__new__» ⟨[.type "zip", .ref l1, .ref l2], []⟩) (fun _ R s => s.heap.IsTuple l1 xs ∧ s.heap.IsList l2 ys ∧
      R (.ok (.ret (.ref (zmTLH4 s.heap l1 l2).objs.size))) { s with heap := zmTLH5 s.heap l1 l2 }) :=
  .of_wp fun prog w A R s h => by
    obtain ⟨hp, g, d, tk, os⟩ := s; obtain ⟨hl1, hl2, h⟩ := h
    have hsub := sub_zip
    have hL1 : Heap.IsTuple (Shared.heap ⟨hp, g, d, tk, os⟩) l1 xs := hl1
    have hL2 : Heap.IsList (Shared.heap ⟨hp.push { cls := .type "tuple_iterator", data := .fields #[.ref l1, .int 0 0] }, g, d, tk, os⟩) l2 ys := Heap.IsList.push hl2 _
    wp_walk using wpAny_pyIter_tuple hL1, wpAny_pyIter_list hL2
    exact ⟨_, rfl, h⟩
set_option maxHeartbeats 1000000 in
theorem meets_zipLT_new (l1 l2 : Addr) (xs ys : Array Value) :
    Meets (Builtin.«zip.__new__» ⟨[.type "zip", .ref l1, .ref l2], []⟩) (fun _ R s => s.heap.IsList l1 xs ∧ s.heap.IsTuple l2 ys ∧
      R (.ok (.ret (.ref (zmLTH4 s.heap l1 l2).objs.size))) { s with heap := zmLTH5 s.heap l1 l2 }) :=
  .of_wp fun prog w A R s h => by
    obtain ⟨hp, g, d, tk, os⟩ := s; obtain ⟨hl1, hl2, h⟩ := h
    have hsub := sub_zip
    have hL1 : Heap.IsList (Shared.heap ⟨hp, g, d, tk, os⟩) l1 xs := hl1
    have hL2 : Heap.IsTuple (Shared.heap ⟨hp.push { cls := .type "list_iterator", data := .fields #[.ref l1, .int 0 0] }, g, d, tk, os⟩) l2 ys := Heap.IsTuple.push hl2 _
    wp_walk using wpAny_pyIter_list hL1, wpAny_pyIter_tuple hL2
    exact ⟨_, rfl, h⟩
theorem meets_zipM_new (k1 k2 : Bool) (l1 l2 : Addr) (xs ys : Array Value) :
    Meets (Builtin.«zip.__new__» ⟨[.type "zip", .ref l1, .ref l2], []⟩) (fun _ R s => IsSA k1 s.heap l1 xs ∧ IsSA k2 s.heap l2 ys ∧
      R (.ok (.ret (.ref (zmH4 k1 k2 s.heap l1 l2).objs.size))) { s with heap := zmH5 k1 k2 s.heap l1 l2 }) := by
  cases k1 <;> cases k2
  · exact meets_zip_new l1 l2 xs ys
  · exact meets_zipLT_new l1 l2 xs ys
  · exact meets_zipTL_new l1 l2 xs ys
  · exact RZ.meets_zipT_new l1 l2 xs ys
theorem call_zipM {prog : Program} {w : World} {A : Around} {E : Value → Shared → Prop} {s : Shared} {k1 k2 : Bool} {l1 l2 : Addr} {xs ys : Array Value} {Q : Value → Shared → Prop} (hl1 : IsSA k1 s.heap l1 xs) (hl2 : IsSA k2 s.heap l2 ys)
    (h : ∀ h', IsZip h' (s.heap.objs.size + 4) (s.heap.objs.size + 2) (s.heap.objs.size + 3) .none → IsPair h' (s.heap.objs.size + 2) (.ref s.heap.objs.size) (.ref (s.heap.objs.size + 1)) →
      IsPair h' (s.heap.objs.size + 3) .none .none → IsIA k1 h' s.heap.objs.size l1 0 → IsIA k2 h' (s.heap.objs.size + 1) l2 0 → h'.objs.size = s.heap.objs.size + 5 →
      (∀ c o, s.heap.get? c = some o → h'.get? c = some o) → Q (.ref (s.heap.objs.size + 4)) { s with heap := h' }) :
    wpAny (model prog w) A (call (.type "zip") [.ref l1, .ref l2]) Q E s := by
  refine callType_new F.called_zip (by decide) (F.typeCall_zip_2 _ _) (F.newCall_zip_2 _ _) (fun obj => F.args_object_init_3 obj _ _) F.entry_zip_new
    (meets_zipM_new k1 k2 l1 l2 xs ys) ⟨hl1, hl2, ?_⟩
  have z1 : (zmH1 k1 s.heap l1).objs.size = s.heap.objs.size + 1 := Heap.size_push ..
  have z2 : (zmH2 k1 k2 s.heap l1 l2).objs.size = s.heap.objs.size + 2 := by rw [Heap.size_push, z1]
  have z3 : (zmH3 k1 k2 s.heap l1 l2).objs.size = s.heap.objs.size + 3 := by rw [Heap.size_push, z2]
  have z4 : (zmH4 k1 k2 s.heap l1 l2).objs.size = s.heap.objs.size + 4 := by rw [Heap.size_push, z3]
  have z5 : (zmH5 k1 k2 s.heap l1 l2).objs.size = s.heap.objs.size + 5 := by rw [Heap.size_push, z4]
  have g5 : (zmH5 k1 k2 s.heap l1 l2).get? (zmH4 k1 k2 s.heap l1 l2).objs.size = some _ := Heap.get?_push_size _ rfl
  have g4 : (zmH5 k1 k2 s.heap l1 l2).get? (zmH3 k1 k2 s.heap l1 l2).objs.size = some _ := Heap.get?_push_of_some _ (Heap.get?_push_size _ rfl)
  have g3 : (zmH5 k1 k2 s.heap l1 l2).get? (zmH2 k1 k2 s.heap l1 l2).objs.size = some _ := Heap.get?_push_of_some _ (Heap.get?_push_of_some _ (Heap.get?_push_size _ rfl))
  have g2 : (zmH5 k1 k2 s.heap l1 l2).get? (zmH1 k1 s.heap l1).objs.size = some _ := Heap.get?_push_of_some _ (Heap.get?_push_of_some _ (Heap.get?_push_of_some _ (Heap.get?_push_size _ rfl)))
  have g1 : (zmH5 k1 k2 s.heap l1 l2).get? s.heap.objs.size = some _ := Heap.get?_push_of_some _ (Heap.get?_push_of_some _ (Heap.get?_push_of_some _ (Heap.get?_push_of_some _ (Heap.get?_push_size _ rfl))))
  show _ ∧ _
  rw [z2, z3, z4] at g5
  rw [z1, z2] at g3
  rw [z3] at g4
  rw [z1] at g2
  rw [z4]
  refine ⟨⟨_, g5, rfl⟩, h _ g5 g3 g4 ?_ ?_ z5 fun c o x =>
    Heap.get?_push_of_some _ (Heap.get?_push_of_some _ (Heap.get?_push_of_some _ (Heap.get?_push_of_some _ (Heap.get?_push_of_some _ x))))⟩
  · cases k1
    · exact ⟨_, g1, rfl, rfl⟩
    · exact ⟨_, g1, rfl, rfl⟩
  · cases k2
    · exact ⟨_, g2, rfl, rfl⟩
    · exact ⟨_, g2, rfl, rfl⟩
theorem IsSA.lt {k : Bool} {h : Heap} {a : Addr} {its : Array Value} (x : IsSA k h a its) : a < h.objs.size := by
  cases k with
  | true => obtain ⟨o, e, _⟩ := (show h.IsTuple a its from x); exact Heap.lt_size e
  | false => obtain ⟨o, e, _⟩ := (show h.IsList a its from x); exact Heap.lt_size e
noncomputable def iZipM (K : PySem.W.Frag) (ta : TA) : TI := fun σ H R => ta σ H fun vs H1 => ∃ a b k1 k2 xs ys, vs = [.ref a, .ref b] ∧ SqA K k1 H1 a xs ∧ SqA K k2 H1 b ys ∧ R (ItzM K k1 k2 a b) H1
theorem pi_zipM {X : Cx} {e e2 : Expr} {ta : TA} {p pos tpos : Pos} {elts : List Expr} {kk : Nat} (hg : Gl X "zip") (hm : X.mg "zip" = none) (ha : PA X [e, e2] ta)
    (hs : starEach [e, e2] X.env = (false, eval e X.env) :: starEach [e2] X.env := by rfl) (hpl : (backTo pos (starEach [e2] X.env)).any (·.1) = false := by rfl) :
    PI X (.Tuple elts kk tpos) (.Call (.Name "zip" p) [e, e2] [] pos) (iZipM X.K ta) := by
  refine ⟨fun pins s σ H R I h => ?_⟩
  refine Call_ (ld_blt I hg hm PyProof.Rows.boot_zip (PyProof.Rows.callWith_type1 (thn (ha.run pos pins s σ H _ I h) fun us s1 ⟨vs, H1, I1, r1, q1⟩ => ?_) hs hpl))
  obtain ⟨a, b, k1, k2, xs, ys, ex, hqx, hqy, q⟩ := q1
  subst ex
  cases r1 with
  | cons r rr =>
    cases rr with
    | cons r' rr =>
      cases rr
      cases r
      cases r'
      have fresh5 : ∀ c, c ∈ [s1.heap.objs.size + 4, s1.heap.objs.size + 2, s1.heap.objs.size + 3, s1.heap.objs.size, s1.heap.objs.size + 1] → FpOk X pins H1 c := fun c hcm => by
        have e' : c = s1.heap.objs.size + 4 ∨ c = s1.heap.objs.size + 2 ∨ c = s1.heap.objs.size + 3 ∨ c = s1.heap.objs.size ∨ c = s1.heap.objs.size + 1 := by simpa using hcm
        have hle : s1.heap.objs.size ≤ c := by
          rcases e' with z | z | z | z | z
          · rw [z]; exact Nat.le_add_right _ _
          · rw [z]; exact Nat.le_add_right _ _
          · rw [z]; exact Nat.le_add_right _ _
          · rw [z]; exact Nat.le_refl _
          · rw [z]; exact Nat.le_add_right _ _
        exact I1.fpOk hle (I1.hok.fresh hle)
      obtain ⟨its, rv, p1⟩ := inv_A I1 hqx
      obtain ⟨its2, rv2, p2⟩ := inv_A I1 hqy
      refine call_zipM p1 p2 fun h' hz hTI hTO h1 h2 hsz hk => wpAny_pyIter_zip hz ?_
      have I2 : Inv X pins σ H1 { s1 with heap := h' } := I1.kept (t' := s1.toks) hk
      exact ⟨s1.heap.objs.size + 4, [s1.heap.objs.size + 4, s1.heap.objs.size + 2, s1.heap.objs.size + 3, s1.heap.objs.size, s1.heap.objs.size + 1], _, _, H1, rfl, I2, turn_zipM (PySem.W.ktu_apart s1.heap.objs.size a b p1.lt p2.lt), ⟨hz, hTI, ⟨_, _, hTO⟩, h1, h2⟩, fresh5, q⟩
end DL
set_option maxHeartbeats 4000000
namespace DL
open PySem PySem.Spec PyProof.Rows L2
end DL
set_option maxHeartbeats 4000000
namespace DL
open PySem PySem.Spec PyProof.Rows L2
theorem zip_no_len : typeLookup (.type "zip") "__len__" = pure none := by rw [typeLookup_type, builtinLookup_eq_fast]; kernel_rfl
theorem zip_no_hint : typeLookup (.type "zip") "__length_hint__" = pure none := by rw [typeLookup_type, builtinLookup_eq_fast]; kernel_rfl
/-- a zip amid its turns, its pairs held -/
noncomputable def ZilSt (h : Heap) (z TI TO i1 i2 l1 l2 S : Addr) (i : Nat) (xs ys : Array Value) : Prop :=
  IsPair h TI (.ref i1) (.ref i2) ∧ h.IsListIter i1 l1 i ∧ h.IsListIter i2 l2 i ∧ h.IsList l1 xs ∧ h.IsList l2 ys ∧
    ((IsZip h z TI TO .none ∧ ∃ a b, IsPair h TO a b) ∨ ∃ T f oT, IsZipHeld h z TI TO T f ∧ h.get? T = some oT ∧ T ≠ z ∧ T ≠ i1 ∧ T ≠ i2 ∧ T ≠ S)
structure ZilOff (z TI TO i1 i2 l1 l2 S : Addr) : Prop where
  z : z ≠ S
  TI : TI ≠ S
  TO : TO ≠ S
  i1 : i1 ≠ S
  i2 : i2 ≠ S
  l1 : l1 ≠ S
  l2 : l2 ≠ S
section
variable {prog : Program} {w : World} {A : Around} {E : Value → Shared → Prop} {s : Shared} {z TI TO i1 i2 l1 l2 S : Addr} {i : Nat} {xs ys : Array Value}
theorem ZilSt.keep {h h' : Heap} (O : ZilOff z TI TO i1 i2 l1 l2 S) (st : ZilSt h z TI TO i1 i2 l1 l2 S i xs ys) (hk : ∀ b o, b ≠ S → h.get? b = some o → h'.get? b = some o) : ZilSt h' z TI TO i1 i2 l1 l2 S i xs ys := by
  obtain ⟨hTI, h1, h2, hl1, hl2, hz⟩ := st
  refine ⟨hk _ _ O.TI hTI, h1.at fun o e => hk _ o O.i1 e, h2.at fun o e => hk _ o O.i2 e, hl1.at fun o e => hk _ o O.l1 e, hl2.at fun o e => hk _ o O.l2 e, ?_⟩
  rcases hz with ⟨hz, a, b, hTO⟩ | ⟨T, f, oT, hz, hT, r1, r2, r3, r4⟩
  · exact .inl ⟨hk _ _ O.z hz, a, b, hk _ _ O.TO hTO⟩
  · exact .inr ⟨T, f, oT, hk _ _ O.z hz, hk _ _ r4 hT, r1, r2, r3, r4⟩
theorem zil_item {x y : Value} {Q : Option Value → Shared → Prop} (D : ZipApart z TI TO i1 i2 l1 l2) (st : ZilSt s.heap z TI TO i1 i2 l1 l2 S i xs ys) (hS : S < s.heap.objs.size) (hx : xs[i]? = some x) (hy : ys[i]? = some y)
    (hQ : ∀ h', ZilSt h' z TI TO i1 i2 l1 l2 S (i + 1) xs ys → IsPair h' s.heap.objs.size x y → h'.objs.size = s.heap.objs.size + 1 → (∀ c o, c ≠ z → c ≠ TO → c ≠ i1 → c ≠ i2 → s.heap.get? c = some o → h'.get? c = some o) → Q (some (.ref s.heap.objs.size)) { s with heap := h' }) :
    wpAny (model prog w) A (pyNext (.ref z)) Q E s := by
  obtain ⟨hTI, h1, h2, hl1, hl2, hz⟩ := st
  have lt : ∀ {c o}, s.heap.get? c = some o → s.heap.objs.size ≠ c := fun e => Nat.ne_of_gt (Heap.lt_size e)
  have n1 : s.heap.objs.size ≠ i1 := let ⟨_, e, _⟩ := h1; lt e
  have n2 : s.heap.objs.size ≠ i2 := let ⟨_, e, _⟩ := h2; lt e
  rcases hz with ⟨hz, a, b, hTO⟩ | ⟨T, f, oT, hz, hT, r1, r2, r3, r4⟩
  · refine wpAny_pyNext_zip_item D hz hTI hTO h1 h2 hl1 hl2 hx hy fun h' a1 a2 a3 a4 a5 a6 hk => ?_
    exact hQ h' ⟨hk _ _ D.TIz D.TITO D.TIi1 D.TIi2 hTI, a3, a4, hl1.at fun o e => hk _ o D.l1z D.l1TO D.l1i1 D.l1i2 e, hl2.at fun o e => hk _ o D.l2z D.l2TO D.l2i1 D.l2i2 e,
      .inr ⟨s.heap.objs.size, false, _, a1, a5, lt hz, n1, n2, Nat.ne_of_gt hS⟩⟩ a5 a6 hk
  · refine wpAny_pyNext_zip_item_held D hz hT hTI h1 h2 hl1 hl2 hx hy fun h' a1 a3 a4 a5 a6 hk => ?_
    exact hQ h' ⟨hk _ _ D.TIz D.TIi1 D.TIi2 hTI, a3, a4, hl1.at fun o e => hk _ o D.l1z D.l1i1 D.l1i2 e, hl2.at fun o e => hk _ o D.l2z D.l2i1 D.l2i2 e,
      .inr ⟨T, true, oT, a1, hk _ _ r1 r2 r3 hT, r1, r2, r3, r4⟩⟩ a5 a6 fun c o c1 _ c2 c3 e => hk c o c1 c2 c3 e
theorem zil_done {Q : Option Value → Shared → Prop} (hh : A.handled = none) (D : ZipApart z TI TO i1 i2 l1 l2) (st : ZilSt s.heap z TI TO i1 i2 l1 l2 S i xs ys) (hend : xs[i]? = none ∨ ys[i]? = none)
    (hQ : ∀ h', (∀ c o, c ≠ z → c ≠ TO → c ≠ i1 → c ≠ i2 → s.heap.get? c = some o → h'.get? c = some o) → Q none { s with heap := h' }) : wpAny (model prog w) A (pyNext (.ref z)) Q E s := by
  obtain ⟨hTI, h1, h2, hl1, hl2, hz⟩ := st
  rcases hz with ⟨hz, a, b, hTO⟩ | ⟨T, f, oT, hz, hT, r1, r2, r3, r4⟩
  · exact wpAny_pyNext_zip_end hh D hz hTI hTO h1 h2 hl1 hl2 hend fun h' hk => hQ h' hk
  · exact wpAny_pyNext_zip_end_held hh D hz hT hTI h1 h2 hl1 hl2 hend fun h' hk => hQ h' fun c o c1 _ c2 c3 e => hk c o c1 c2 c3 e
end
/-- the pairs that were laid -/
structure ZilG (xs ys : Array Value) (lo : Addr) (h : Heap) (as : List Addr) : Prop where
  rise : as.Pairwise (· < ·)
  above : ∀ a ∈ as, lo < a
  pairs : ∀ (j : Nat) (a : Addr), as[j]? = some a → ∃ x y, xs[j]? = some x ∧ ys[j]? = some y ∧ IsPair h a x y
theorem ZilG.there {xs ys : Array Value} {lo : Addr} {h : Heap} {as : List Addr} (g : ZilG xs ys lo h as) {a : Addr} (ha : a ∈ as) : a < h.objs.size := by
  obtain ⟨j, hj⟩ := List.mem_iff_getElem?.mp ha
  obtain ⟨_, _, _, _, e⟩ := g.pairs j a hj
  exact Heap.lt_size e
section
variable {prog : Program} {w : World} {A : Around} {E : Value → Shared → Prop} {s : Shared} {R : Result → Shared → Prop} {z TI TO i1 i2 l1 l2 S : Addr} {xs ys : Array Value}
theorem zil_loop (hh : A.handled = none) (D : ZipApart z TI TO i1 i2 l1 l2) (O : ZilOff z TI TO i1 i2 l1 l2 S) (hzS : z < S) (hTS : TO < S) (h1S : i1 < S) (h2S : i2 < S) (hn : min xs.size ys.size ≤ sizeLine) (res : Value) {h₁ : Heap}
    (hR : ∀ h' tk acc c as, (∀ b o, b ≠ S → b ≠ z → b ≠ TO → b ≠ i1 → b ≠ i2 → h₁.get? b = some o → h'.get? b = some o) → h'.get? S = some { cls := .type "list", dict := none, data := .seq acc c, slots := #[] } → as.length = min xs.size ys.size → ZilG xs ys S h' as →
      acc.toList = as.map Value.ref → R (.ok (.ret res)) { s with heap := h', toks := tk }) :
    ∀ (k i : Nat) (h : Heap) (tk c : Nat) (acc : Array Value) (as : List Addr), min xs.size ys.size - i = k → i ≤ min xs.size ys.size → ZilSt h z TI TO i1 i2 l1 l2 S i xs ys → (∀ b o, b ≠ S → b ≠ z → b ≠ TO → b ≠ i1 → b ≠ i2 → h₁.get? b = some o → h.get? b = some o) →
      h.get? S = some { cls := .type "list", dict := none, data := .seq acc c, slots := #[] } → acc.toList = as.map Value.ref → as.length = i → ZilG xs ys S h as →
      codeAny (model prog w) A (.builtin "list.extend.loop" ⟨[.ref S, .ref z, res], []⟩) R { s with heap := h, toks := tk } := by
  intro k
  induction k with
  | zero =>
    intro i h tk c acc as hk hi hst hkeep hS hacc hal hG
    have hin : i = min xs.size ys.size := by omega
    have hend : xs[i]? = none ∨ ys[i]? = none := by
      rcases Nat.le_total xs.size ys.size with q | q
      · exact .inl (Array.getElem?_eq_none (by omega))
      · exact .inr (Array.getElem?_eq_none (by omega))
    refine codeAny_builtin PySem.F.entry_extend_loop ?_
    rw [Around.under_plainId PySem.F.plain_extend_loop _]
    show wpAny _ A.in1 (pyNext (.ref z) >>= _) _ _ _
    refine wpAny_bind (zil_done (s := { s with heap := h, toks := tk }) (A := A.in1) hh D hst hend fun h' he => ?_)
    refine wpAny_pure (hR h' tk acc c as (fun b o h1 h2 h3 h4 h5 e => he b o h2 h3 h4 h5 (hkeep b o h1 h2 h3 h4 h5 e)) (he S _ (Ne.symm O.z) (Ne.symm O.TO) (Ne.symm O.i1) (Ne.symm O.i2) hS) (by omega) ⟨hG.rise, hG.above, fun j a hj => ?_⟩ hacc)
    obtain ⟨x, y, hx, hy, e3⟩ := hG.pairs j a hj
    have hb := hG.above a (List.mem_of_getElem? hj)
    exact ⟨x, y, hx, hy, he a _ (Nat.ne_of_gt (Nat.lt_trans hzS hb)) (Nat.ne_of_gt (Nat.lt_trans hTS hb)) (Nat.ne_of_gt (Nat.lt_trans h1S hb)) (Nat.ne_of_gt (Nat.lt_trans h2S hb)) e3⟩
  | succ k ih =>
    intro i h tk c acc as hk hi hst hkeep hS hacc hal hG
    have hix : i < xs.size := by omega
    have hiy : i < ys.size := by omega
    have ex := Array.getElem?_eq_getElem hix
    have ey := Array.getElem?_eq_getElem hiy
    have hsz : acc.size = i := by rw [← Array.length_toList, hacc, List.length_map, hal]
    refine codeAny_builtin PySem.F.entry_extend_loop ?_
    rw [Around.under_plainId PySem.F.plain_extend_loop _]
    show wpAny _ A.in1 (pyNext (.ref z) >>= _) _ _ _
    refine wpAny_bind (zil_item (s := { s with heap := h, toks := tk }) D hst (Heap.lt_size hS) ex ey fun h' hst' ht hz hkp => ?_)
    dsimp only at ht hz hkp ⊢
    have hS' := hkp S _ (Ne.symm O.z) (Ne.symm O.TO) (Ne.symm O.i1) (Ne.symm O.i2) hS
    have up : ∀ b o, b ≠ S → h'.get? b = some o → (h'.update S (Obj.mapSeq (·.push (Value.ref h.objs.size)))).get? b = some o := fun b o hb e => (Heap.get?_update_other _ _ (Ne.symm hb)).trans e
    have hSl : S < h.objs.size := Heap.lt_size hS
    show wpAny _ A.in1 (updateSeq S (·.push (Value.ref h.objs.size)) >>= _) _ _ _
    refine wpAny_bind ?_
    refine wpAny_updateSeq hS' rfl (wpAny_pure ⟨plainId_quiet PySem.F.plain_extend_loop _, ih (i + 1) _ tk _ (acc.push (Value.ref h.objs.size)) (as ++ [h.objs.size]) (by omega) (by omega) (hst'.keep O up)
      (fun b o h1 h2 h3 h4 h5 e => up b o h1 (hkp b o h2 h3 h4 h5 (hkeep b o h1 h2 h3 h4 h5 e))) (Heap.get?_update_self _ hS' rfl) (by rw [Array.toList_push, hacc, List.map_append]; rfl) (by rw [List.length_append, hal]; rfl) ⟨?_, ?_, ?_⟩⟩) (by rw [hsz]; omega) (by show (acc.push (Value.ref h.objs.size)).size ≤ sizeLine + 1; rw [Array.size_push, hsz]; omega)
    · refine List.pairwise_append.mpr ⟨hG.rise, List.pairwise_singleton _ _, fun a ha b hb => ?_⟩
      rw [List.mem_singleton.mp hb]
      exact hG.there ha
    · intro a ha
      rcases List.mem_append.mp ha with ha | ha
      · exact hG.above a ha
      · rw [List.mem_singleton.mp ha]; exact hSl
    · intro j b hj
      rcases Nat.lt_trichotomy j as.length with h1 | h1 | h1
      · rw [List.getElem?_append_left h1] at hj
        obtain ⟨x, y, hx, hy, e3⟩ := hG.pairs j b hj
        have hb := hG.above b (List.mem_of_getElem? hj)
        exact ⟨x, y, hx, hy, up b _ (Nat.ne_of_gt hb) (hkp b _ (Nat.ne_of_gt (Nat.lt_trans hzS hb)) (Nat.ne_of_gt (Nat.lt_trans hTS hb)) (Nat.ne_of_gt (Nat.lt_trans h1S hb)) (Nat.ne_of_gt (Nat.lt_trans h2S hb)) e3)⟩
      · subst h1
        have hb : h.objs.size = b := by simpa using hj
        subst hb
        exact ⟨_, _, by rw [hal]; exact ex, by rw [hal]; exact ey, up _ _ (Nat.ne_of_gt hSl) ht⟩
      · have hnone : (as ++ [h.objs.size])[j]? = none := List.getElem?_eq_none (by rw [List.length_append, List.length_singleton]; omega)
        rw [hnone] at hj; cases hj
end
/-- list(z), z a zip of two lists that no one has turned -/
theorem zil_call {prog : Program} {w : World} {A : Around} {E : Value → Shared → Prop} {s : Shared} {z TI TO i1 i2 l1 l2 : Addr} {xs ys : Array Value} {Q : Value → Shared → Prop} (hh : A.handled = none) (D : ZipApart z TI TO i1 i2 l1 l2)
    (hz : IsZip s.heap z TI TO .none) (hTI : IsPair s.heap TI (.ref i1) (.ref i2)) (hTO : ∃ a b, IsPair s.heap TO a b) (h1 : s.heap.IsListIter i1 l1 0) (h2 : s.heap.IsListIter i2 l2 0) (hl1 : s.heap.IsList l1 xs) (hl2 : s.heap.IsList l2 ys) (hn : min xs.size ys.size ≤ sizeLine)
    (hQ : ∀ h' tk acc c as, (∀ b o, b ≠ z → b ≠ TO → b ≠ i1 → b ≠ i2 → s.heap.get? b = some o → h'.get? b = some o) → h'.get? s.heap.objs.size = some { cls := .type "list", dict := none, data := .seq acc c, slots := #[] } → as.length = min xs.size ys.size → ZilG xs ys s.heap.objs.size h' as →
      acc.toList = as.map Value.ref → Q (.ref s.heap.objs.size) { s with heap := h', toks := tk }) :
    wpAny (model prog w) A (call (.type "list") [.ref z]) Q E s := by
  refine callType_codes (Q₁ := fun obj s₁ => obj = .ref s.heap.objs.size ∧ s₁ = { s with heap := s.heap.push { cls := .type "list", data := .seq #[] } }) PySem.F.called_list (PySem.F.typeCall_list_1 _) PySem.F.entry_list_init
    (code_list_new _ ⟨rfl, rfl⟩) fun obj s₁ h₁ => ?_
  obtain ⟨rfl, rfl⟩ := h₁
  have hS : (s.heap.push { cls := .type "list", data := .seq #[] }).get? s.heap.objs.size = some { cls := .type "list", data := .seq #[] } := Heap.get?_push_size _ rfl
  have zS := Heap.lt_size hz
  have TS := Heap.lt_size hTI
  have OS : TO < s.heap.objs.size := let ⟨_, _, e⟩ := hTO; Heap.lt_size e
  have S1 : i1 < s.heap.objs.size := let ⟨_, e, _⟩ := h1; Heap.lt_size e
  have S2 : i2 < s.heap.objs.size := let ⟨_, e, _⟩ := h2; Heap.lt_size e
  have L1 : l1 < s.heap.objs.size := let ⟨_, e, _⟩ := hl1; Heap.lt_size e
  have L2 : l2 < s.heap.objs.size := let ⟨_, e, _⟩ := hl2; Heap.lt_size e
  have O : ZilOff z TI TO i1 i2 l1 l2 s.heap.objs.size := ⟨Nat.ne_of_lt zS, Nat.ne_of_lt TS, Nat.ne_of_lt OS, Nat.ne_of_lt S1, Nat.ne_of_lt S2, Nat.ne_of_lt L1, Nat.ne_of_lt L2⟩
  refine ⟨⟨_, hS, rfl⟩, PySem.F.args_list_init_2 _ _, ?_⟩
  show wpAny _ A.in1.in1 (do let old ← Builtin.List.listItems (.ref s.heap.objs.size); Builtin.List.listUpdate (.ref s.heap.objs.size) (fun _ => #[]); letGo old.toList.reverse; Builtin.List.listExtendWith (.ref s.heap.objs.size) (.ref z) .none) _ _ _
  refine wpAny_bind ?_
  unfold Builtin.List.listItems
  refine wpAny_bind (wpAny_seqItems hS rfl (wpAny_pure ?_))
  show wpAny _ A.in1.in1 (updateSeq s.heap.objs.size (fun _ => #[]) >>= fun _ => letGo (#[] : Array Value).toList.reverse >>= fun _ => Builtin.List.listExtendWith (.ref s.heap.objs.size) (.ref z) .none) _ _ _
  refine wpAny_bind (wpAny_updateSeq hS rfl ?_)
  have hS2 := Heap.get?_update_self (Obj.mapSeq (fun _ => (#[] : Array Value))) hS rfl
  refine wpAny_bind (wpAny_letGo ?_)
  unfold Builtin.List.listExtendWith
  have up : ∀ (h : Heap) (f : Obj → Obj), (∀ b o, s.heap.get? b = some o → h.get? b = some o) → ∀ b o, s.heap.get? b = some o → (h.update s.heap.objs.size f).get? b = some o := fun h f q b o e =>
    (Heap.get?_update_other _ _ (Ne.symm (Nat.ne_of_lt (Heap.lt_size e)))).trans (q b o e)
  have k1 : ∀ b o, s.heap.get? b = some o → (s.heap.push { cls := .type "list", data := .seq #[] }).get? b = some o := fun b o e => Heap.get?_push_of_some _ e
  have k2 := up _ (Obj.mapSeq (fun _ => (#[] : Array Value))) k1
  refine wpAny_bind (wpAny_typeOf (T := "zip") ⟨_, k2 _ _ hz, rfl⟩ ?_)
  have q1 : Builtin.List.listSameRef (.ref s.heap.objs.size) (.ref z) = false := by simp [Builtin.List.listSameRef, Ne.symm O.z]
  have q2 : (Value.type "zip" == Value.type "list") = false := by decide
  have q3 : (Value.type "zip" == Value.type "tuple") = false := by decide
  simp only [q1, q2, q3, Bool.or_false, Bool.false_eq_true, if_false]
  refine wpAny_bind (wpAny_pyIter_zip (s := { s with heap := _ }) (k2 _ _ hz) ?_)
  refine wpAny_bind (wpAny_holding ?_)
  unfold Builtin.List.listLengthHint
  refine wpAny_bind (wpAny_specialOf (T := "zip") ⟨_, k2 _ _ hz, rfl⟩ zip_no_len ?_)
  show wpAny _ A.in1.in1 (specialOf (Value.ref z) (Str.ofString "__length_hint__") >>= _) _ _ _
  refine wpAny_bind (wpAny_specialOf (T := "zip") ⟨_, k2 _ _ hz, rfl⟩ zip_no_hint ?_)
  refine wpAny_pure ?_
  show wpAny _ A.in1.in1 (rule "list.extend.makes-room" >>= fun _ => Builtin.List.listTouch (.ref s.heap.objs.size) >>= fun _ =>
    again (.builtin "list.extend.loop" ⟨[.ref s.heap.objs.size, .ref z, .none], []⟩)) _ _ _
  refine wpAny_bind (wpAny_rule ?_)
  refine wpAny_bind ?_
  show wpAny _ A.in1.in1 (updateSeq s.heap.objs.size (·.push .none) >>= fun _ => updateSeq s.heap.objs.size (·.pop)) _ _ _
  refine wpAny_bind (wpAny_updateSeq hS2 rfl ?_)
  have hS3 := Heap.get?_update_self (Obj.mapSeq (·.push Value.none)) hS2 rfl
  refine wpAny_updateSeq (hz := by seq_fits) hS3 rfl ?_
  have hS4 := Heap.get?_update_self (Obj.mapSeq (·.pop)) hS3 rfl
  have k4 := up _ (Obj.mapSeq (·.pop)) (up _ (Obj.mapSeq (·.push Value.none)) k2)
  obtain ⟨ta, tb, hTO⟩ := hTO
  refine wpAny_pure ⟨plainId_quiet PySem.F.plain_extend_loop _, ?_⟩
  exact zil_loop (A := A.in1) (s := s) (h₁ := s.heap) (xs := xs) (ys := ys) hh D O zS OS S1 S2 hn .none (fun h' tk acc c as hk hS' hl hG hacc => ⟨rfl, hQ h' tk acc c as (fun b o b1 b2 b3 b4 e => hk b o (Nat.ne_of_lt (Heap.lt_size e)) b1 b2 b3 b4 e) hS' hl hG hacc⟩)
    (min xs.size ys.size) 0 _ _ _ #[] [] (Nat.sub_zero _) (Nat.zero_le _) ⟨k4 _ _ hTI, h1.at fun o e => k4 _ o e, h2.at fun o e => k4 _ o e, hl1.at fun o e => k4 _ o e, hl2.at fun o e => k4 _ o e, .inl ⟨k4 _ _ hz, ta, tb, k4 _ _ hTO⟩⟩
    (fun b o _ _ _ _ _ e => k4 b o e) hS4 rfl rfl ⟨List.Pairwise.nil, (fun _ ha => nomatch ha), fun j a hj => by simp at hj⟩
/-- pairs laid one behind the other -/
noncomputable def growT : List (V × V) → Hp → (List V → Hp → Prop) → Prop
  | [], H, Q => Q [] H
  | p :: r, H, Q => ∀ q, H q = none → growT r (upd H q (.tup [p.1, p.2])) fun vs H' => Q (.ref q :: vs) H'
theorem grow_take {X : Cx} {pins : List (Addr × Obj)} {σ : L2.St} {s' : Shared} {sz : Nat} (base : ∀ b, sz ≤ b → ∀ H' : Hp, H' b = none → FpOk X pins H' b) :
    ∀ (ps : List (V × V)) (as : List Addr) (H : Hp) (Q : List V → Hp → Prop), Inv X pins σ H s' → as.length = ps.length → as.Pairwise (· < ·) → (∀ a ∈ as, sz ≤ a ∧ H a = none) →
      (∀ (j : Nat) (a : Addr) (p : V × V), as[j]? = some a → ps[j]? = some p → ∃ v w, RelV p.1 v ∧ RelV p.2 w ∧ IsPair s'.heap a v w) → growT ps H Q → ∃ H2, Inv X pins σ H2 s' ∧ Q (as.map V.ref) H2 ∧ ∀ b, b ∉ as → H2 b = H b
  | [], [], H, Q, I, _, _, _, _, h => ⟨H, I, h, fun _ _ => rfl⟩
  | [], _ :: _, _, _, _, hl, _, _, _, _ => by simp at hl
  | _ :: _, [], _, _, _, hl, _, _, _, _ => by simp at hl
  | p :: ps, a :: as, H, Q, I, hl, hp, ha, hpr, h => by
    obtain ⟨v, w, rv, rw', ip⟩ := hpr 0 a p rfl rfl
    obtain ⟨a1, a2⟩ := ha a (List.mem_cons_self ..)
    have I2 : Inv X pins σ (upd H a (.tup [p.1, p.2])) s' := I.take (t' := s'.toks) (h' := s'.heap) (fun b o _ e => e) (base a a1 H a2) ⟨by show 2 ≤ sizeLine; decide, [v, w], .cons rv (.cons rw' .nil), ⟨_, ip, rfl, _, rfl⟩⟩
    rw [List.pairwise_cons] at hp
    obtain ⟨H2, J, q, hk⟩ := grow_take base ps as _ _ I2 (by simpa using hl) hp.2 (fun b hb => ⟨(ha b (List.mem_cons_of_mem _ hb)).1, by rw [upd_ne (Nat.ne_of_gt (hp.1 b hb))]; exact (ha b (List.mem_cons_of_mem _ hb)).2⟩) (fun j b r hj hr => hpr (j + 1) b r (by simpa using hj) (by simpa using hr)) (h a a2)
    exact ⟨H2, J, q, fun b hb => by
      rw [hk b fun z => hb (List.mem_cons_of_mem _ z), upd_ne fun z => hb (by rw [z]; exact List.mem_cons_self ..)]⟩
theorem vals_refs : ∀ as : List Addr, Vals (as.map V.ref) (as.map Value.ref)
  | [] => .nil
  | _ :: as => .cons rfl (vals_refs as)
noncomputable def tListZip (K : PySem.W.Frag) (ta : TA) : TE := fun σ H Q => ta σ H fun vs H1 => ∃ a b xs ys, vs = [.ref a, .ref b] ∧ SqA K false H1 a xs ∧ SqA K false H1 b ys ∧ (xs.zip ys).length ≤ sizeLine ∧ growT (xs.zip ys) H1 fun us H2 => ∀ q, H2 q = none → Q (.ref q) (upd H2 q (.lst us))
theorem pe_listZip {X : Cx} {e e2 : Expr} {ta : TA} {p pos p2 pos2 : Pos} (hc : X.calm = true) (hg : Gl X "list") (hm : X.mg "list" = none) (hgz : Gl X "zip") (hmz : X.mg "zip" = none) (ha : PA X [e, e2] ta)
    (hs : starEach [e, e2] X.env = (false, eval e X.env) :: starEach [e2] X.env := by rfl) (hpl : (backTo pos2 (starEach [e2] X.env)).any (·.1) = false := by rfl)
    (na : starEach [.Call (.Name "zip" p2) [e, e2] [] pos2] X.env = (false, eval (.Call (.Name "zip" p2) [e, e2] [] pos2) X.env) :: starEach [] X.env := by rfl) :
    PE X (.Call (.Name "list" p) [.Call (.Name "zip" p2) [e, e2] [] pos2] [] pos) (tListZip X.K ta) := by
  refine ⟨fun pins s σ H Q I h => ?_⟩
  have inner : wpAny (model X.prog X.w) X.A (eval (.Call (.Name "zip" p2) [e, e2] [] pos2) X.env) (fun x s' => ∃ (s1 : Shared) (h' : Heap) (H1 : Hp) (a b : Addr) (xs ys : List V) (its its2 : List Value), x = .ref (s1.heap.objs.size + 4) ∧ s' = { s1 with heap := h' } ∧ Inv X pins σ H1 s1 ∧ Vals xs its ∧ Vals ys its2 ∧
      s1.heap.IsList a its.toArray ∧ s1.heap.IsList b its2.toArray ∧ IsZip h' (s1.heap.objs.size + 4) (s1.heap.objs.size + 2) (s1.heap.objs.size + 3) .none ∧ IsPair h' (s1.heap.objs.size + 2) (.ref s1.heap.objs.size) (.ref (s1.heap.objs.size + 1)) ∧
      IsPair h' (s1.heap.objs.size + 3) .none .none ∧ h'.IsListIter s1.heap.objs.size a 0 ∧ h'.IsListIter (s1.heap.objs.size + 1) b 0 ∧ h'.objs.size = s1.heap.objs.size + 5 ∧ (∀ c o, s1.heap.get? c = some o → h'.get? c = some o) ∧
      (xs.zip ys).length ≤ sizeLine ∧ growT (xs.zip ys) H1 fun us H2 => ∀ q, H2 q = none → Q (.ref q) (upd H2 q (.lst us))) X.xe s := by
    refine Call_ (ld_blt I hgz hmz PyProof.Rows.boot_zip (PyProof.Rows.callWith_type1 (thn (ha.run pos2 pins s σ H _ I h) fun us s1 ⟨vs, H1, I1, r1, q1⟩ => ?_) hs hpl))
    obtain ⟨a, b, xs, ys, ex, hqx, hqy, hl, q⟩ := q1
    subst ex
    cases r1 with
    | cons r rr =>
      cases rr with
      | cons r' rr =>
        cases rr
        cases r
        cases r'
        obtain ⟨its, rv, p1⟩ := inv_A I1 hqx
        obtain ⟨its2, rv2, p2⟩ := inv_A I1 hqy
        exact call_zipM p1 p2 fun h' hz hTI hTO h1 h2 hsz hk => ⟨s1, h', H1, a, b, xs, ys, its, its2, rfl, rfl, I1, rv, rv2, p1, p2, hz, hTI, hTO, h1, h2, hsz, hk, hl, q⟩
  refine Call_ (ld_blt I hg hm boot_list (PyProof.Rows.callWith_type1 (args_cons (thn inner fun x s2 hx => args_nil ?_) na) na))
  obtain ⟨s1, h', H1, a, b, xs, ys, its, its2, rfl, rfl, I1, rv, rv2, p1, p2, hz, hTI, hTO, h1, h2, hsz, hk, hl, q⟩ := hx
  have n1 := rv.length
  have n2 := rv2.length
  have I2 : Inv X pins σ H1 { s1 with heap := h' } := I1.kept (t' := s1.toks) hk
  have la : a < s1.heap.objs.size := let ⟨_, e, _⟩ := p1; Heap.lt_size e
  have lb : b < s1.heap.objs.size := let ⟨_, e, _⟩ := p2; Heap.lt_size e
  have base : ∀ c, s1.heap.objs.size ≤ c → ∀ H' : Hp, H' c = none → FpOk X pins H' c := fun c hc' H' hn => I1.fpOk hc' hn
  have mn : min its.toArray.size its2.toArray.size = (xs.zip ys).length := by rw [List.length_zip, List.size_toArray, List.size_toArray]; omega
  refine zil_call (s := { s1 with heap := h' }) (xs := its.toArray) (ys := its2.toArray) (I1.ok.hd hc) (PySem.W.ktu_apart s1.heap.objs.size a b la lb) hz hTI ⟨_, _, hTO⟩ h1 h2 (p1.at fun o e => hk _ o e) (p2.at fun o e => hk _ o e) (by rw [mn]; exact hl) fun h3 tk acc c as hk3 hS hal hG hacc => ?_
  dsimp only at hS hG hk3 ⊢
  rw [hsz] at hS hG ⊢
  have I3 : Inv X pins σ H1 { s1 with heap := h3, toks := tk } := Inv.turnedL (s := { s1 with heap := h' }) (h' := h3) (t' := tk) I2 (ch := [s1.heap.objs.size + 4, s1.heap.objs.size + 3, s1.heap.objs.size, s1.heap.objs.size + 1]) (fun d o hb e => hk3 d o (fun z => hb (by simp [z])) (fun z => hb (by simp [z])) (fun z => hb (by simp [z])) (fun z => hb (by simp [z])) e) (fun d hd => by
    have e' : d = s1.heap.objs.size + 4 ∨ d = s1.heap.objs.size + 3 ∨ d = s1.heap.objs.size ∨ d = s1.heap.objs.size + 1 := by simpa using hd
    have hle : s1.heap.objs.size ≤ d := by
      rcases e' with z | z | z | z
      · rw [z]; exact Nat.le_add_right _ _
      · rw [z]; exact Nat.le_add_right _ _
      · rw [z]; exact Nat.le_refl _
      · rw [z]; exact Nat.le_add_right _ _
    exact I1.fpOk hle (I1.hok.fresh hle))
  obtain ⟨H2, J, q2, hkH⟩ := grow_take base (xs.zip ys) as H1 _ I3 (by rw [hal, mn]) hG.rise (fun d hd => by
      have := hG.above d hd
      exact ⟨Nat.le_of_lt (Nat.lt_of_le_of_lt (Nat.le_add_right _ _) this), I1.hok.fresh (Nat.le_of_lt (Nat.lt_of_le_of_lt (Nat.le_add_right _ _) this))⟩) (fun j d r hj hr => by
      obtain ⟨x, y, hx, hy, ip⟩ := hG.pairs j d hj
      rw [List.getElem?_zip_eq_some] at hr
      obtain ⟨w1, hw1, rw1⟩ := rv.get hr.1
      obtain ⟨w2, hw2, rw2⟩ := rv2.get hr.2
      have q1 : w1 = x := Option.some.inj (hw1.symm.trans (by simpa using hx))
      have q2 : w2 = y := Option.some.inj (hw2.symm.trans (by simpa using hy))
      subst q1 q2
      exact ⟨_, _, rw1, rw2, ip⟩) q
  have hSn : s1.heap.objs.size + 5 ∉ as := fun z => Nat.lt_irrefl _ (hG.above _ z)
  have hS0 : H2 (s1.heap.objs.size + 5) = none := by rw [hkH _ hSn]; exact I1.hok.fresh (Nat.le_add_right _ _)
  refine ⟨.ref (s1.heap.objs.size + 5), upd H2 (s1.heap.objs.size + 5) (.lst (as.map V.ref)), J.take (t' := tk) (fun _ _ _ e => e) (base _ (Nat.le_add_right _ _) H2 hS0) ⟨?_, as.map Value.ref, c, vals_refs as, ?_⟩, rfl, q2 _ hS0⟩
  · rw [List.length_map, hal, mn]; exact hl
  · rw [← hacc, Array.toArray_toList]; exact hS
end DL
namespace DL
open PySem PySem.Spec PyProof.Rows L2 PyProof
end DL
namespace DL
open PySem PySem.Spec PyProof.Rows L2 PyProof
end DL
set_option maxHeartbeats 4000000
namespace DL
open PySem PySem.Spec PyProof.Rows L2 RT
end DL
namespace DL
open PySem PySem.Spec PyProof.Rows L2
section
variable {X : Cx} {K : PySem.W.Frag} {η μ : List Addr} {S : DStore} {H : Hp} {tg : Expr}
theorem it_end {pins : List (Addr × Obj)} {σ : L2.St} {H1 : Hp} {s1 : Shared} (I1 : Inv X pins σ H1 s1) : ∀ b ∈ [s1.heap.objs.size], FpOk X pins H1 b := by
  intro b hb
  rw [List.mem_singleton.mp hb]
  exact I1.fpOk (Nat.le_refl _) (I1.hok.fresh (Nat.le_refl _))
theorem it_lst {pins : List (Addr × Obj)} {σ : L2.St} {H1 : Hp} {s1 : Shared} {R : It → Hp → Prop} {E : Value → Shared → Prop} {a : Addr} {xs : List V} (I1 : Inv X pins σ H1 s1) (hq : SqL X.K H1 a xs) (q : R (Itl X.K a) H1) :
    wpAny (model X.prog X.w) X.A (pyIter (.ref a)) (PIE X pins σ tg R) E s1 := by
  obtain ⟨its, rv, p, hz⟩ := I1.list hq
  refine wpAny_pyIter_list p.isList ⟨_, [s1.heap.objs.size], _, _, H1, rfl, ?_, turn_list a _, ?_, it_end I1, q⟩
  · exact I1.kept (t' := s1.toks) fun _ _ e => Heap.get?_push_of_some _ e
  · exact ⟨_, Heap.get?_push_size _ rfl, rfl, rfl⟩
theorem it_tup {pins : List (Addr × Obj)} {σ : L2.St} {H1 : Hp} {s1 : Shared} {R : It → Hp → Prop} {E : Value → Shared → Prop} {a : Addr} {xs : List V} (I1 : Inv X pins σ H1 s1) (hq : SqT X.K H1 a xs) (q : R (Itt X.K a) H1) :
    wpAny (model X.prog X.w) X.A (pyIter (.ref a)) (PIE X pins σ tg R) E s1 := by
  obtain ⟨its, rv, p, hz⟩ := I1.tuple hq
  refine wpAny_pyIter_tuple (show s1.heap.IsTuple a its.toArray from p) ⟨_, [s1.heap.objs.size], _, _, H1, rfl, ?_, turn_tuple a _, ?_, it_end I1, q⟩
  · exact I1.kept (t' := s1.toks) fun _ _ e => Heap.get?_push_of_some _ e
  · exact ⟨_, Heap.get?_push_size _ rfl, rfl, rfl⟩
/-- over a list or a tuple -/
theorem pi_seq {l : Expr} {tl : TE} (hl : PE X l tl) : PI X tg l (fun σ H R => tl σ H fun x H1 => ∃ a xs, x = .ref a ∧ ((SqL X.K H1 a xs ∧ R (Itl X.K a) H1) ∨ (SqT X.K H1 a xs ∧ R (Itt X.K a) H1))) := by
  constructor
  intro pins s σ H R I h
  refine thn (hl.run pins s σ H _ I h) fun v s1 out => ?_
  obtain ⟨x, H1, I1, r1, a, xs, rfl, hq⟩ := out
  cases r1
  rcases hq with ⟨h1, q⟩ | ⟨h1, q⟩
  · exact it_lst I1 h1 q
  · exact it_tup I1 h1 q
theorem jok_list {a : Addr} {items : List D} {I : DStore → Prop} (h : ∀ η' μ' S' H', Ext η μ H η' μ' H' → Rp K η' μ' S' H' → I S' → ∃ vs, SqL K H' a vs ∧ RVs K H' η' μ' items vs) : JOk K η μ H (Itl K a) items I := by
  intro i η' μ' S' H' e r g
  obtain ⟨vs, hs, q⟩ := h η' μ' S' H' e r g
  refine ⟨fun hi => ?_, fun hi _ => ⟨vs, hs, by rw [← q.length]; exact hi⟩⟩
  obtain ⟨v, hv, rv⟩ := q.get (List.getElem?_eq_getElem hi)
  refine ⟨⟨vs, v, hs, hv⟩, fun x H'' hy => ?_⟩
  obtain ⟨rfl, f⟩ := hy
  have : x = v := Option.some.inj ((f vs hs).symm.trans hv)
  subst this
  exact ⟨.refl, r, _, List.getElem?_eq_getElem hi, rv⟩
theorem jok_tup {a : Addr} {items : List D} {I : DStore → Prop} (h : ∀ η' μ' S' H', Ext η μ H η' μ' H' → Rp K η' μ' S' H' → I S' → ∃ vs, SqT K H' a vs ∧ RVs K H' η' μ' items vs) : JOk K η μ H (Itt K a) items I := by
  intro i η' μ' S' H' e r g
  obtain ⟨vs, hs, q⟩ := h η' μ' S' H' e r g
  refine ⟨fun hi => ?_, fun hi _ => ⟨vs, hs, by rw [← q.length]; exact hi⟩⟩
  obtain ⟨v, hv, rv⟩ := q.get (List.getElem?_eq_getElem hi)
  refine ⟨⟨vs, v, hs, hv⟩, fun x H'' hy => ?_⟩
  obtain ⟨rfl, f⟩ := hy
  have : x = v := Option.some.inj ((f vs hs).symm.trans hv)
  subst this
  exact ⟨.refl, r, _, List.getElem?_eq_getElem hi, rv⟩
theorem jok_keys {d : Addr} {o : Obj} {kvs : List (List L2.Key × D)} {vs : List (List L2.Key × V)} (h : H d = some (.frz o (.dT vs))) (q : RKs K H η μ kvs vs) : JOk K η μ H (Itkt d o vs) (kvs.map fun p => D.tup (p.1.map keyD)) (fun _ => True) := by
  intro i η' μ' S' H' e r _
  have hd := e.frz _ _ _ h
  have hl := q.length
  refine ⟨fun hi => ?_, fun h1 h2 => ?_⟩
  · rw [List.length_map] at hi
    refine ⟨⟨hd, by omega⟩, fun x H'' hy => ?_⟩
    obtain ⟨rfl, k, v, p, h1, rfl, h3⟩ := hy
    refine ⟨.refl, r, D.tup (k.map keyD), ?_, .tup (.inl (.inl h3)) (keyD_rv k)⟩
    have hk := congrArg (fun l => l[i]?) q.keys
    simp only [List.getElem?_map, h1, Option.map_some, Option.map_eq_some_iff] at hk
    obtain ⟨⟨k', d'⟩, h4, h5⟩ := hk
    simp only at h5
    subst h5
    rw [List.getElem?_map, h4]; rfl
  · rw [List.length_map] at h1
    exact ⟨hd, by omega⟩
theorem jok_skeys {d : Addr} {o : Obj} {xs : List (K3 × Addr)} (h : H d = some (.frz o (StD d xs))) (q : Ks3 K H xs) : JOk K η μ H (Itk3 d o xs) ((xs.map (·.1)).map k3D) (fun _ => True) := by
  intro i η' μ' S' H' e r _
  have hd := e.frz _ _ _ h
  refine ⟨fun hi => ?_, fun h1 h2 => ?_⟩
  · rw [List.length_map, List.length_map] at hi
    refine ⟨⟨hd, hi⟩, fun x H'' hy => ?_⟩
    obtain ⟨rfl, k, p, h1, rfl⟩ := hy
    refine ⟨.refl, r, k3D k, by rw [List.map_map, List.getElem?_map, h1]; rfl, ?_⟩
    exact .tup (SqT.ext e (q _ (List.mem_of_getElem? h1))) (.cons (.int _) (.cons (.bl _) (.cons (.int _) .nil)))
  · rw [List.length_map, List.length_map] at h1
    exact ⟨hd, h1⟩
theorem jok_items {d : Addr} {o : Obj} {kvs : List (List L2.Key × D)} {vs : List (List L2.Key × V)} (h : H d = some (.frz o (.dT vs))) (q : RKs K H η μ kvs vs) : JOk K η μ H (Itit d o vs) (kvs.map fun p => D.tup [D.tup (p.1.map keyD), p.2]) (fun _ => True) := by
  intro i η' μ' S' H' e r _
  have hd := e.frz _ _ _ h
  have hl := q.length
  refine ⟨fun hi => ?_, fun h1 h2 => ?_⟩
  · rw [List.length_map] at hi
    refine ⟨⟨hd, by omega⟩, fun x H'' hy => ?_⟩
    obtain ⟨T, k, v, p, h1, h3, rfl, hT, rfl⟩ := hy
    have g := grow_new (o := .tup [.ref p, v]) r hT
    obtain ⟨dv, h4, rv⟩ := (q.ext e).get h1
    refine ⟨g, rp_new r hT, D.tup [D.tup (k.map keyD), dv], ?_, ?_⟩
    · rw [List.getElem?_map, h4]; rfl
    · exact .tup (.inl (.inl upd_same)) (.cons (.tup (.inl (.inl (g.tup _ _ h3))) (keyD_rv k)) (.cons (rv.ext g.ext) .nil))
  · rw [List.length_map] at h1
    exact ⟨hd, by omega⟩
theorem jok_range {lo hi : Int} {n : Nat} (hn : n = (hi - lo).toNat) : JOk K η μ H (Itr lo n) (rangeD lo hi) (fun _ => True) := by
  intro i η' μ' S' H' e r g
  have hl : (rangeD lo hi).length = n := by simp [rangeD, hn]
  refine ⟨fun h => ⟨by show i < n; omega, fun x H'' hy => ?_⟩, fun h _ => by show n ≤ i; omega⟩
  obtain ⟨rfl, rfl⟩ := hy
  refine ⟨.refl, r, _, ?_, .int _⟩
  unfold rangeD
  rw [List.getElem?_map, List.getElem?_range (by omega)]
  rfl
theorem seq_it (r : Rp K η μ S H) {d : D} {v : V} {R : RI} {RJ : It → Hp → Prop} (rv : RV K H η μ d v) (h : itD S d R) (hJ : ∀ J items I, R items I S → JOk K η μ H J items I → RJ J H) :
    ∃ a xs, v = .ref a ∧ ((SqL K H a xs ∧ RJ (Itl K a) H) ∨ (SqT K H a xs ∧ RJ (Itt K a) H)) := by
  cases rv with
  | tup h1 q1 => exact ⟨_, _, rfl, .inr ⟨h1, hJ _ _ _ h (jok_tup fun η' μ' S' H' e _ _ => ⟨_, SqT.ext e h1, q1.ext e⟩)⟩⟩
  | ptup h1 h2 q1 => exact ⟨_, _, rfl, .inr ⟨.inl (.inr ⟨_, h1⟩), hJ _ _ _ h (jok_tup fun η' μ' S' H' e _ _ => ⟨_, SqT.ext e (.inl (.inr ⟨_, h1⟩)), q1.ext e⟩)⟩⟩
  | @lst a xs ds hm hn h1 q1 => exact ⟨_, _, rfl, .inl ⟨.inl (.inl h1), hJ _ _ _ h (jok_list fun η' μ' S' H' e _ _ => ⟨_, .inl (.inl (e.keep _ _ nt_lst h1 hm hn).1), q1.ext e⟩)⟩⟩
  | scr h1 q1 =>
    have hs : ∀ {η' μ' H'}, Ext η μ H η' μ' H' → SqL K H' _ _ := fun e => h1.elim (fun ⟨o, z⟩ => .inl (.inr ⟨o, e.frz _ _ _ z⟩)) fun z => z _
    exact ⟨_, _, rfl, .inl ⟨hs (Ext.refl (η := η) (μ := μ)), hJ _ _ _ h (jok_list fun η' μ' S' H' e _ _ => ⟨_, hs e, q1.ext e⟩)⟩⟩
  | @ref n a h1 =>
    obtain ⟨xs, e1, h⟩ := h
    obtain ⟨b, hb, vs, e2, q2⟩ := r.cell n _ e1
    rw [h1] at hb; cases hb
    refine ⟨_, _, rfl, .inl ⟨.inl (.inl e2), hJ _ _ _ h (jok_list fun η' μ' S' H' e r' g => ?_)⟩⟩
    obtain ⟨c, hc, ws, e3, q3⟩ := r'.cell n _ g
    obtain ⟨m, rfl⟩ := e.pre
    rw [List.getElem?_append_left (List.getElem?_eq_some_iff.mp h1).1, h1] at hc
    cases hc
    exact ⟨ws, .inl (.inl e3), q3⟩
  | _ => exact h.elim
theorem zip_get {xs ys : List D} {i : Nat} {x y : D} (hx : xs[i]? = some x) (hy : ys[i]? = some y) : (zipD xs ys)[i]? = some (.tup [x, y]) := by
  have : (xs.zip ys)[i]? = some (x, y) := List.getElem?_zip_eq_some.mpr ⟨hx, hy⟩
  simp only [zipD, List.getElem?_map, this, Option.map_some]
theorem zip_len {xs ys : List D} : (zipD xs ys).length = min xs.length ys.length := by simp [zipD]
theorem enum_get {xs : List D} {i : Nat} {x : D} (hx : xs[i]? = some x) : (enumD xs)[i]? = some (.tup [.int i, x]) := by
  simp [enumD, List.getElem?_map, List.getElem?_zipIdx, hx]
theorem enum_len {xs : List D} : (enumD xs).length = xs.length := by simp [enumD]
theorem jok_zipM {k1 k2 : Bool} {a b : Addr} {xs ys : List D} {I : DStore → Prop} (h : ∀ η' μ' S' H', Ext η μ H η' μ' H' → Rp K η' μ' S' H' → I S' → ∃ vs ws, SqA K k1 H' a vs ∧ SqA K k2 H' b ws ∧ RVs K H' η' μ' xs vs ∧ RVs K H' η' μ' ys ws) : JOk K η μ H (ItzM K k1 k2 a b) (zipD xs ys) I := by
  intro i η' μ' S' H' e r g
  obtain ⟨vs, ws, h1, h2, q1, q2⟩ := h η' μ' S' H' e r g
  have l1 := q1.length
  have l2 := q2.length
  rw [zip_len]
  refine ⟨fun hi => ?_, fun hi hi' => ⟨vs, ws, h1, h2, by omega, by omega, by omega⟩⟩
  have hix : i < xs.length := by omega
  have hiy : i < ys.length := by omega
  obtain ⟨v, hv, rv⟩ := q1.get (List.getElem?_eq_getElem hix)
  obtain ⟨w, hw, rw'⟩ := q2.get (List.getElem?_eq_getElem hiy)
  refine ⟨⟨vs, ws, v, w, h1, h2, hv, hw⟩, fun x H'' hy => ?_⟩
  obtain ⟨T, v2, w2, rfl, hT, rfl, f1, f2⟩ := hy
  have e1 : v2 = v := Option.some.inj ((f1 vs h1).symm.trans hv)
  have e2 : w2 = w := Option.some.inj ((f2 ws h2).symm.trans hw)
  subst e1 e2
  exact ⟨grow_new r hT, rp_new r hT, _, zip_get (List.getElem?_eq_getElem hix) (List.getElem?_eq_getElem hiy), rv_new_tup r hT (.cons rv (.cons rw' .nil))⟩
theorem jok_enum {a : Addr} {xs : List D} {I : DStore → Prop} (h : ∀ η' μ' S' H', Ext η μ H η' μ' H' → Rp K η' μ' S' H' → I S' → ∃ vs, SqL K H' a vs ∧ RVs K H' η' μ' xs vs) : JOk K η μ H (Ite K a) (enumD xs) I := by
  intro i η' μ' S' H' e r g
  obtain ⟨vs, h1, q1⟩ := h η' μ' S' H' e r g
  have l1 := q1.length
  rw [enum_len]
  refine ⟨fun hi => ?_, fun hi _ => ⟨vs, h1, by omega⟩⟩
  obtain ⟨v, hv, rv⟩ := q1.get (List.getElem?_eq_getElem hi)
  refine ⟨⟨vs, v, h1, hv⟩, fun x H'' hy => ?_⟩
  obtain ⟨T, v2, rfl, hT, rfl, f1⟩ := hy
  have e1 : v2 = v := Option.some.inj ((f1 vs h1).symm.trans hv)
  subst e1
  exact ⟨grow_new r hT, rp_new r hT, _, enum_get (List.getElem?_eq_getElem hi), rv_new_tup r hT (.cons (.int _) (.cons rv .nil))⟩
theorem jok_rangeC {lo c : Int} {n : Nat} : JOk K η μ H (Itc lo c n) (range3D lo c n) (fun _ => True) := by
  intro i η' μ' S' H' e r g
  have hl : (range3D lo c n).length = n := by simp [range3D]
  refine ⟨fun h => ⟨by show i < n; omega, fun x H'' hy => ?_⟩, fun h _ => by show n ≤ i; omega⟩
  obtain ⟨rfl, rfl⟩ := hy
  refine ⟨.refl, r, _, ?_, .int _⟩
  unfold range3D
  rw [List.getElem?_map, List.getElem?_range (by omega)]
  rfl
theorem sqA_of (r : Rp K η μ S H) {x : D} {v : V} {xs : List D} (rx : RV K H η μ x v) (e : tlOf S x = some xs) : ∃ k a vs, v = .ref a ∧ SqA K k H a vs ∧ RVs K H η μ xs vs ∧
    ∀ η' μ' S' H', Ext η μ H η' μ' H' → Rp K η' μ' S' H' → tlOf S' x = some xs → ∃ vs, SqA K k H' a vs ∧ RVs K H' η' μ' xs vs := by
  by_cases hx : ∃ ys, x = .tup ys
  · obtain ⟨ys, rfl⟩ := hx
    simp only [tlOf, Option.some.injEq] at e
    subst e
    cases rx with
    | tup h1 q1 => exact ⟨true, _, _, rfl, h1, q1, fun η' μ' S' H' e _ _ => ⟨_, SqT.ext e h1, q1.ext e⟩⟩
  · by_cases hx2 : ∃ ys, x = .ptup ys
    · obtain ⟨ys, rfl⟩ := hx2
      simp only [tlOf, Option.some.injEq] at e
      subst e
      cases rx with
      | ptup h1 h2 q1 => exact ⟨true, _, _, rfl, .inl (.inr ⟨_, h1⟩), q1, fun η' μ' S' H' e _ _ => ⟨_, SqT.ext e (.inl (.inr ⟨_, h1⟩)), q1.ext e⟩⟩
    have et : ∀ S', tlOf S' x = lstOf S' x := fun S' => by
      cases x <;> first | rfl | exact absurd ⟨_, rfl⟩ hx | exact absurd ⟨_, rfl⟩ hx2
    rw [et] at e
    obtain ⟨a, vs, rfl, ha, qa⟩ := lst_of r rx e
    refine ⟨false, a, vs, rfl, .inl (.inl ha), qa, fun η' μ' S' H' e' r' g => ?_⟩
    rw [et] at g
    obtain ⟨a', vs', ea, ha', qa'⟩ := lst_of r' (rx.ext e') g
    cases ea
    exact ⟨vs', .inl (.inl ha'), qa'⟩
theorem zip_it (r : Rp K η μ S H) {x y : D} {v w : V} {R : RI} {RJ : It → Hp → Prop} (rx : RV K H η μ x v) (ry : RV K H η μ y w) (h : zipP S x y R) (hJ : ∀ J items I, R items I S → JOk K η μ H J items I → RJ J H) :
    ∃ a b k1 k2 xs ys, [v, w] = [V.ref a, V.ref b] ∧ SqA K k1 H a xs ∧ SqA K k2 H b ys ∧ RJ (ItzM K k1 k2 a b) H := by
  have h' : ∃ xs ys I, tlOf S x = some xs ∧ tlOf S y = some ys ∧ R (zipD xs ys) I S ∧ ∀ S', I S' → tlOf S' x = some xs ∧ tlOf S' y = some ys := by
    unfold zipP at h
    split at h
    · exact ⟨_, _, _, rfl, rfl, h, fun _ _ => ⟨rfl, rfl⟩⟩
    · obtain ⟨xs, ys, e1, e2, h⟩ := h
      exact ⟨xs, ys, _, e1, e2, h, fun _ z => z⟩
  obtain ⟨xs, ys, I, e1, e2, hI, hk⟩ := h'
  obtain ⟨k1, a, vs, rfl, ha, qa, fa⟩ := sqA_of r rx e1
  obtain ⟨k2, b, ws, rfl, hb, qb, fb⟩ := sqA_of r ry e2
  refine ⟨a, b, k1, k2, vs, ws, rfl, ha, hb, hJ _ _ _ hI (jok_zipM fun η' μ' S' H' e r' g => ?_)⟩
  obtain ⟨g1, g2⟩ := hk S' g
  obtain ⟨vs', h1, q1⟩ := fa η' μ' S' H' e r' g1
  obtain ⟨ws', h2, q2⟩ := fb η' μ' S' H' e r' g2
  exact ⟨vs', ws', h1, h2, q1, q2⟩
theorem jok_enumT {a : Addr} {xs : List D} {I : DStore → Prop} (h : ∀ η' μ' S' H', Ext η μ H η' μ' H' → Rp K η' μ' S' H' → I S' → ∃ vs, SqT K H' a vs ∧ RVs K H' η' μ' xs vs) : JOk K η μ H (IteT K a) (enumD xs) I := by
  intro i η' μ' S' H' e r g
  obtain ⟨vs, h1, q1⟩ := h η' μ' S' H' e r g
  have l1 := q1.length
  rw [enum_len]
  refine ⟨fun hi => ?_, fun hi _ => ⟨vs, h1, by omega⟩⟩
  obtain ⟨v, hv, rv⟩ := q1.get (List.getElem?_eq_getElem hi)
  refine ⟨⟨vs, v, h1, hv⟩, fun x H'' hy => ?_⟩
  obtain ⟨T, v2, rfl, hT, rfl, f1⟩ := hy
  have e1 : v2 = v := Option.some.inj ((f1 vs h1).symm.trans hv)
  subst e1
  exact ⟨grow_new r hT, rp_new r hT, _, enum_get (List.getElem?_eq_getElem hi), rv_new_tup r hT (.cons (.int _) (.cons rv .nil))⟩
theorem enum_it (r : Rp K η μ S H) {x : D} {v : V} {R : RI} {RJ : It → Hp → Prop} (rx : RV K H η μ x v) (h : enumP S x R) (hJ : ∀ J items I, R items I S → JOk K η μ H J items I → RJ J H) :
    ∃ a xs, [v] = [V.ref a] ∧ ((SqL K H a xs ∧ RJ (Ite K a) H) ∨ (SqT K H a xs ∧ RJ (IteT K a) H)) := by
  unfold enumP at h
  split at h
  · cases rx with
    | tup h1 q1 => exact ⟨_, _, rfl, .inr ⟨h1, hJ _ _ _ h (jok_enumT fun η' μ' S' H' e _ _ => ⟨_, SqT.ext e h1, q1.ext e⟩)⟩⟩
  · obtain ⟨xs, e1, h⟩ := h
    obtain ⟨a, vs, rfl, ha, qa⟩ := lst_of r rx e1
    refine ⟨a, vs, rfl, .inl ⟨.inl (.inl ha), hJ _ _ _ h (jok_enum fun η' μ' S' H' e r' g => ?_)⟩⟩
    obtain ⟨a', vs', ea, ha', qa'⟩ := lst_of r' (rx.ext e) g
    cases ea
    exact ⟨vs', .inl (.inl ha'), qa'⟩
noncomputable def tyS : TyB → String
  | .int => "int" | .bool => "bool" | .str => "str" | .tuple => "tuple" | .list => "list"
/-- what isinstance asks -/
theorem ty_of (r : Rp K η μ S H) {x : D} {v : V} {t : TyB} {Q : QE} (rx : RV K H η μ x v) (h : isiP t x S Q) : ∃ ty b, TyX K H v (.type ty) ∧ kitB ty (tyS t) = some b ∧ Q (.bl b) S := by
  cases rx with
  | non => exact ⟨"NoneType", _, .base .non, by clear h; cases t <;> (simp only [isiD]; decide +kernel), h⟩
  | bl b => exact ⟨"bool", _, .base (.bl b), by clear h; cases t <;> (simp only [isiD]; decide +kernel), h⟩
  | int b => exact ⟨"int", _, .base (.int b), by clear h; cases t <;> (simp only [isiD]; decide +kernel), h⟩
  | str b => exact ⟨"str", _, .base (.str b), by clear h; cases t <;> (simp only [isiD]; decide +kernel), h⟩
  | @tup a0 xs0 ds0 h1 q1 =>
    refine ⟨"tuple", isiD t (.tup ds0), ?_, by clear h; cases t <;> (simp only [isiD]; decide +kernel), h⟩
    rcases h1 with (h1 | ⟨o, h1⟩) | ⟨o, its, n, h1, h2, _⟩
    · exact .base (.tup h1)
    · exact .fTuple h1
    · exact .kTuple h1 h2
  | @lst a0 xs0 ds0 hm hn h1 q1 => exact ⟨"list", isiD t (.lst ds0), .base (.lst h1), by clear h; cases t <;> (simp only [isiD]; decide +kernel), h⟩
  | scr h1 q1 => exact h.elim
  | ptup h1 h2 q1 => exact h.elim
  | @key a0 ks0 h1 => exact ⟨"tuple", isiD t (.key ks0), .base (.tup h1), by clear h; cases t <;> (simp only [isiD]; decide +kernel), h⟩
  | @ref n a h1 =>
    obtain ⟨c, hn, h⟩ := h
    obtain ⟨b, hb, hc⟩ := r.cell n _ hn
    rw [h1] at hb; cases hb
    cases c with
    | lst xs =>
      obtain ⟨vs, e2, q2⟩ := hc
      exact ⟨"list", _, .base (.lst e2), by clear h; cases t <;> (simp only [isiC]; decide +kernel), h⟩
    | dct xs =>
      obtain ⟨vs, e2, q2⟩ := hc
      exact ⟨"dict", _, .base (.dT e2), by clear h; cases t <;> (simp only [isiC]; decide +kernel), h⟩
    | dkk xs =>
      obtain ⟨vs, e2, q2⟩ := hc
      exact ⟨"dict", _, .base (.dK e2), by clear h; cases t <;> (simp only [isiC]; decide +kernel), h⟩
    | dkl xs => exact h.elim
    | dlk xs =>
      exact h.elim
    | sts xs => exact h.elim
    | stl xs => exact h.elim
    | tks xs => exact h.elim
    | ins cn xs => exact h.elim
    | exn cn xs => exact h.elim
end
theorem wipe_get (σ : L2.St) : ∀ (vs : List Nat) (i : Nat), (wipe σ vs)[i]? = if i ∈ vs then (σ[i]?).map (fun _ => none) else σ[i]?
  | [], i => by simp [wipe]
  | v :: vs, i => by
    have ih := wipe_get σ vs i
    have hl := wipe_length σ vs
    by_cases h : v = i
    · subst h
      by_cases hv : v < σ.length
      · simp [wipe, List.getElem?_set_self (show v < (wipe σ vs).length by omega), List.getElem?_eq_getElem hv]
      · have : σ[v]? = none := List.getElem?_eq_none_iff.mpr (by omega)
        simp [wipe, this]
        omega
    · have h' : ¬ i = v := fun z => h z.symm
      simp only [wipe, List.getElem?_set_ne h, ih, List.mem_cons, h', false_or]
theorem wipe_ext {σ τ : L2.St} {vs : List Nat} (hl : τ.length = σ.length) (h : ∀ i, i ∉ vs → τ[i]? = (wipe σ vs)[i]?) : wipe τ vs = wipe σ vs := by
  apply List.ext_getElem?
  intro i
  rw [wipe_get, wipe_get]
  by_cases hi : i ∈ vs
  · rw [if_pos hi, if_pos hi]
    by_cases hv : i < σ.length
    · rw [List.getElem?_eq_getElem hv, List.getElem?_eq_getElem (by omega)]; rfl
    · rw [List.getElem?_eq_none_iff.mpr (by omega), List.getElem?_eq_none_iff.mpr (by omega)]
  · rw [if_neg hi, if_neg hi]
    have := h i hi
    rw [wipe_get, if_neg hi] at this
    exact this
theorem re_wipe {K : PySem.W.Frag} {H : Hp} {η μ : List Addr} {ρ : DEnv} {σ : L2.St} (r : RE K H η μ ρ σ) : ∀ vs, RE K H η μ (wipeD ρ vs) (wipe σ vs)
  | [] => r
  | v :: vs => (re_wipe r vs).del v
noncomputable def CT.simple : CT → Bool
  | .name _ => true
  | .tup ts => simples ts
  | .sub _ _ => false
  | .dsub _ _ => false
  | .ksub _ _ => false
  | .kput _ _ => false
  | .sput _ _ => false
where simples : List CT → Bool
  | [] => true
  | t :: ts => CT.simple t && simples ts
noncomputable def CT.slots : CT → List Nat
  | .name i => [i]
  | .tup ts => slotss ts
  | .sub _ _ => []
  | .dsub _ _ => []
  | .ksub _ _ => []
  | .kput _ _ => []
  | .sput _ _ => []
where slotss : List CT → List Nat
  | [] => []
  | t :: ts => CT.slots t ++ slotss ts
section
variable (K : PySem.W.Frag)
mutual
noncomputable def gS : CT → TG
  | .name i => gName i
  | .tup ts => fun v σ H Q => gTup K ts.length (gSs ts) v σ H Q ∨ gLst K ts.length (gSs ts) v σ H Q
  | .sub _ _ => fun _ _ _ _ => False
  | .dsub _ _ => fun _ _ _ _ => False
  | .ksub _ _ => fun _ _ _ _ => False
  | .kput _ _ => fun _ _ _ _ => False
  | .sput _ _ => fun _ _ _ _ => False
noncomputable def gSs : List CT → TGs
  | [] => gNil
  | t :: ts => gCons (gS t) (gSs ts)
end
end
section
variable {K : PySem.W.Frag} {η μ : List Addr} {S : DStore} {H : Hp} {G : Fns}
mutual
theorem gS_run : ∀ (t : CT) {d : D} {v : V} {ρ : DEnv} {σ : L2.St} {QD : DEnv → DStore → Prop} {Q : L2.St → Hp → Prop}, CT.simple t = true → Rp K η μ S H → RE K H η μ ρ σ → RV K H η μ d v → wpG G t d ρ S QD →
    (∀ ρ' σ', RE K H η μ ρ' σ' → σ'.length = σ.length → (∀ i, i ∉ CT.slots t → σ'[i]? = σ[i]?) → QD ρ' S → Q σ' H) → gS K t v σ H Q
  | .name i, d, v, ρ, σ, QD, Q, _, hR, hE, rv, h, hQ => by
    simp only [wpG] at h
    refine hQ _ _ (hE.set rv i) (by simp) (fun j hj => ?_) h
    rw [List.getElem?_set_ne (fun z => hj (by simp [CT.slots, z]))]
  | .tup ts, d, v, ρ, σ, QD, Q, hs, hR, hE, rv, h, hQ => by
    simp only [wpG] at h
    unfold unpD at h
    split at h
    · obtain ⟨hl, h⟩ := h
      cases rv with
      | tup h1 q1 => exact .inl ⟨_, _, rfl, h1, by rw [← q1.length]; exact hl, gSs_run ts hs hR hE q1 h hl hQ⟩
    · obtain ⟨xs, e1, hl, h⟩ := h
      obtain ⟨a, vs, rfl, ha, qa⟩ := lst_of hR rv e1
      exact .inr ⟨_, _, rfl, .inl (.inl ha), by rw [← qa.length]; exact hl, gSs_run ts hs hR hE qa h hl hQ⟩
  | .sub _ _, _, _, _, _, _, _, hs, _, _, _, _, _ => by simp [CT.simple] at hs
  | .dsub _ _, _, _, _, _, _, _, hs, _, _, _, _, _ => by simp [CT.simple] at hs
  | .ksub _ _, _, _, _, _, _, _, hs, _, _, _, _, _ => by simp [CT.simple] at hs
  | .kput _ _, _, _, _, _, _, _, hs, _, _, _, _, _ => by simp [CT.simple] at hs
  | .sput _ _, _, _, _, _, _, _, hs, _, _, _, _, _ => by simp [CT.simple] at hs
theorem gSs_run : ∀ (ts : List CT) {ds : List D} {vs : List V} {ρ : DEnv} {σ : L2.St} {QD : DEnv → DStore → Prop} {Q : L2.St → Hp → Prop}, CT.simple.simples ts = true → Rp K η μ S H → RE K H η μ ρ σ → RVs K H η μ ds vs → wpGs G ts ds ρ S QD → ds.length = ts.length →
    (∀ ρ' σ', RE K H η μ ρ' σ' → σ'.length = σ.length → (∀ i, i ∉ CT.slots.slotss ts → σ'[i]? = σ[i]?) → QD ρ' S → Q σ' H) → gSs K ts vs σ H Q
  | [], ds, vs, ρ, σ, QD, Q, _, hR, hE, rv, h, hl, hQ => by
    have : ds = [] := List.eq_nil_of_length_eq_zero hl
    subst this
    cases rv
    simp only [wpGs] at h
    exact ⟨rfl, hQ _ _ hE rfl (fun _ _ => rfl) h⟩
  | t :: ts, ds, vs, ρ, σ, QD, Q, hs, hR, hE, rv, h, hl, hQ => by
    simp only [wpGs] at h
    obtain ⟨d, r, rfl, h⟩ := h
    simp only [CT.simple.simples, Bool.and_eq_true] at hs
    cases rv with
    | cons a b =>
      refine ⟨_, _, rfl, gS_run t hs.1 hR hE a h fun ρ1 σ1 e1 l1 k1 q1 => ?_⟩
      refine gSs_run ts hs.2 hR e1 b q1 (by simpa using hl) fun ρ2 σ2 e2 l2 k2 q2 => hQ _ _ e2 (l2.trans l1) (fun i hi => ?_) q2
      simp only [CT.slots.slotss, List.mem_append, not_or] at hi
      rw [k2 i hi.2, k1 i hi.1]
end
end
section
variable {K : PySem.W.Frag} {η μ : List Addr} {S : DStore}
theorem grow_pairs : ∀ (xs ys : List D) (vs us : List V) (H : Hp) (QV : List V → Hp → Prop), Rp K η μ S H → RVs K H η μ xs vs → RVs K H η μ ys us → (∀ ws H', Grow μ H μ H' → Rp K η μ S H' → RVs K H' η μ (zipD xs ys) ws → QV ws H') → growT (vs.zip us) H QV
  | _, _, _, _, H, QV, r, .nil, _, h => h [] H .refl r .nil
  | _, _, _, _, H, QV, r, .cons _ _, .nil, h => h [] H .refl r .nil
  | _, _, _, _, H, QV, r, .cons rx rxs, .cons ry rys, h => by
    intro q hq
    exact grow_pairs _ _ _ _ _ _ (rp_new r hq) (rxs.ext (grow_new r hq).ext) (rys.ext (grow_new r hq).ext) fun ws H' g' r' rw' => h _ H' ((grow_new r hq).trans g') r' (.cons ((rv_new_tup r hq (.cons rx (.cons ry .nil))).ext g'.ext) rw')
theorem listZip_of {H : Hp} (r : Rp K η μ S H) {x y : D} {v w : V} {m : Bool} {QD : QE} {Q : VK} (rx : RV K H η μ x v) (ry : RV K H η μ y w) (h : ∃ xs ys, lstOf S x = some xs ∧ lstOf S y = some ys ∧ (xs.zip ys).length ≤ sizeLine ∧ newL m (zipD xs ys) S QD)
    (hQ : ∀ v H', Post K η μ H QD v H' → Q v H') : ∃ a b xs ys, [v, w] = [V.ref a, V.ref b] ∧ SqA K false H a xs ∧ SqA K false H b ys ∧ (xs.zip ys).length ≤ sizeLine ∧ growT (xs.zip ys) H fun us H2 => ∀ q, H2 q = none → Q (.ref q) (upd H2 q (.lst us)) := by
  obtain ⟨xs, ys, e1, e2, hl, hn⟩ := h
  obtain ⟨a, vs, rfl, ha, ra⟩ := lst_of r rx e1
  obtain ⟨b, us, rfl, hb, rb⟩ := lst_of r ry e2
  have l1 := ra.length
  have l2 := rb.length
  refine ⟨a, b, vs, us, rfl, .inl (.inl ha), .inl (.inl hb), by rw [List.length_zip] at hl ⊢; omega, grow_pairs xs ys vs us H _ r ra rb fun ws H' g r' rw' q hq => hQ _ _ ?_⟩
  exact (new_lst r' rw' hn q hq).from g
end
end DL
namespace DL
open PySem PySem.Spec PyProof.Rows L2
structure FI where
  name : Str
  ps : List Str
  kws : List (List Str × List Nat)
  /-- has parameters that come by names alone -/
  ko : Bool
  /-- of which class it is a method -/
  cl : Option Str
  /-- how many levels it wants more (1 for __init__) -/
  up : Nat
/-- a class: its name, the attributes of its instances -/
structure CIn where
  name : Str
  attrs : List Str
  /-- its != is told by its own __eq__ -/
  ne : Bool := false
/-- classes of exceptions, the defs that may raise -/
structure TX where
  exs : List Str := []
  fxs : List FI := []
  /-- this def may raise -/
  rs : Bool := false
  /-- names of classes of which isinstance is asked -/
  isn : List Str := []
structure Tb where
  fns : List FI
  cls : List CIn
  gls : List Str
  bis : List Str
  /-- in the def that makes the lambda -/
  lam : Bool
  x : TX
/-- the scope, and the one whose cells are one's own -/
structure SS where
  s : Scope
  o : Scope
noncomputable def visB (sc : SS) (x : Str) : Bool := match sc.s.names.lookup x with
  | some .local | some .cell | some .free => true
  | _ => false
noncomputable def locB (sc : SS) (x : Str) : Bool := match sc.s.names.lookup x with
  | some .local => true
  | some .cell => sc.o.names.lookup x == some .cell
  | _ => false
noncomputable def glB (sc : SS) (x : Str) : Bool := match sc.s.names.lookup x with
  | some .globalImplicit => true
  | _ => false
noncomputable def pureB (sc : SS) (x : Str) : Bool := match sc.s.names.lookup x with
  | some .local => true
  | _ => false
noncomputable def cellNm (sc : SS) : Expr → Bool
  | .Name x _ => match sc.s.names.lookup x with
    | some .cell => true
    | _ => false
  | _ => false
noncomputable def notDbg (x : Str) : Bool := !(x == ("__debug__" : Str)) && !(x == ("__classdict__" : Str))
noncomputable def TyB.nm : TyB → Str
  | .int => "int" | .bool => "bool" | .str => "str" | .tuple => "tuple" | .list => "list"
/-- walks that make pairs want a target that takes them apart -/
noncomputable def CI.pairs : CI → Bool
  | .enum _ => true
  | .zip2 _ _ => true
  | .items _ => true
  | .alt a b => a.pairs || b.pairs
  | _ => false
noncomputable def isTupE : Expr → Bool
  | .Tuple .. => true
  | _ => false
noncomputable def okC : CC → Const → Bool
  | .non, .none => true
  | .bl b, .bool c => b == c
  | .int i, .int j => i == j
  | .str x, .str y => x == y
  | _, _ => false
noncomputable def notSl : Expr → Bool
  | .Slice .. => false
  | _ => true
noncomputable def notCall : Expr → Bool
  | .Call .. => false
  | _ => true
noncomputable def notComp : Expr → Bool
  | .ListComp .. | .SetComp .. | .DictComp .. => false
  | _ => true
noncomputable def notNm : Expr → Bool
  | .Name .. => false
  | _ => true
noncomputable def swN (sc : SS) (ts vs : List Expr) : Option (Option (List Str)) :=
  if !(ts.length == 2 || ts.length == 3) || vs.length != ts.length then some none
  else if vs.any (fun | .Starred .. => true | _ => false) then some none
  else
    let line := (ts.head?.map (·.pos.line)).getD 0
    let names := ts.filterMap fun
      | .Name id pos => if sc.s.names.lookup id == some .local && pos.line == line then some id else none
      | _ => none
    if names.length != ts.length || names.eraseDups.length != names.length then some none
    else if vs.all (foldedForSure 8) then some none
    else if vs.all (constantsAlone 8) then none
    else some (some names)
/-- no exchange of stores -/
noncomputable def noSwap (sc : SS) : Expr → Expr → Bool
  | .Tuple ts _ _, e => match e with
    | .Tuple vs _ _ => match swN sc ts vs with
      | some none => true
      | _ => false
    | _ => true
  | .List _ _, e => match e with
    | .Tuple _ _ _ => false
    | _ => true
  | _, _ => true
noncomputable def hasAttr (T : Tb) (cn f : Str) : Bool := T.cls.any fun c => c.name == cn && c.attrs.contains f
noncomputable def hasCls (T : Tb) (cn : Str) : Bool := T.cls.any fun c => c.name == cn
noncomputable def hasNe (T : Tb) (cn : Str) : Bool := T.cls.any fun c => c.name == cn && c.ne
/-- where a method may be asked for by the plain road -/
noncomputable def metB : Expr → Bool
  | .Name .. => true
  | .Attribute .. => true
  | .Subscript .. => true
  | _ => false
/-- targets that may stand in a pair of targets -/
noncomputable def t1B : CT → Bool
  | .name _ => true
  | .tup _ => false
  | .sub _ _ => true
  | .dsub _ _ => false
  | .ksub _ _ => false
  | .kput _ _ => true
  | .sput _ _ => false
/-- the targets that are not simple and may be stored to -/
noncomputable def asgT : CT → Bool
  | .name _ => false
  | .sub _ _ => true
  | .dsub _ _ => true
  | .ksub _ _ => true
  | .kput _ _ => true
  | .sput _ _ => true
  | .tup ts => match ts with
    | [.dsub _ _, .dsub _ _, .dsub _ _] => true
    | [t1, t2] => t1B t1 && t1B t2
    | _ => false
noncomputable def isLcE : CE → Bool
  | .lc .. => true
  | _ => false
noncomputable def isDcE : CE → Bool
  | .dcomp .. => true
  | _ => false
noncomputable def kPar2 (f : Str → Pos → Str → Pos → Nat → Pos → Expr → Expr → Nat → Pos → Bool) : Stmt → Bool
  | .Assign [.Tuple [.Name x px, .Name y py] kt pt] (.Tuple [a, b] k2 p2) _ => f x px y py kt pt a b k2 p2
  | _ => false
noncomputable def kPar3 (f : Str → Pos → Str → Pos → Str → Pos → Nat → Pos → Expr → Expr → Expr → Nat → Pos → Bool) : Stmt → Bool
  | .Assign [.Tuple [.Name x px, .Name y py, .Name z pz] kt pt] (.Tuple [a, b, c] k2 p2) _ => f x px y py z pz kt pt a b c k2 p2
  | _ => false
theorem kPar2_of {f : Str → Pos → Str → Pos → Nat → Pos → Expr → Expr → Nat → Pos → Bool} {st : Stmt} (h : kPar2 f st = true) : ∃ x px y py kt pt a b k2 p2 p, st = .Assign [.Tuple [.Name x px, .Name y py] kt pt] (.Tuple [a, b] k2 p2) p ∧ f x px y py kt pt a b k2 p2 = true := by
  unfold kPar2 at h
  split at h
  · exact ⟨_, _, _, _, _, _, _, _, _, _, _, rfl, h⟩
  · cases h
theorem kPar3_of {f : Str → Pos → Str → Pos → Str → Pos → Nat → Pos → Expr → Expr → Expr → Nat → Pos → Bool} {st : Stmt} (h : kPar3 f st = true) : ∃ x px y py z pz kt pt a b c k2 p2 p, st = .Assign [.Tuple [.Name x px, .Name y py, .Name z pz] kt pt] (.Tuple [a, b, c] k2 p2) p ∧ f x px y py z pz kt pt a b c k2 p2 = true := by
  unfold kPar3 at h
  split at h
  · exact ⟨_, _, _, _, _, _, _, _, _, _, _, _, _, _, rfl, h⟩
  · cases h
section
variable (T : Tb) (N : List Str)
mutual
noncomputable def okE (sc : SS) : CE → Expr → Bool
  | .var i, e0 => match e0 with
    | .Name x _ => visB sc x && (N[i]? == some x) && notDbg x
    | _ => false
  | .con c, e0 => match e0 with
    | .Constant k _ _ => okC c k
    | _ => false
  | .glo j, e0 => match e0 with
    | .Name x _ => glB sc x && (T.gls[j]? == some x) && notDbg x
    | _ => false
  | .bin op _ a b, e0 => match e0 with
    | .BinOp a' op' b' _ => op == op' && okE sc a a' && okE sc b b'
    | _ => false
  | .neg a, e0 => match e0 with
    | .UnaryOp .USub a' _ => okE sc a a'
    | _ => false
  | .cmp op a b, e0 => match e0 with
    | .Compare a' [op'] [b'] _ => op == op' && okE sc a a' && okE sc b b'
    | _ => false
  | .chain op1 op2 a b c, e0 => match e0 with
    | .Compare a' [o1, o2] [b', c'] _ => op1 == o1 && op2 == o2 && okE sc a a' && okE sc b b' && okE sc c c'
    | _ => false
  | .and_ a b, e0 => match e0 with
    | .BoolOp .And (a' :: b' :: r) p => okE sc a a' && (match r with
        | [] => okE sc b b'
        | c' :: r' => okE sc b (.BoolOp .And (b' :: c' :: r') p))
    | _ => false
  | .not_ a, e0 => match e0 with
    | .UnaryOp .Not a' _ => okE sc a a'
    | _ => false
  | .ite t a b, e0 => match e0 with
    | .IfExp t' a' b' _ => okB sc t t' && okE sc a a' && okE sc b b'
    | _ => false
  | .tup es, e0 => match e0 with
    | .Tuple es' _ _ => okEs sc es es' && es.length ≤ 1000
    | _ => false
  | .lst _ es, e0 => match e0 with
    | .List es' _ => okEs sc es es' && es.length ≤ 1000
    | _ => false
  | .ix a i, e0 => match e0 with
    | .Subscript a' i' _ => okE sc a a' && okE sc i i' && notSl i'
    | _ => false
  | .sl _ a lo hi, e0 => match e0 with
    | .Subscript a' (.Slice lo' hi' none _) _ => okE sc a a' && okO sc lo lo' && okO sc hi hi'
    | _ => false
  | .call j es, e0 => match e0 with
    | .Call (.Name x _) es' [] _ => glB sc x && notDbg x && okEs sc es es' && (match T.fns[j]? with
        | some i => i.name == x && !i.ko && i.cl.isNone
        | none => false)
    | _ => false
  | .bi b _ es, e0 => match e0 with
    | .Call (.Name x _) (e' :: es') [] _ => glB sc x && (b.name == x) && T.bis.contains x && okEs sc es (e' :: es')
    | _ => false
  | .dnewS, e0 => match e0 with
    | .Dict [] [] _ => true
    | _ => false
  | .dnew1S k v, e0 => match e0 with
    | .Dict [some k'] [v'] _ => okE sc k k' && okE sc v v'
    | _ => false
  | .lenS a, e0 => match e0 with
    | .Call (.Name x _) [a'] [] _ => x == ("len" : Str) && glB sc x && T.bis.contains x && okE sc a a'
    | _ => false
  | .inS a b, e0 => match e0 with
    | .Compare a' [.In] [b'] _ => okE sc a a' && okE sc b b'
    | _ => false
  | .dcS key val tg it ifs own, e0 => match e0 with
    | .DictComp key' val' [y] scope _ => match y with
      | ⟨tg', it', ifs', 0⟩ => blkC N sc.s scope (own.map fun i => (N.getD i "", i)) && okE ⟨relS scope sc.s, scope⟩ key key' && okE ⟨relS scope sc.s, scope⟩ val val' && okT ⟨relS scope sc.s, scope⟩ tg tg' && tg.simple && tg.slots.all (own.contains ·) && okI sc it it' && okBs ⟨relS scope sc.s, scope⟩ ifs ifs' && decide (ifs.length ≤ 1) && (!it.pairs || isTupE tg')
      | _ => false
    | _ => false
  | .revL _ a, e0 => match e0 with
    | .Subscript a' (.Slice none none (some (.UnaryOp .USub (.Constant (.int i) _ _) _)) _) _ => i == 1 && okE sc a a'
    | _ => false
  | .scS _ elt tg it ifs own, e0 => match e0 with
    | .Call (.Name x _) [z] [] _ => match z with
      | .SetComp elt' [y] scope _ => match y with
        | ⟨tg', it', ifs', 0⟩ => x == ("sorted" : Str) && glB sc x && T.bis.contains x && blkC N sc.s scope (own.map fun i => (N.getD i "", i)) && okE ⟨relS scope sc.s, scope⟩ elt elt' && okT ⟨relS scope sc.s, scope⟩ tg tg' && tg.simple && tg.slots.all (own.contains ·) && okI sc it it' && okBs ⟨relS scope sc.s, scope⟩ ifs ifs' && decide (ifs.length ≤ 1) && (!it.pairs || isTupE tg')
        | _ => false
      | _ => false
    | _ => false
  | .sSet _ a, e0 => match e0 with
    | .Call (.Name x _) [z] [] _ => match z with
      | .Call (.Name y _) [a'] [] _ => x == ("sorted" : Str) && glB sc x && T.bis.contains x && y == ("set" : Str) && glB sc y && T.bis.contains y && okE sc a a'
      | _ => false
    | _ => false
  | .fld cn a f, e0 => match e0 with
    | .Attribute o f' _ => f' == f && okE sc a o && notCall o && hasAttr T cn f
    | _ => false
  | .meth cn a m j es, e0 => match e0 with
    | .Call (.Attribute o m' ap) es' [] cp => m' == m && okE sc a o && okEs sc es es' && metB o && (ap.endLine == cp.line && decide (es'.length + 1 < 30)) && (match T.fns[j]? with
        | some i => i.name == m && !i.ko && i.cl == some cn && hasCls T cn
        | none => false)
    | _ => false
  | .mk cn j es, e0 => match e0 with
    | .Call (.Name x _) es' [] _ => x == cn && glB sc x && notDbg x && okEs sc es es' && (match T.fns[j]? with
        | some i => i.name == ("__init__" : Str) && !i.ko && i.cl == some cn && hasCls T cn && i.up == 1
        | none => false)
    | _ => false
  | .isi t a, e0 => match e0 with
    | .Call (.Name x _) [a', z] [] _ => match z with
      | .Name y _ => x == ("isinstance" : Str) && glB sc x && T.bis.contains x && y == t.nm && glB sc y && T.bis.contains y && okE sc a a'
      | _ => false
    | _ => false
  | .dnew, e0 => match e0 with
    | .Dict [] [] _ => true
    | _ => false
  | .dnew1 es v, e0 => match e0 with
    | .Dict [z] [v'] _ => match z with
      | some (.Tuple es' _ _) => okEs sc es es' && decide (es.length ≤ 1000) && okE sc v v'
      | _ => false
    | _ => false
  | .dcomp key val tg it own, e0 => match e0 with
    | .DictComp key' val' [z] scope _ => match z with
      | ⟨tg', it', [], 0⟩ => blkC N sc.s scope (own.map fun i => (N.getD i "", i)) && okE ⟨relS scope sc.s, scope⟩ key key' && okE ⟨relS scope sc.s, scope⟩ val val' && okT ⟨relS scope sc.s, scope⟩ tg tg' && tg.simple && tg.slots.all (own.contains ·) && okI sc it it' && (!it.pairs || isTupE tg')
      | _ => false
    | _ => false
  | .ptup a, e0 => match e0 with
    | .Call (.Name x _) [a'] [] _ => x == ("tuple" : Str) && glB sc x && T.bis.contains x && okE sc a a'
    | _ => false
  | .lz _ a b, e0 => match e0 with
    | .Call (.Name x _) [z] [] _ => match z with
      | .Call (.Name y _) [a', b'] [] _ => x == ("list" : Str) && glB sc x && T.bis.contains x && y == ("zip" : Str) && glB sc y && T.bis.contains y && okE sc a a' && okE sc b b'
      | _ => false
    | _ => false
  | .lc _ elt tg it ifs own, e0 => match e0 with
    | .ListComp elt' [z] scope _ => match z with
      | ⟨tg', it', ifs', 0⟩ => blkC N sc.s scope (own.map fun i => (N.getD i "", i)) && okE ⟨relS scope sc.s, scope⟩ elt elt' && okT ⟨relS scope sc.s, scope⟩ tg tg' && tg.simple && tg.slots.all (own.contains ·) && okI sc it it' && okBs ⟨relS scope sc.s, scope⟩ ifs ifs' && decide (ifs.length ≤ 1) && (!it.pairs || isTupE tg')
      | _ => false
    | _ => false
noncomputable def okEs (sc : SS) : List CE → List Expr → Bool
  | [], [] => true
  | e :: es, e' :: es' => okE sc e e' && okEs sc es es'
  | _, _ => false
noncomputable def okDs (sc : SS) : List Str → List CE → List (Option Expr) → List Expr → Bool
  | [], [], [], [] => true
  | k :: ks, e :: es, some (.Constant (.str k') _ _) :: keys, e' :: es' => k == k' && okE sc e e' && okDs sc ks es keys es'
  | _, _, _, _ => false
noncomputable def okKs (sc : SS) : List CE → List Keyword → Bool
  | [], [] => true
  | e :: es, ⟨n, e', _⟩ :: es' => n.isSome && okE sc e e' && okKs sc es es'
  | _, _ => false
noncomputable def okO (sc : SS) : CO → Option Expr → Bool
  | .no, none => true
  | .yes e, some e' => okE sc e e'
  | _, _ => false
noncomputable def okB (sc : SS) : CB → Expr → Bool
  | .cand a b, e0 => match e0 with
    | .BoolOp .And (a' :: b' :: r) p => okB sc a a' && (match r with
        | [] => okB sc b b'
        | c' :: r' => okB sc b (.BoolOp .And (b' :: c' :: r') p))
    | _ => false
  | .cor a b, e0 => match e0 with
    | .BoolOp .Or (a' :: b' :: r) p => okB sc a a' && (match r with
        | [] => okB sc b b'
        | c' :: r' => okB sc b (.BoolOp .Or (b' :: c' :: r') p))
    | _ => false
  | .cnot a, e0 => match e0 with
    | .UnaryOp .Not a' _ => okB sc a a'
    | _ => false
  | .ccmp op a b, e0 => match e0 with
    | .Compare a' [op'] [b'] _ => op == op' && okE sc a a' && okE sc b b'
    | _ => false
  | .cdnil a b, e0 => match e0 with
    | .Compare a' [o'] [b'] _ => match o' with
      | .Eq => okE sc a a' && okE sc b b'
      | _ => false
    | _ => false
  | .cinS a b, e0 => match e0 with
    | .Compare a' [o'] [b'] _ => match o' with
      | .In => okE sc a a' && okE sc b b'
      | _ => false
    | _ => false
  | .cval e, e0 => match e0 with
    | .Name x p => okE sc e (.Name x p)
    | .Call f as ks p => okE sc e (.Call f as ks p)
    | .Subscript a i p => okE sc e (.Subscript a i p)
    | .Constant c k p => okE sc e (.Constant c k p)
    | .Attribute o f p => okE sc e (.Attribute o f p)
    | _ => false
noncomputable def okBs (sc : SS) : List CB → List Expr → Bool
  | [], [] => true
  | e :: es, e' :: es' => okB sc e e' && okBs sc es es'
  | _, _ => false
noncomputable def okT (sc : SS) : CT → Expr → Bool
  | .name i, e0 => match e0 with
    | .Name x _ => locB sc x && (N[i]? == some x)
    | _ => false
  | .tup ts, e0 => match e0 with
    | .Tuple ts' _ _ => okTs sc ts ts'
    | _ => false
  | .sub a i, e0 => match e0 with
    | .Subscript a' i' _ => okE sc a a' && okE sc i i' && notSl i'
    | _ => false
  | .ksub a i, e0 => match e0 with
    | .Subscript a' i' _ => okE sc a a' && okE sc i i' && notSl i'
    | _ => false
  | .kput a i, e0 => match e0 with
    | .Subscript a' i' _ => okE sc a a' && okE sc i i' && notSl i'
    | _ => false
  | .sput a i, e0 => match e0 with
    | .Subscript a' i' _ => okE sc a a' && okE sc i i' && notSl i'
    | _ => false
  | .dsub a es, e0 => match e0 with
    | .Subscript a' (.Tuple es' _ _) _ => okE sc a a' && okEs sc es es' && decide (es.length ≤ 1000)
    | _ => false
noncomputable def okTs (sc : SS) : List CT → List Expr → Bool
  | [], [] => true
  | e :: es, e' :: es' => okT sc e e' && okTs sc es es'
  | _, _ => false
noncomputable def okI (sc : SS) : CI → Expr → Bool
  | .seq e, e' => okE sc e e'
  | .range1 a, e0 => match e0 with
    | .Call (.Name x _) [a'] [] _ => x == ("range" : Str) && glB sc x && T.bis.contains x && okE sc a a'
    | _ => false
  | .range3 a b c, e0 => match e0 with
    | .Call (.Name x _) [a', b', c'] [] _ => x == ("range" : Str) && glB sc x && T.bis.contains x && okE sc a a' && okE sc b b' && okE sc c c'
    | _ => false
  | .enum a, e0 => match e0 with
    | .Call (.Name x _) [a'] [] _ => x == ("enumerate" : Str) && glB sc x && T.bis.contains x && okE sc a a'
    | _ => false
  | .zip2 a b, e0 => match e0 with
    | .Call (.Name x _) [a', b'] [] _ => x == ("zip" : Str) && glB sc x && T.bis.contains x && okE sc a a' && okE sc b b'
    | _ => false
  | .keys e, e' => okE sc e e'
  | .keysF e, e' => okE sc e e'
  | .alt a b, e' => okI sc a e' && okI sc b e'
  | .items e, e0 => match e0 with
    | .Call (.Attribute o m ap) [] [] cp => m == ("items" : Str) && (ap.endLine == cp.line) && okE sc e o && notCall o
    | _ => false
  | .skeys e, e' => okE sc e e'
end
mutual
noncomputable def okS (sc : SS) : CS → Stmt → Bool
  | .ret e, e0 => match e0 with
    | .Return (some e') _ => okE T N sc e e'
    | _ => false
  | .brk, e0 => match e0 with
    | .Break _ => true
    | _ => false
  | .never, _ => true
  | .asg t e, e0 => match e0 with
    | .Assign [t'] e' _ => okT T N sc t t' && okE T N sc e e' && (notComp e' || notNm t' || cellNm sc t') && noSwap sc t' e' && (t.simple || asgT t)
    | _ => false
  | .par2 i j a b, e0 => kPar2 (fun x px y py _ _ a' b' _ _ => pureB sc x && pureB sc y && (N[i]? == some x) && (N[j]? == some y) && decide (i ≠ j) && okE T N sc a a' && okE T N sc b b' && (swN sc [.Name x px, .Name y py] [a', b'] == some (some [x, y]))) e0
  | .par3 i j k a b c, e0 => kPar3 (fun x px y py z pz _ _ a' b' c' _ _ => pureB sc x && pureB sc y && pureB sc z && (N[i]? == some x) && (N[j]? == some y) && (N[k]? == some z) && decide (i ≠ j) && decide (i ≠ k) && decide (j ≠ k) &&
        okE T N sc a a' && okE T N sc b b' && okE T N sc c c' && (swN sc [.Name x px, .Name y py, .Name z pz] [a', b', c'] == some (some [x, y, z]))) e0
  | .setLc i e, e0 => match e0 with
    | .Assign [.Name y py] (.ListComp elt' gs scope pos) _ => isLcE e && okE T N sc e (.ListComp elt' gs scope pos) && pureB sc y && (N[i]? == some y) && (py.line == pos.line) && !(scope.names.any fun (n, k) => n == y && (k == .local || k == .cell))
    | .Assign [.Name y py] (.DictComp key' val' gs scope pos) _ => isDcE e && okE T N sc e (.DictComp key' val' gs scope pos) && pureB sc y && (N[i]? == some y) && (py.line == pos.line) && !(scope.names.any fun (n, k) => n == y && (k == .local || k == .cell))
    | _ => false
  | .append a e, e0 => match e0 with
    | .Expr (.Call (.Attribute o m ap) [e'] [] cp) _ => m == ("append" : Str) && (ap.endLine == cp.line) && okE T N sc a o && okE T N sc e e' && notCall o
    | _ => false
  | .extend a e, e0 => match e0 with
    | .Expr (.Call (.Attribute o m ap) [e'] [] cp) _ => m == ("extend" : Str) && (ap.endLine == cp.line) && okE T N sc a o && okE T N sc e e' && notCall o
    | _ => false
  | .if_ c a b, e0 => match e0 with
    | .If c' a' b' _ => okB T N sc c c' && okSs sc a a' && okSs sc b b'
    | _ => false
  | .while_ c b, e0 => match e0 with
    | .While c' b' [] _ => okB T N sc c c' && okSs sc b b'
    | _ => false
  | .for_ t it b, e0 => match e0 with
    | .For t' it' b' [] _ => okT T N sc t t' && t.simple && okI T N sc it it' && okSs sc b b' && (!it.pairs || isTupE t')
    | _ => false
  | .lock s, st => !T.x.rs && okS sc s st
  | .lockS s, st => !T.x.rs && okS sc s st
  | .fset cn a f e, e0 => match e0 with
    | .Assign [.Attribute o f' _] e' _ => f' == f && okE T N sc a o && okE T N sc e e' && hasAttr T cn f
    | _ => false
noncomputable def okSs (sc : SS) : List CS → List Stmt → Bool
  | [], [] => true
  | e :: es, e' :: es' => okS sc e e' && okSs sc es es'
  | _, _ => false
end
end
end DL
namespace DL
open PySem PySem.Spec PyProof.Rows L2
noncomputable def spOf (K : PySem.W.Frag) (sp : List D → DStore → QE → Prop) : List V → Hp → VK → Prop := fun vs H Q => ∃ η μ S ds QD, Rp K η μ S H ∧ RVs K H η μ ds vs ∧ sp ds S QD ∧ ∀ v H', Post K η μ H QD v H' → Q v H'
noncomputable def spxOf (K : PySem.W.Frag) (sp : List D → DStore → QE → QX → Prop) : List V → Hp → VK → XK → Prop := fun vs H Q E => ∃ η μ S ds QD QX, Rp K η μ S H ∧ RVs K H η μ ds vs ∧ sp ds S QD QX ∧ (∀ v H', Post K η μ H QD v H' → Q v H') ∧ XEnd K η μ H [] QX (fun cls d _ H' => E cls d H')
/-- a class of exceptions of the text -/
structure XCls (P : Program) (w : World) (K : PySem.W.Frag) (mg : Str → Option Value) (base : Heap) (c : Str) (C : Addr) : Prop where
  ns : PySem.W.nsIn K mainGlobals c = some (some (.ref C))
  gm : mg c = some (.ref C)
  rd : XfC K C
  fl : ∀ f ∈ xfld c, PySem.W.findIn K (.ref C) f = some none
  mkx : xfld c ≠ [] → ∀ X : Cx, X.prog = P → X.w = w → X.K = K → X.mg = mg → X.base = base → Room 4 X.A → Gl X c → ∀ (e : Expr) (es : List Expr) (ta : TA) (p pos : Pos), PA X (e :: es) ta → starEach (e :: es) X.env = (false, eval e X.env) :: starEach es X.env →
    (backTo pos (starEach es X.env)).any (·.1) = false → (c == ("__debug__" : Str)) = false →
    PMk X (.Call (.Name c p) (e :: es) [] pos) (fun σ H Q => ta σ H fun vs H1 => vs.length = (xfld c).length ∧ ∀ d H2, XRel c vs H1 d H2 → Q (.ref C) d H2)
  mk0 : xfld c = [] → ∀ X : Cx, X.prog = P → X.w = w → X.K = K → X.mg = mg → X.base = base → Room 4 X.A → Gl X c → (c == ("__debug__" : Str)) = false → ∀ p pos : Pos, PMk X (.Call (.Name c p) [] [] pos) (fun _ H Q => Q (.ref C) none H)
/-- arguments by names, put at their places -/
noncomputable def gK {α : Type} (d : α) (n : Nat) (perm : List Nat) (us ws : List α) : List α := if ws.length = n then us ++ perm.map (fun i => ws.getD i d) else []
theorem dints_of {K : PySem.W.Frag} {H : Hp} {η μ : List Addr} : ∀ {ys : List Int} {vs : List V}, RVs K H η μ (ys.map D.int) vs → vs = ys.map V.int
  | [], _, h => by cases h; rfl
  | y :: ys, _, h => by
    cases h with
    | cons a b => cases a; rw [dints_of b]; rfl
/-- what isinstance asks of a class -/
noncomputable def isCB (K : PySem.W.Frag) (C : Addr) : Bool :=
  decide (PySem.W.findIn K (.ref C) "__class__" = some (some (.builtin "object.__class__"))) && decide (PySem.W.specialIn K (.builtin "object.__class__") "__get__" = some (some (.builtin "getset_descriptor.__get__"))) &&
    decide (PySem.W.takesIn K (.builtin "object.__class__") = some true) && decide (PySem.W.mroIn K C (.type "object") = some true) && decide (PySem.W.kitOne K (.ref C) (.ref C) = some true) && (PySem.W.clsIn K C).isSome && decide (PySem.W.typeIn K (.ref C) = some (.type "type"))
/-- what isinstance asks of the class of exceptions at C -/
noncomputable def excCB (K : PySem.W.Frag) (C : Addr) : Bool :=
  decide (PySem.W.findIn K (.ref C) "__getattribute__" = some (some (.builtin "BaseException.__getattribute__"))) && decide (PySem.W.findIn K (.ref C) "__getattr__" = some none) && decide (PySem.W.subIn K (.ref C) (.type "BaseException") = some true) && (PySem.W.clsIn K C).isSome &&
    decide (PySem.W.findIn K (.ref C) "__class__" = some (some (.builtin "object.__class__"))) && decide (PySem.W.specialIn K (.builtin "object.__class__") "__get__" = some (some (.builtin "getset_descriptor.__get__"))) &&
    decide (PySem.W.takesIn K (.builtin "object.__class__") = some true) && decide (PySem.W.mroIn K C (.type "object") = some true)
/-- a class's value by its name -/
noncomputable def kitV (K : PySem.W.Frag) (x : Str) : Option Value := if x = ("ValueError" : Str) then some (.type "ValueError") else if x = ("LookupError" : Str) then some (.type "LookupError") else match PySem.W.nsIn K mainGlobals x with
  | some (some (.ref C)) => some (.ref C)
  | _ => none
/-- what isinstance and except say of the classes of exceptions -/
noncomputable def xallB (K : PySem.W.Frag) (xs : List Str) : Bool := xnm.all fun c => match PySem.W.nsIn K mainGlobals c with
  | some (some (.ref C)) => excCB K C && (xs.all fun x => match kitV K x with
      | some u => decide (PySem.W.kitOne K (.ref C) u = some (isX c x))
      | none => false) && (match PySem.W.nsIn K mainGlobals "NotSuch", PySem.W.nsIn K mainGlobals "Lost" with
      | some (some (.ref C1)), some (some (.ref C2)) => decide (PySem.W.exmAny K (.ref C) [.ref C1, .ref C2] = some true) && decide (PySem.W.exmAny K (.ref C) [.ref C2, .ref C1] = some true)
      | _, _ => false)
  | _ => true
structure XAll (K : PySem.W.Frag) (mg : Str → Option Value) (xs : List Str) : Prop where
  ns : ∀ x ∈ xs, x = ("ValueError" : Str) ∨ x = ("LookupError" : Str) ∨ ∃ C, PySem.W.nsIn K mainGlobals x = some (some (.ref C)) ∧ mg x = some (.ref C)
  b : xallB K xs = true
theorem XAll.at {K : PySem.W.Frag} {mg : Str → Option Value} {xs : List Str} (h : XAll K mg xs) {c : Str} {C : Addr} (m : c ∈ xnm) (n : PySem.W.nsIn K mainGlobals c = some (some (.ref C))) :
    excCB K C = true ∧ (∀ x ∈ xs, ∃ u, kitV K x = some u ∧ PySem.W.kitOne K (.ref C) u = some (isX c x)) ∧ ∃ C1 C2, PySem.W.nsIn K mainGlobals "NotSuch" = some (some (.ref C1)) ∧ PySem.W.nsIn K mainGlobals "Lost" = some (some (.ref C2)) ∧
      PySem.W.exmAny K (.ref C) [.ref C1, .ref C2] = some true ∧ PySem.W.exmAny K (.ref C) [.ref C2, .ref C1] = some true := by
  have q := List.all_eq_true.mp h.b c m
  rw [n] at q
  simp only [Bool.and_eq_true] at q
  obtain ⟨⟨q1, q2⟩, q3⟩ := q
  refine ⟨q1, fun x hx => ?_, ?_⟩
  · have z := List.all_eq_true.mp q2 x hx
    split at z
    · rename_i u hu
      exact ⟨u, hu, of_decide_eq_true z⟩
    · cases z
  · split at q3
    · rename_i C1 C2 e1 e2
      simp only [Bool.and_eq_true, decide_eq_true_eq] at q3
      exact ⟨C1, C2, e1, e2, q3.1, q3.2⟩
    · cases q3
structure Tab (P : Program) (w : World) (K : PySem.W.Frag) (mg : Str → Option Value) (base : Heap) (k : Nat) (T : Tb) (G : Fns) : Prop where
  fn : ∀ (j : Nat) (i : FI), T.fns[j]? = some i → ∃ f fd, (FnG P w K mg base (k - i.up) f fd i.ps (spOf K (G.fn j)) ∧ i.up ≤ k) ∧ ((i.cl = none → mg i.name = some (.ref f)) ∧ ∀ cn, i.cl = some cn → ∃ C, PySem.W.nsIn K mainGlobals cn = some (some (.ref C)) ∧ Meth K C i.name f) ∧ PySem.W.keepIn K (.ref f) = true ∧ (i.ko = false → KBinds K fd i.ps [] (fun us _ => us) (fun vs _ => vs)) ∧
    ∀ p ∈ i.kws, KBinds K fd i.ps p.1 (gK .none p.1.length p.2) (gK .non p.1.length p.2)
  cls : ∀ c ∈ T.cls, ∃ C, PySem.W.nsIn K mainGlobals c.name = some (some (.ref C)) ∧ mg c.name = some (.ref C) ∧ Cls K C ∧ (∀ f ∈ c.attrs, NoAttr K C f) ∧ PySem.W.makesIn K C = true ∧ PySem.W.keepIn K (.ref C) = true ∧ isCB K C = true ∧ (c.ne = true → NeC K C)
  gl : ∀ (j : Nat) (x : Str), T.gls[j]? = some x → ∃ u v, mg x = some u ∧ RelV v u ∧ (∀ H η μ, RV K H η μ (G.gl j) v) ∧ ∀ a, v = .ref a → ∃ o, K.lookup a = some o ∧ o.cls = .type "tuple" ∧ o.dict = none
  bi : ∀ x ∈ T.bis, mg x = none
  ex : ∀ c ∈ T.x.exs, (∃ C, XCls P w K mg base c C) ∧ 4 ≤ k
  sub : ∀ c ∈ T.x.exs, ∀ c' ∈ xnm, ∀ C C', PySem.W.nsIn K mainGlobals c = some (some (.ref C)) → PySem.W.nsIn K mainGlobals c' = some (some (.ref C')) → PySem.W.exmOne K (.ref C') (.ref C) = some (c' == c)
  fx : ∀ (j : Nat) (i : FI), T.x.fxs[j]? = some i → ∃ f fd, (FnX P w K mg base (k - i.up) f fd i.ps (spxOf K (G.fx j)) ∧ i.up ≤ k) ∧ ((i.cl = none → mg i.name = some (.ref f)) ∧ ∀ cn, i.cl = some cn → ∃ C, PySem.W.nsIn K mainGlobals cn = some (some (.ref C)) ∧ Meth K C i.name f) ∧ PySem.W.keepIn K (.ref f) = true ∧ (i.ko = false → KBinds K fd i.ps [] (fun us _ => us) (fun vs _ => vs))
  xa : T.x.isn = [] ∨ XAll K mg T.x.isn
structure Here (T : Tb) (G : Fns) (k : Nat) (N : List Str) (X : Cx) (sc : SS) : Prop where
  tab : Tab X.prog X.w X.K X.mg X.base k T G
  nm : X.N = N
  nd : N.Nodup
  scp : X.env.scope = sc.s
  kind : sc.s.kind = .function
  calm : X.calm = true
  room : Room k X.A
  gd : X.A.guards = some []
  xe : PassesOwn (model X.prog X.w) X.A X.env X.xe
  fn : ∀ x, sc.o.names.lookup x = some .cell → X.fn x = true
  lam : T.lam = true → ∃ c P, LamX.TabB X.base X.mg c P ∧ X.env.code = .ref c ∧ X.env.qual ++ "<lambda>" = lamQ ∧ P ∈ tbs X.K
section
variable {T : Tb} {G : Fns} {k : Nat} {N : List Str} {X : Cx} {sc : SS}
theorem vis_of {x : Str} (h : visB sc x = true) : Vis sc.s x := by
  unfold visB at h; unfold Vis
  split at h <;> simp_all
theorem loc_of {x : Str} (h : locB sc x = true) : L2.Loc sc.s x ∧ (sc.o.names.lookup x = some .cell ∨ sc.s.names.lookup x = some .local) := by
  unfold locB at h; unfold L2.Loc
  split at h <;> simp_all
theorem gl_of {x : Str} (hx : Here T G k N X sc) (h : glB sc x = true) : Gl X x := by
  unfold glB at h
  show X.env.scope.names.lookup x = some .globalImplicit
  rw [hx.scp]
  split at h <;> simp_all
theorem pure_of {x : Str} (h : pureB sc x = true) : sc.s.names.lookup x = some .local := by
  unfold pureB at h
  split at h <;> simp_all
theorem dbg_of {x : Str} (h : notDbg x = true) : (x == ("__debug__" : Str)) = false ∧ (x == ("__classdict__" : Str)) = false := by
  unfold notDbg at h
  simpa using h
theorem no_star {c : CE} {e : Expr} {p : Pos} : okE T N sc c (.Starred e p) = true → False := by
  cases c <;> exact fun h => (Bool.false_ne_true h).elim
theorem no_set {c : CE} {es : List Expr} {n : Nat} {p : Pos} : okE T N sc c (.Set es n p) = true → False := by
  cases c <;> exact fun h => (Bool.false_ne_true h).elim
theorem star_of {c : CE} {e : Expr} {es : List Expr} {env : Env} (h : okE T N sc c e = true) : starEach (e :: es) env = (false, eval e env) :: starEach es env := by
  cases e <;> first | rfl | exact (no_star h).elim
theorem mark_of {c : CE} {e : Expr} {op : CmpOp} (h : okE T N sc c e = true) : behindInMarks op e = false := by
  cases e <;> first | rfl | exact (no_set h).elim
theorem stars_of {pos : Pos} {env : Env} : ∀ {es : List CE} {es' : List Expr}, okEs T N sc es es' = true → (backTo pos (starEach es' env)).any (·.1) = false
  | [], [], _ => rfl
  | [], _ :: _, h => by simp [okEs] at h
  | _ :: _, [], h => by simp [okEs] at h
  | e :: es, e' :: es', h => by
    simp only [okEs, Bool.and_eq_true] at h
    rw [star_of h.1]
    have ih := stars_of (pos := pos) (env := env) h.2
    simpa [backTo] using ih
theorem sub_of {o i : Expr} {pos : Pos} {env : Env} (h : notSl i = true) : ∀ v, assign (.Subscript o i pos) env v = (do
      let ov ← holding [v] (eval o env)
      let iv ← holding [v, ov] (eval i env)
      standAt pos
      holding [v, ov, iv] (setItem ov iv v)
      release [v, ov, iv] []) := by
  cases i <;> first | (intro v; rfl) | (simp [notSl] at h)
theorem plain_of {i : Expr} (h : notSl i = true) : PlainIx i := by
  cases i <;> first | (intro o j; rfl) | (simp [notSl] at h)
theorem base_of {o : Expr} {m : Str} {env : Env} (h : notCall o = true) : attributeBase o m env (eval o env) = eval o env := by
  cases o <;> first | rfl | (simp [notCall] at h)
theorem swaps_of {e : Expr} {t : Option Expr} {l : Nat} {env : Env} (h : notComp e = true) : swapsWith e t l env = pure false := by
  cases e <;> first | rfl | (simp [notComp] at h)
theorem block_of (hx : Here T G k N X sc) : X.env.blockKind = .function := by
  unfold Env.blockKind
  rw [hx.scp, hx.kind]; rfl
theorem swN_of (hx : Here T G k N X sc) {ts vs : List Expr} {r : Option (List Str)} {k1 k2 : Nat} {p1 p2 : Pos} (h : swN sc ts vs = some r) : swappedStores [.Tuple ts k1 p1] (.Tuple vs k2 p2) X.env = pure r := by
  have hb := block_of hx
  unfold swN at h
  unfold swappedStores
  have hk : ∀ id : Str, X.env.kindOf id = sc.s.names.lookup id := fun id => by
    show X.env.scope.names.lookup id = _
    rw [hx.scp]
  simp only [hb, hk, bne_self_eq_false, Bool.or_false]
  split at h
  · rename_i h1
    cases h
    exact if_pos h1
  · rename_i h1
    refine (if_neg h1).trans ?_
    split at h
    · rename_i h2
      cases h
      exact if_pos h2
    · rename_i h2
      refine (if_neg h2).trans ?_
      simp only at h
      split at h
      · rename_i h3
        cases h
        exact if_pos h3
      · rename_i h3
        refine (if_neg h3).trans ?_
        split at h
        · rename_i h4
          cases h
          exact if_pos h4
        · rename_i h4
          refine (if_neg h4).trans ?_
          split at h
          · cases h
          · rename_i h5
            cases h
            exact if_neg h5
theorem noSwap_of (hx : Here T G k N X sc) {t e : Expr} (h : noSwap sc t e = true) : swappedStores [t] e X.env = pure none := by
  cases t <;> first | rfl | (cases e <;> first | rfl | (exact (Bool.false_ne_true h).elim) | skip)
  unfold noSwap at h
  simp only at h
  split at h
  · rename_i h1; exact swN_of hx h1
  · cases h
end
end DL
namespace DL
open PySem PySem.Spec PyProof.Rows L2
section
variable {T : Tb} {G : Fns} {k : Nat} {N : List Str}
theorem Here.blk {X : Cx} {sc : SS} {scope : Scope} (hx : Here T G k N X sc) (hk : scope.kind = .function) (s : Shared) (H : Hp) (C : Addr) (cl : List (Str × Addr)) (fp : List Addr) :
    Here T G k N (X.blk s H scope (compEnvC scope cl C X.env) fp) ⟨relS scope sc.s, scope⟩ :=
  ⟨hx.tab, hx.nm, hx.nd, by rw [← hx.scp]; rfl, hk, hx.calm, hx.room, hx.gd, PassesOwn.never, fun x h => by show (scope.names.lookup x == some .cell) = true; rw [h]; rfl, hx.lam⟩
theorem grow_hidden {μ μ' : List Addr} {H H' : Hp} {D : Addr} {o : HO} (g : Grow μ H μ' H') (h : H D = none) : Grow μ H μ' (upd H' D o) :=
  ⟨g.pre, fun a u t e n => ⟨by rw [upd_ne (ne_of_none e h)]; exact (g.keep a u t e n).1, (g.keep a u t e n).2⟩, fun a xs e => by rw [upd_ne (ne_of_none e h)]; exact g.tup a xs e, fun a u w e => by rw [upd_ne (ne_of_none e h)]; exact g.frz a u w e⟩
theorem ext_hidden {η μ μ' : List Addr} {H H' : Hp} {D : Addr} (g : Grow μ H μ' H') (h : H D = none) : Ext η μ H (D :: η) μ' H' :=
  ⟨g.pre, fun a u t e n m => ⟨(g.keep a u t e n).1, (g.keep a u t e n).2, fun z => by
    rcases List.mem_cons.mp z with z | z
    · exact ne_of_none e h z
    · exact m z⟩, g.tup, g.frz⟩
theorem bool_ext {X : Cx} {op : BoolOp} {vs : List Expr} {p : Pos} {t : TT} (h : PT X (.BoolOp op vs p) t) : PW X (.BoolOp op vs p) t := ⟨fun whole pins s σ H Q I q => by
  have := h.run pins s σ H Q I q
  simp only [PySem.isTrue] at this ⊢
  exact this⟩
/-- the reading of a comprehension -/
theorem lc_of {X : Cx} {η μ : List Addr} {ρ : DEnv} {S : DStore} {σ : L2.St} {H : Hp} {m : Bool} {elt : CE} {tg : CT} {it : CI} {ifs : List CB} {own : List Nat} {QD : QE} {Q : VK}
    (hE : RE X.K H η μ ρ σ) (hR : Rp X.K η μ S H) (hs : tg.simple = true) (hsl : ∀ i ∈ tg.slots, i ∈ own) (hT : wpE G (.lc m elt tg it ifs own) ρ S QD) (hQ : ∀ v H', Post X.K η μ H QD v H' → Q v H') :
    tLc (iOf X.K (wpI G it)) (gS X.K tg) (bOf X.K (wpBs G ifs)) (tOf X.K (wpE G elt)) own σ H Q := by
  simp only [wpE] at hT
  refine ⟨η, μ, ρ, S, _, hE, hR, hT, fun J H1 items I S1 μ1 g1 r1 hW jok D hD => ?_⟩
  obtain ⟨W, w0, wst, hlen, turn, fin⟩ := hW
  have hDη : D ∉ η := (r1.fresh hD).2
  refine ⟨fun i m H' => i ≤ items.length ∧ m = items.length - i ∧ ∃ acc vs S' μ', Grow μ1 H1 μ' H' ∧ Rp X.K (D :: η) μ' S' H' ∧ H' D = some (.lst vs) ∧ RVs X.K H' (D :: η) μ' acc vs ∧ W i acc S',
    ⟨items.length, Nat.zero_le _, rfl, [], [], S1, μ1, grow_new r1 hD, rp_hide r1 hD, upd_same, .nil, w0⟩, ?_⟩
  rintro i mm H' ⟨hi, rfl, acc, vs, S', μ', gg, rr, hDv, rvs, w⟩
  obtain ⟨hI, hacc, _⟩ := wst i acc S' w
  obtain ⟨jgo, jstop⟩ := jok i (D :: η) μ' S' H' (ext_hidden gg hD) rr hI
  by_cases hlt : i < items.length
  · right
    obtain ⟨go, yl⟩ := jgo hlt
    refine ⟨go, fun H'' => i + 1 ≤ items.length ∧ ∃ acc vs S' μ', Grow μ1 H1 μ' H'' ∧ Rp X.K (D :: η) μ' S' H'' ∧ H'' D = some (.lst vs) ∧ RVs X.K H'' (D :: η) μ' acc vs ∧ W (i + 1) acc S',
      fun H'' hN => ⟨items.length - (i + 1), by omega, hN.1, rfl, hN.2⟩, fun x H'' hy => ?_⟩
    obtain ⟨gy, ry, d, hd, rvd⟩ := yl x H'' hy
    have hE2 : RE X.K H'' (D :: η) μ' ρ σ := ((hE.ext g1.ext).ext (ext_hidden gg hD)).ext gy.ext
    refine gS_run tg hs ry (re_wipe hE2 own) rvd (turn i d acc S' w hd) fun ρ2 σ2 e2 l2 k2 q2 => ⟨?_, ?_⟩
    · refine wipe_ext (by rw [l2, wipe_length]) fun j hj => ?_
      exact k2 j fun z => hj (hsl j z)
    · have hDy : H'' D = some (.lst vs) := (gy.keep D _ (by first | exact nt_lst | exact nt_dK) hDv (rr.hid D (by simp)).1).1
      refine useB e2 ry q2 fun b S3 μ3 H3 g3 r3 e3 q3 => ?_
      have hD3 : H3 D = some (.lst vs) := (g3.keep D _ (by first | exact nt_lst | exact nt_dK) hDy (ry.hid D (by simp)).1).1
      cases b with
      | true =>
        simp only [if_true] at q3 ⊢
        refine use e3 r3 q3 fun y S4 v4 μ4 H4 g4 r4 e4 rv4 q4 => ?_
        have hD4 : H4 D = some (.lst vs) := (g4.keep D _ (by first | exact nt_lst | exact nt_dK) hD3 (r3.hid D (by simp)).1).1
        have gAll : Grow μ1 H1 μ4 H4 := ((gg.trans gy).trans g3).trans g4
        have rvs4 : RVs X.K H4 (D :: η) μ4 acc vs := ((rvs.ext gy.ext).ext g3.ext).ext g4.ext
        refine ⟨vs, hD4, by rw [← rvs.length]; omega, hlt, acc ++ [y], vs ++ [v4], S4, μ4, grow_hidden gAll hD, rp_hset r4, upd_same, ?_, q4⟩
        exact (rvs4.append (.cons rv4 .nil)).ext (ext_hset r4)
      | false =>
        simp only [Bool.false_eq_true, if_false] at q3 ⊢
        exact ⟨hlt, acc, vs, S3, μ3, (gg.trans gy).trans g3, r3, hD3, (rvs.ext gy.ext).ext g3.ext, q3⟩
  · left
    have hi' : i = items.length := by omega
    subst hi'
    refine ⟨jstop (Nat.le_refl _) (Nat.le_refl _), hQ _ _ ?_⟩
    have f := fin acc S' w
    cases m with
    | true =>
      refine ⟨_, _, _, g1.trans ⟨?_, fun a o t e n => ⟨(gg.keep a o t e n).1, fun z => ?_⟩, gg.tup, gg.frz⟩, rp_showCell hDη rr hDv rvs, .ref (by rw [← rr.len]; simp), f⟩
      · obtain ⟨more, rfl⟩ := gg.pre
        exact ⟨more ++ [D], by simp⟩
      · rcases List.mem_append.mp z with z | z
        · exact (gg.keep a o t e n).2 z
        · exact ne_of_none e hD (by simpa using z)
    | false => exact ⟨_, _, _, g1.trans gg, rp_show rr, .lst (rr.hid D (by simp)).1 hDη hDv (rvs.ext ext_show), f⟩
/-- the reading of a dict's comprehension -/
theorem dc_of {X : Cx} {η μ : List Addr} {ρ : DEnv} {S : DStore} {σ : L2.St} {H : Hp} {key val : CE} {tg : CT} {it : CI} {own : List Nat} {QD : QE} {Q : VK}
    (hE : RE X.K H η μ ρ σ) (hR : Rp X.K η μ S H) (hs : tg.simple = true) (hsl : ∀ i ∈ tg.slots, i ∈ own) (hT : wpE G (.dcomp key val tg it own) ρ S QD) (hQ : ∀ v H', Post X.K η μ H QD v H' → Q v H') :
    tDc (iOf X.K (wpI G it)) (gS X.K tg) tYes (tOf X.K (wpE G key)) (tOf X.K (wpE G val)) own σ H Q := by
  simp only [wpE] at hT
  refine ⟨η, μ, ρ, S, _, hE, hR, hT, fun J H1 items I S1 μ1 g1 r1 hW jok D hD => ?_⟩
  obtain ⟨W, w0, wst, turn, fin⟩ := hW
  have hDη : D ∉ η := (r1.fresh hD).2
  refine ⟨fun i m H' => i ≤ items.length ∧ m = items.length - i ∧ ∃ acc vs S' μ', Grow μ1 H1 μ' H' ∧ Rp X.K (D :: η) μ' S' H' ∧ H' D = some (.dK vs) ∧ RKs X.K H' (D :: η) μ' acc vs ∧ W i acc S',
    ⟨items.length, Nat.zero_le _, rfl, [], [], S1, μ1, grow_new r1 hD, rp_hideO r1 (fun _ z => nomatch z) (fun _ _ z => nomatch z) hD, upd_same, .nil, w0⟩, ?_⟩
  rintro i mm H' ⟨hi, rfl, acc, vs, S', μ', gg, rr, hDv, rvs, w⟩
  obtain ⟨hI, _⟩ := wst i acc S' w
  obtain ⟨jgo, jstop⟩ := jok i (D :: η) μ' S' H' (ext_hidden gg hD) rr hI
  by_cases hlt : i < items.length
  · right
    obtain ⟨go, yl⟩ := jgo hlt
    refine ⟨go, fun H'' => i + 1 ≤ items.length ∧ ∃ acc vs S' μ', Grow μ1 H1 μ' H'' ∧ Rp X.K (D :: η) μ' S' H'' ∧ H'' D = some (.dK vs) ∧ RKs X.K H'' (D :: η) μ' acc vs ∧ W (i + 1) acc S',
      fun H'' hN => ⟨items.length - (i + 1), by omega, hN.1, rfl, hN.2⟩, fun x H'' hy => ?_⟩
    obtain ⟨gy, ry, d, hd, rvd⟩ := yl x H'' hy
    have hE2 : RE X.K H'' (D :: η) μ' ρ σ := ((hE.ext g1.ext).ext (ext_hidden gg hD)).ext gy.ext
    refine gS_run tg hs ry (re_wipe hE2 own) rvd (turn i d acc S' w hd) fun ρ2 σ2 e2 l2 k2 q2 => ⟨?_, ?_⟩
    · refine wipe_ext (by rw [l2, wipe_length]) fun j hj => ?_
      exact k2 j fun z => hj (hsl j z)
    · have hDy : H'' D = some (.dK vs) := (gy.keep D _ (by first | exact nt_lst | exact nt_dK) hDv (rr.hid D (by simp)).1).1
      simp only [tYes, if_true]
      refine use e2 ry q2 fun y S3 v3 μ3 H3 g3 r3 e3 rv3 q3 => ?_
      have hD3 : H3 D = some (.dK vs) := (g3.keep D _ (by first | exact nt_lst | exact nt_dK) hDy (ry.hid D (by simp)).1).1
      refine use e3 r3 q3 fun z S4 v4 μ4 H4 g4 r4 e4 rv4 q4 => ?_
      have hD4 : H4 D = some (.dK vs) := (g4.keep D _ (by first | exact nt_lst | exact nt_dK) hD3 (r3.hid D (by simp)).1).1
      obtain ⟨k, hk, hlen, q⟩ := q4
      have gAll : Grow μ1 H1 μ4 H4 := ((gg.trans gy).trans g3).trans g4
      have rvs4 : RKs X.K H4 (D :: η) μ4 acc vs := ((rvs.ext gy.ext).ext g3.ext).ext g4.ext
      refine ⟨vs, k, keyOf_rv rv3 hk, hD4, by rw [← rvs.length]; exact hlen, hlt, putD acc k z, putK vs k v4, S4, μ4, grow_hidden gAll hD, rp_hsetO (fun _ z => nomatch z) (fun _ _ z => nomatch z) r4, upd_same, ?_, q⟩
      exact (rvs4.put rv4).ext (ext_hset r4)
  · left
    have hi' : i = items.length := by omega
    subst hi'
    refine ⟨jstop (Nat.le_refl _) (Nat.le_refl _), hQ _ _ ?_⟩
    have f := fin acc S' w
    refine ⟨_, _, _, g1.trans ⟨?_, fun a o t e n => ⟨(gg.keep a o t e n).1, fun z => ?_⟩, gg.tup, gg.frz⟩, rp_showCellK hDη rr hDv rvs, .ref (by rw [← rr.len]; simp), f⟩
    · obtain ⟨more, rfl⟩ := gg.pre
      exact ⟨more ++ [D], by simp⟩
    · rcases List.mem_append.mp z with z | z
      · exact (gg.keep a o t e n).2 z
      · exact ne_of_none e hD (by simpa using z)
end
end DL
namespace DL
open PySem PySem.Spec PyProof.Rows L2
section
variable {T : Tb} {G : Fns} {k : Nat} {N : List Str}
theorem rvs_intsD {K : PySem.W.Frag} {H : Hp} {η μ : List Addr} : ∀ ns : List Int, RVs K H η μ (ns.map D.int) (ns.map V.int)
  | [] => .nil
  | n :: ns => .cons (.int n) (rvs_intsD ns)
theorem nt_set {w : World} {a : Addr} {S : Int → Bool} {n : Nat} : NT (SetO w a S n) := fun _ z => nomatch z
theorem scan64 {n : Nat} (h : n < 64) : n + 1 < scanBound := Nat.lt_of_le_of_lt h (by decide)
/-- sorted(a set's comprehension) -/
noncomputable def rSort1 (w : World) (Q : VK) : VK := fun x H => rSortedSet w [x] H Q
theorem sc_of {X : Cx} {η μ : List Addr} {ρ : DEnv} {S : DStore} {σ : L2.St} {H : Hp} {m : Bool} {elt : CE} {tg : CT} {it : CI} {ifs : List CB} {own : List Nat} {QD : QE} {Q : VK}
    (hE : RE X.K H η μ ρ σ) (hR : Rp X.K η μ S H) (hs : tg.simple = true) (hsl : ∀ i ∈ tg.slots, i ∈ own) (hT : wpE G (.scS m elt tg it ifs own) ρ S QD) (hQ : ∀ v H', Post X.K η μ H QD v H' → Q v H') :
    tScI X.w (iOf X.K (wpI G it)) (gS X.K tg) (bOf X.K (wpBs G ifs)) (tOf X.K (wpE G elt)) own σ H (rSort1 X.w Q) := by
  simp only [wpE] at hT
  refine ⟨η, μ, ρ, S, _, hE, hR, hT, fun J H1 items I S1 μ1 g1 r1 hW jok D hD => ?_⟩
  obtain ⟨hfew, W, w0, wst, hlen, turn, fin⟩ := hW
  have hDη : D ∉ η := (r1.fresh hD).2
  refine ⟨fun i m H' => i ≤ items.length ∧ m = items.length - i ∧ ∃ (ns : List Int) (F : Int → Bool) (n : Nat) (S' : DStore) (μ' : List Addr), Grow μ1 H1 μ' H' ∧ Rp X.K (D :: η) μ' S' H' ∧ H' D = some (SetO X.w D F n) ∧ (∀ j, F j = true ↔ j ∈ ns) ∧ n ≤ i ∧ W i (ns.map DL.D.int) S',
    ⟨items.length, Nat.zero_le _, rfl, [], fun _ => false, 0, S1, μ1, grow_new r1 hD, rp_hideO r1 (fun _ z => nomatch z) (fun _ _ z => nomatch z) hD, upd_same, by simp, Nat.le_refl _, w0⟩, ?_⟩
  rintro i mm H' ⟨hi, rfl, ns, F, n, S', μ', gg, rr, hDv, hF, hn, w⟩
  obtain ⟨hI, hacc, _⟩ := wst i _ S' w
  obtain ⟨jgo, jstop⟩ := jok i (D :: η) μ' S' H' (ext_hidden gg hD) rr hI
  by_cases hlt : i < items.length
  · right
    obtain ⟨go, yl⟩ := jgo hlt
    refine ⟨go, fun H'' => i + 1 ≤ items.length ∧ ∃ (ns : List Int) (F : Int → Bool) (n : Nat) (S' : DStore) (μ' : List Addr), Grow μ1 H1 μ' H'' ∧ Rp X.K (D :: η) μ' S' H'' ∧ H'' D = some (SetO X.w D F n) ∧ (∀ j, F j = true ↔ j ∈ ns) ∧ n ≤ i + 1 ∧ W (i + 1) (ns.map DL.D.int) S',
      fun H'' hN => ⟨items.length - (i + 1), by omega, hN.1, rfl, hN.2⟩, fun x H'' hy => ?_⟩
    obtain ⟨gy, ry, d, hd, rvd⟩ := yl x H'' hy
    have hE2 : RE X.K H'' (D :: η) μ' ρ σ := ((hE.ext g1.ext).ext (ext_hidden gg hD)).ext gy.ext
    refine gS_run tg hs ry (re_wipe hE2 own) rvd (turn i d _ S' w hd) fun ρ2 σ2 e2 l2 k2 q2 => ⟨?_, ?_⟩
    · refine wipe_ext (by rw [l2, wipe_length]) fun j hj => ?_
      exact k2 j fun z => hj (hsl j z)
    · have hDy : H'' D = some (SetO X.w D F n) := (gy.keep D _ nt_set hDv (rr.hid D (by simp)).1).1
      refine useB e2 ry q2 fun b S3 μ3 H3 g3 r3 e3 q3 => ?_
      have hD3 : H3 D = some (SetO X.w D F n) := (g3.keep D _ nt_set hDy (ry.hid D (by simp)).1).1
      cases b with
      | true =>
        simp only [if_true] at q3 ⊢
        refine use e3 r3 q3 fun y S4 v4 μ4 H4 g4 r4 e4 rv4 q4 => ?_
        have hD4 : H4 D = some (SetO X.w D F n) := (g4.keep D _ nt_set hD3 (r3.hid D (by simp)).1).1
        have gAll : Grow μ1 H1 μ4 H4 := ((gg.trans gy).trans g3).trans g4
        obtain ⟨c, rfl, q5⟩ := q4
        cases rv4
        refine ⟨c, F, n, rfl, hD4, scan64 (by omega), hlt, ns ++ [c], _, _, S4, μ4, grow_hidden gAll hD, rp_hsetO (fun _ z => nomatch z) (fun _ _ z => nomatch z) r4, upd_same, fun j => ?_, ?_, ?_⟩
        · simp only [Bool.or_eq_true, decide_eq_true_eq, List.mem_append, List.mem_singleton, hF j]
        · split <;> omega
        · rw [List.map_append]
          exact q5
      | false =>
        simp only [Bool.false_eq_true, if_false] at q3 ⊢
        exact ⟨hlt, ns, F, n, S3, μ3, (gg.trans gy).trans g3, r3, hD3, hF, Nat.le_succ_of_le hn, q3⟩
  · left
    have hi' : i = items.length := by omega
    subst hi'
    refine ⟨jstop (Nat.le_refl _) (Nat.le_refl _), D, F, n, rfl, hDv, by omega, fun ns' p hp hm _ hpn => hQ _ _ ?_⟩
    have f := fin _ S' w ns ns' rfl hp fun k => (hm k).trans (hF k)
    exact (new_lst (rp_show rr) (vs := ns'.map V.int) (rvs_intsD ns') f p hpn).from (g1.trans gg)
end
section
variable {K : PySem.W.Frag} {η μ : List Addr} {S : DStore} {H : Hp}
theorem k3_vals {st : K3} {vs : List V} (q : RVs K H η μ [.int st.1, .bl st.2.1, .int st.2.2] vs) : vs = v3 st := by
  cases q with
  | cons a q =>
    cases q with
    | cons b q =>
      cases q with
      | cons c q =>
        cases q
        cases a
        cases b
        cases c
        rfl
theorem put3_map (xs : List (K3 × Addr)) (k : K3) (b : Addr) : (put3 xs k b).map (·.1) = put3D (xs.map (·.1)) k := by
  unfold put3 put3D
  split
  · rfl
  · simp
theorem put3_ks {xs : List (K3 × Addr)} {k : K3} {b : Addr} (q : Ks3 K H xs) (hb : SqT K H b (v3 k)) : Ks3 K H (put3 xs k b) := fun x hx => by
  unfold put3 at hx
  split at hx
  · exact q x hx
  · rcases List.mem_append.mp hx with h | h
    · exact q x h
    · rw [List.mem_singleton.mp h]
      exact hb
end
/-- the reading of a comprehension of states -/
theorem ks3_grow {K : PySem.W.Frag} {μ μ' : List Addr} {H H' : Hp} {xs : List (K3 × Addr)} (g : Grow μ H μ' H') (h : Ks3 K H xs) : Ks3 K H' xs := h.ext (g.ext (η := []))
theorem nt_std {a : Addr} {xs : List (K3 × Addr)} : NT (StD a xs) := fun _ z => nomatch z
theorem dcs_of {X : Cx} {η μ : List Addr} {ρ : DEnv} {S : DStore} {σ : L2.St} {H : Hp} {key val : CE} {tg : CT} {it : CI} {ifs : List CB} {own : List Nat} {QD : QE} {Q : VK}
    (hE : RE X.K H η μ ρ σ) (hR : Rp X.K η μ S H) (hs : tg.simple = true) (hsl : ∀ i ∈ tg.slots, i ∈ own) (hT : wpE G (.dcS key val tg it ifs own) ρ S QD) (hQ : ∀ v H', Post X.K η μ H QD v H' → Q v H') :
    tDcS X.K (iOf X.K (wpI G it)) (gS X.K tg) (bOf X.K (wpBs G ifs)) (tOf X.K (wpE G key)) (tOf X.K (wpE G val)) own σ H Q := by
  simp only [wpE] at hT
  refine ⟨η, μ, ρ, S, _, hE, hR, hT, fun J H1 items I S1 μ1 g1 r1 hW jok D hD => ?_⟩
  obtain ⟨W, w0, wst, hlen, turn, fin⟩ := hW
  have hDη : D ∉ η := (r1.fresh hD).2
  refine ⟨fun i m H' => i ≤ items.length ∧ m = items.length - i ∧ ∃ (ks : List K3) (xs : List (K3 × Addr)) (S' : DStore) (μ' : List Addr), Grow μ1 H1 μ' H' ∧ Rp X.K (D :: η) μ' S' H' ∧ H' D = some (StD D xs) ∧ Ks3 X.K H' xs ∧ xs.map (·.1) = ks.foldl put3D [] ∧ xs.length ≤ i ∧ W i (ks.map k3D) S',
    ⟨items.length, Nat.zero_le _, rfl, [], [], S1, μ1, grow_new r1 hD, rp_hideO r1 (fun _ z => nomatch z) (fun _ _ z => nomatch z) hD, upd_same, (fun _ z => nomatch z), rfl, Nat.le_refl _, w0⟩, ?_⟩
  rintro i mm H' ⟨hi, rfl, ks, xs, S', μ', gg, rr, hDv, hK, hM, hn, w⟩
  obtain ⟨hI, hacc, _⟩ := wst i _ S' w
  obtain ⟨jgo, jstop⟩ := jok i (D :: η) μ' S' H' (ext_hidden gg hD) rr hI
  by_cases hlt : i < items.length
  · right
    obtain ⟨go, yl⟩ := jgo hlt
    refine ⟨go, fun H'' => i + 1 ≤ items.length ∧ ∃ (ks : List K3) (xs : List (K3 × Addr)) (S' : DStore) (μ' : List Addr), Grow μ1 H1 μ' H'' ∧ Rp X.K (D :: η) μ' S' H'' ∧ H'' D = some (StD D xs) ∧ Ks3 X.K H'' xs ∧ xs.map (·.1) = ks.foldl put3D [] ∧ xs.length ≤ i + 1 ∧ W (i + 1) (ks.map k3D) S',
      fun H'' hN => ⟨items.length - (i + 1), by omega, hN.1, rfl, hN.2⟩, fun x H'' hy => ?_⟩
    obtain ⟨gy, ry, d, hd, rvd⟩ := yl x H'' hy
    have hE2 : RE X.K H'' (D :: η) μ' ρ σ := ((hE.ext g1.ext).ext (ext_hidden gg hD)).ext gy.ext
    refine gS_run tg hs ry (re_wipe hE2 own) rvd (turn i d _ S' w hd) fun ρ2 σ2 e2 l2 k2 q2 => ⟨?_, ?_⟩
    · refine wipe_ext (by rw [l2, wipe_length]) fun j hj => ?_
      exact k2 j fun z => hj (hsl j z)
    · have hDy : H'' D = some (StD D xs) := (gy.keep D _ nt_std hDv (rr.hid D (by simp)).1).1
      refine useB e2 ry q2 fun b S3 μ3 H3 g3 r3 e3 q3 => ?_
      have hD3 : H3 D = some (StD D xs) := (g3.keep D _ nt_std hDy (ry.hid D (by simp)).1).1
      cases b with
      | true =>
        simp only [if_true] at q3 ⊢
        refine use e3 r3 q3 fun y S4 v4 μ4 H4 g4 r4 e4 rv4 q4 => ?_
        have hD4 : H4 D = some (StD D xs) := (g4.keep D _ nt_std hD3 (r3.hid D (by simp)).1).1
        refine use e4 r4 q4 fun z S5 v5 μ5 H5 g5 r5 e5 rv5 q5 => ?_
        have hD5 : H5 D = some (StD D xs) := (g5.keep D _ nt_std hD4 (r4.hid D (by simp)).1).1
        have gAll : Grow μ1 H1 μ5 H5 := (((gg.trans gy).trans g3).trans g4).trans g5
        obtain ⟨rfl, st, rfl, q6⟩ := q5
        have hK5 : Ks3 X.K H5 xs := ks3_grow g5 (ks3_grow g4 (ks3_grow g3 (ks3_grow gy hK)))
        cases rv5
        cases rv4.ext g5.ext with
        | tup hq1 qs =>
          have ev := k3_vals (st := st) qs
          subst ev
          refine ⟨xs, _, st, rfl, rfl, hD5, hK5, hq1, by omega, hlt, ks ++ [st], put3 xs st _, S5, μ5, grow_hidden gAll hD, rp_hsetO (fun _ z => nomatch z) (fun _ _ z => nomatch z) r5, upd_same, ?_, ?_, ?_, ?_⟩
          · exact (put3_ks hK5 hq1).ext (ext_hset r5)
          · rw [put3_map, hM, List.foldl_append]
            rfl
          · exact Nat.le_trans (put3_len ..) (Nat.succ_le_succ hn)
          · rw [List.map_append]
            exact q6
      | false =>
        simp only [Bool.false_eq_true, if_false] at q3 ⊢
        exact ⟨hlt, ks, xs, S3, μ3, (gg.trans gy).trans g3, r3, hD3, ks3_grow g3 (ks3_grow gy hK), hM, Nat.le_succ_of_le hn, q3⟩
  · left
    have hi' : i = items.length := by omega
    subst hi'
    refine ⟨jstop (Nat.le_refl _) (Nat.le_refl _), hQ _ _ ?_⟩
    have f := fin _ S' w ks rfl
    rw [← hM] at f
    refine ⟨_, _, _, g1.trans ⟨?_, fun a o t e n => ⟨(gg.keep a o t e n).1, fun z => ?_⟩, gg.tup, gg.frz⟩, rp_showCell3 hDη rr hDv hK, .ref (by rw [← rr.len]; simp), f⟩
    · obtain ⟨more, rfl⟩ := gg.pre
      exact ⟨more ++ [D], by simp⟩
    · rcases List.mem_append.mp z with z | z
      · exact (gg.keep a o t e n).2 z
      · exact ne_of_none e hD (by simpa using z)
section
variable {X : Cx} {x : Str} {p pos : Pos} {t : TE} {e : Expr}
theorem pe_sort1 (hc : X.calm = true) (hg : Gl X x) (hn : x = "sorted") (hm : X.mg x = none) (he : PE X e t) (hs : starEach [e] X.env = (false, eval e X.env) :: starEach [] X.env) : PE X (.Call (.Name x p) [e] [] pos) (fun σ H Q => t σ H (rSort1 X.w Q)) := by
  subst hn
  refine PE.imp (pe_callB (cr_sortedSet hc) hg hm (by decide +kernel) (pa_cons he pa_nil hs) (by decide) (by decide) hs rfl) fun σ H Q h => ?_
  exact h
theorem nodup_len {α : Type} [BEq α] [LawfulBEq α] : ∀ {l M : List α}, l.Nodup → (∀ x ∈ l, x ∈ M) → l.length ≤ M.length
  | [], _, _, _ => Nat.zero_le _
  | x :: l, M, h, hM => by
    obtain ⟨h1, h2⟩ := List.nodup_cons.mp h
    have hx := hM x (by simp)
    have ih := nodup_len (M := M.erase x) h2 fun y hy => (List.mem_erase_of_ne (a := y) (b := x) (fun z => h1 (by rw [← z]; exact hy))).mpr (hM y (List.mem_cons_of_mem _ hy))
    rw [List.length_erase_of_mem hx] at ih
    have : 0 < M.length := List.length_pos_of_mem hx
    rw [List.length_cons]
    omega
theorem setR_le {w : World} {h : Heap} {a : Addr} {ns M : List Int} {n : Nat} (R : SetR w h a (fun j => decide (j ∈ ns)) n) (hM : ∀ k ∈ ns, k ∈ M) : n ≤ M.length := by
  obtain ⟨o, es, ep, t, _, _, _, _, nd, hm, _, _, rfl, _⟩ := R
  have := nodup_len (M := M) nd fun k hk => hM k (by simpa using (hm k).mpr hk)
  simpa using this
/-- set(a list of ints) -/
noncomputable def rSetI (K : PySem.W.Frag) (w : World) : List V → Hp → VK → Prop := fun xs H Q => ∃ (l : Addr) (ns : List Int), xs = [.ref l] ∧ SqL K H l (ns.map V.int) ∧ ns.length < 4000 ∧ ∀ (p : Addr) (F : Int → Bool) (n : Nat), H p = none → (∀ j, F j = true ↔ j ∈ ns) → (∀ M : List Int, (∀ k ∈ ns, k ∈ M) → n ≤ M.length) → Q (.ref p) (upd H p (SetO w p F n))
theorem cr_setI (hc : X.calm = true) : CallR X (.type "set") (rSetI X.K X.w) := by
  intro pins s σ H xs us Q I r h
  obtain ⟨l, ns, rfl, hl, h64, q⟩ := h
  obtain ⟨u, rfl, ru⟩ := vals1 r
  cases ru
  obtain ⟨its, rv, p, hz⟩ := I.list hl
  refine call_set_lstI ns (I.ok.hd hc) p.isList (by simpa using ints_of_vals rv) (Nat.lt_of_le_of_lt h64 (by decide)) fun h' tk c R hc' hk => ?_
  have fr := I.hok.fresh (Nat.le_refl s.heap.objs.size)
  exact ⟨.ref s.heap.objs.size, _, I.laid (a := s.heap.objs.size) (o := SetO X.w s.heap.objs.size (fun j => decide (j ∈ ns)) c) (t' := tk) hk (Nat.le_refl _) (setO_new R), rfl, q _ _ c fr (fun j => by simp) fun M hM => setR_le R hM⟩
end
section
variable {K : PySem.W.Frag} {η μ : List Addr} {S : DStore} {H : Hp}
theorem sts_of (r : Rp K η μ S H) {n : Nat} {v : V} {ks : List K3} (rv : RV K H η μ (.ref n) v) (e : stsOf S n = some ks) : ∃ a xs, v = .ref a ∧ ks = xs.map (·.1) ∧ Rd H a (StD a xs) ∧ Ks3 K H xs := by
  cases rv with
  | @ref n a h =>
    unfold stsOf at e
    cases q : S[n]? with
    | none => rw [q] at e; cases e
    | some c =>
      obtain ⟨b, hb, hc⟩ := r.cell n c q
      rw [h] at hb; cases hb
      rw [q] at e
      cases c with
      | sts ys =>
        cases e
        obtain ⟨xs, e1, e2, e3⟩ := hc
        exact ⟨a, xs, rfl, e2.symm, .inl e1, e3⟩
      | stl ys =>
        cases e
        obtain ⟨ob, xs, e1, e2, e3⟩ := hc
        exact ⟨a, xs, rfl, e2.symm, .inr ⟨ob, e1⟩, e3⟩
      | _ => cases e
theorem ins_of (r : Rp K η μ S H) {n : Nat} {v : V} {cn : Str} {fs : List (Str × D)} (rv : RV K H η μ (.ref n) v) (e : S[n]? = some (.ins cn fs)) : ∃ a C dx vs, v = .ref a ∧ PySem.W.nsIn K mainGlobals cn = some (some (.ref C)) ∧ H a = some (.ins C dx vs) ∧ RKs K H η μ fs vs := by
  cases rv with
  | @ref n a h =>
    obtain ⟨b, hb, C, dx, vs, h1, h2, h3⟩ := r.cell n _ e
    rw [h] at hb; cases hb
    exact ⟨a, C, dx, vs, rfl, h1, h2, h3⟩
theorem made_of {S1 : DStore} {H1 H' : Hp} {x : Addr} {v : V} {QD : QE} {Q : VK} (r1 : Rp K η μ S1 H) (gn : Grow μ H (μ ++ [x]) H1) (p : Post K η (μ ++ [x]) H1 (fun v S2 => v = .non ∧ QD (.ref S1.length) S2) v H')
    (hQ : ∀ v H', Post K η μ H QD v H' → Q v H') : v = .non ∧ Q (.ref x) H' := by
  obtain ⟨d, S', μ', g', r', rv', rfl, q⟩ := p
  cases rv'
  exact ⟨rfl, hQ _ _ ⟨.ref S1.length, S', μ', gn.trans g', r', (rv_cell (H' := H1) r1).ext g'.ext, q⟩⟩
end
section
variable {P : Program} {w : World} {K : PySem.W.Frag} {mg : Str → Option Value} {base : Heap} {T : Tb} {G : Fns} {k : Nat} {cn f : Str} {C : Addr}
theorem mk_of' (t : Tab P w K mg base k T G) (h : hasCls T cn = true) (hn : PySem.W.nsIn K mainGlobals cn = some (some (.ref C))) : mg cn = some (.ref C) ∧ Cls K C ∧ PySem.W.makesIn K C = true ∧ PySem.W.keepIn K (.ref C) = true := by
  obtain ⟨c, hc, e⟩ := List.any_eq_true.mp h
  obtain ⟨C', h1, h2, h3, _, h5, h6, _⟩ := t.cls c hc
  rw [eq_of_beq e] at h1 h2
  rw [hn] at h1; cases h1
  exact ⟨h2, h3, h5, h6⟩
theorem cls_of' (t : Tab P w K mg base k T G) (h : hasCls T cn = true) (hn : PySem.W.nsIn K mainGlobals cn = some (some (.ref C))) : Cls K C := (mk_of' t h hn).2.1
theorem ne_of (t : Tab P w K mg base k T G) (h : hasNe T cn = true) (hn : PySem.W.nsIn K mainGlobals cn = some (some (.ref C))) : NeC K C := by
  obtain ⟨c, hc, e⟩ := List.any_eq_true.mp h
  simp only [Bool.and_eq_true, beq_iff_eq] at e
  obtain ⟨C', h1, _, _, _, _, _, _, h8⟩ := t.cls c hc
  rw [e.1] at h1
  rw [hn] at h1; cases h1
  exact h8 e.2
theorem attr_of' (t : Tab P w K mg base k T G) (h : hasAttr T cn f = true) (hn : PySem.W.nsIn K mainGlobals cn = some (some (.ref C))) : Cls K C ∧ NoAttr K C f := by
  obtain ⟨c, hc, e⟩ := List.any_eq_true.mp h
  simp only [Bool.and_eq_true, beq_iff_eq] at e
  obtain ⟨C', h1, _, h3, h4, _⟩ := t.cls c hc
  rw [e.1] at h1
  rw [hn] at h1; cases h1
  exact ⟨h3, h4 f (by simpa using e.2)⟩
theorem form_of {n : Nat} {as : List (Bool × Sem Value)} {kws : List (Option Str × Sem Value)} (h1 : (as.any (·.1) || kws.any (·.1.isNone)) = false) (h2 : n + 1 < 30) : methodCallForm n as kws = true := by
  unfold methodCallForm
  simp only [Bool.or_eq_false_iff, List.any_eq_false] at h1
  simp only [Bool.and_eq_true, List.all_eq_true, decide_eq_true_eq]
  refine ⟨⟨fun x hx => ?_, fun x hx => ?_⟩, ?_⟩
  · have := h1.1 x hx
    simpa using this
  · have := h1.2 x hx
    cases e : x.1 with
    | none => rw [e] at this; simp at this
    | some _ => rfl
  · split <;> omega
theorem ht_of {o : Expr} {m : Str} {ap pos : Pos} {as : List Expr} {kws : List Keyword} {env : Env} (h : metB o = true) (hf : methodCallForm (as.length + kws.length) (backTo pos (starEach as env)) (backToKw pos (keywordEach kws env)) = true)
    (hl : (ap.endLine == pos.line) = true) : ∃ pl : Sem Bool, eval (.Call (.Attribute o m ap) as kws pos) env = (do
      let ov ← eval o env
      standAt ap.atName
      let (f, first) ← holding [ov] (getMethod ov m pl)
      callWith pos f first (backTo pos (starEach as env)) (backToKw pos (keywordEach kws env))) := by
  refine ⟨do return (← importBound o env).getD true, ?_⟩
  have hb : attributeBase o m env (eval o env) = eval o env := by
    unfold metB at h
    split at h
    · rfl
    · rfl
    · rfl
    · cases h
  rw [arm_eval_Call, hb]
  unfold methodCall
  rw [hf]
  unfold calleeOf methodCallPos
  simp only [Bool.not_true, Bool.false_or, hl, if_true]
  rfl
end
end DL
set_option maxHeartbeats 1000000
namespace DL
open PySem PySem.Calls PySem.Spec PyProof.Rows L2
section
variable {X : Cx}
theorem pe_freeze {e : Expr} {td : TE} (he : PE X e td) : PE X e (fun σ H Q => td σ H fun x H1 => Q x H1 ∨ ∃ d vs, x = .ref d ∧ H1 d = some (.dT vs) ∧ ∀ od, Q x (upd H1 d (.frz od (.dT vs)))) := by
  refine ⟨fun pins s σ H Q I h => thn (he.run pins s σ H _ I h) fun u s1 ⟨x, H1, I1, rx, q⟩ => ?_⟩
  rcases q with q | ⟨d, vs, ex, hd, q⟩
  · exact ⟨x, H1, I1, rx, q⟩
  · obtain ⟨od, I2⟩ := I1.lock hd trivial
    exact ⟨x, _, I2, rx, q od⟩
/-- how many entries -/
noncomputable def DSz (H : Hp) (a : Addr) (n : Nat) : Prop := ∃ vs, vs.length = n ∧ (H a = some (.dT vs) ∨ ∃ ob, H a = some (.frz ob (.dT vs)))
theorem dsz_at {pins : List (Addr × Obj)} {σ : L2.St} {H : Hp} {s : Shared} {a : Addr} {n : Nat} (I : Inv X pins σ H s) (h : DSz H a n) : (a == sysModules) = false ∧ s.TypeIs (.ref a) "dict" ∧ ∃ o es ep, s.heap.get? a = some o ∧ o.ExactDict ∧ o.data = .dict es ep ∧ es.size = n := by
  obtain ⟨vs, hl, h⟩ := h
  have ok : ObjOk X.prog X.w H s.heap a (.dT vs) := by
    rcases h with h | ⟨ob, h⟩
    · exact I.hok a _ h
    · exact (show ObjOk X.prog X.w H s.heap a (.frz ob (.dT vs)) from I.hok a _ h).2
  obtain ⟨_, hs, xs, pr, o, es, ep, ho, hx, hdt, he, _⟩ := ok
  refine ⟨hs, ?_, o, es, ep, ho, hx, hdt, ?_⟩
  · exact ⟨o, ho, hx.1⟩
  · have l1 : es.size = xs.length := size_of_entries he
    have l2 : vs.length = xs.length := Paired.length pr
    omega
theorem op_eqD0 (hu : X.A.units < cLine) : OpR X (compareOp .Eq) (fun x y H Q => ∃ a b n, x = .ref a ∧ y = .ref b ∧ DSz H a n ∧ DSz H b 0 ∧ Q (.bl (decide (n = 0))) H) := by
  intro pins s σ H x y v u Q I rx ry hq
  obtain ⟨a, b, n, rfl, rfl, da, db, q⟩ := hq
  cases rx
  cases ry
  obtain ⟨ha, ta, oa, es, ep, goa, xa, hda, hla⟩ := dsz_at I da
  obtain ⟨hb, tb, ob, es', ep', gob, xb, hdb, hlb⟩ := dsz_at I db
  by_cases hn : n = 0
  · subst hn
    obtain rfl : es = #[] := Array.size_eq_zero_iff.mp hla
    obtain rfl : es' = #[] := Array.size_eq_zero_iff.mp hlb
    have d1 : s.heap.DictOf (mixKind X.prog X.w) a [] := ⟨oa, #[], ep, goa, xa, hda, fun e he => absurd he (by simp), .nil, List.nodup_nil⟩
    have d2 : s.heap.DictOf (mixKind X.prog X.w) b [] := ⟨ob, #[], ep', gob, xb, hdb, fun e he => absurd he (by simp), .nil, List.nodup_nil⟩
    exact PySem.W.keq_eq (knd := mixKind X.prog X.w) (r := true) ha hb d1 d2 hu (fun _ => .nil) (fin_bl I q (by simp))
  · refine wpAny_richCompare_same_room (op := .Eq) ta tb PySem.F.slot_dict_eq (wpAny_call_entry PySem.F.slot_dict_eq ta PySem.F.entry_dict_eq ?_ (PySem.F.args_dict_eq_2 _ _)) hu
    show wpAny _ _ (PySem.Builtin.Dict.dictSlotArgs "__eq__" ⟨[.ref a, .ref b], []⟩ >>= _) _ _ s
    refine wpAny_bind ?_
    unfold PySem.Builtin.Dict.dictSlotArgs
    refine wpAny_bind (wpAny_notOrdered_dict ta ?_)
    show wpAny _ _ (pure (Value.ref a, Value.ref b) : Sem (Value × Value)) _ _ s
    refine wpAny_pure (wpAny_bind (wpAny_isInstance (T := "dict") tb PySem.F.sub_dict_dict ?_))
    simp only [Bool.not_true, Bool.false_eq_true, if_false]
    refine wpAny_bind (wpAny_pure (wpAny_bind (wpAny_pure (wpAny_bind ?_))))
    unfold PySem.Builtin.Dict.samePairs PySem.Builtin.Dict.showsAll
    rw [if_neg (fun z : (a == sysModules) = true => by rw [ha] at z; cases z), if_neg (fun z : (b == sysModules) = true => by rw [hb] at z; cases z)]
    refine wpAny_bind (wpAny_pure (wpAny_bind (wpAny_pure (wpAny_bind (wpAny_dictEntries goa hda ?_)))))
    dsimp only
    refine wpAny_bind (wpAny_dictEntries gob hdb ?_)
    have ns : ¬ es.size = es'.size := by omega
    rw [if_pos (by simpa using ns)]
    refine wpAny_bind (wpAny_rule (wpAny_pure ?_))
    refine wpAny_pure ⟨_, rfl, (fun x => nomatch x), ?_⟩
    exact fin_bl I q (by simp [hn])
end
end DL
set_option maxHeartbeats 4000000
namespace DL
open PySem PySem.Spec PyProof.Rows L2
section
variable {T : Tb} {G : Fns} {k : Nat} {N : List Str}
theorem bi_val (b : BI) : (∃ id, b.val = .builtin id) ∨ ∃ t, b.val = .type t := by cases b <;> first | exact .inl ⟨_, rfl⟩ | exact .inr ⟨_, rfl⟩
theorem pe_bi {X : Cx} {b : BI} {e : Expr} {es : List Expr} {t : TA} {p pos : Pos} {r : List V → Hp → VK → Prop} (hc : CallR X b.val r) (hg : Gl X b.name) (hm : X.mg b.name = none) (ha : PA X (e :: es) t)
    (he : starEach (e :: es) X.env = (false, eval e X.env) :: starEach es X.env) (hpl : (backTo pos (starEach es X.env)).any (·.1) = false) : PE X (.Call (.Name b.name p) (e :: es) [] pos) (tCB r t) := by
  have hb := b.boot
  rcases bi_val b with ⟨id, ev⟩ | ⟨id, ev⟩
  · rw [ev] at hc hb
    exact pe_callB hc hg hm hb ha b.nm.1 b.nm.2 he hpl
  · rw [ev] at hc hb
    exact pe_callTy hc hg hm hb ha b.nm.1 b.nm.2 he hpl
theorem pairs_of {c : CI} {e : Expr} (h : (!c.pairs || isTupE e) = true) : c.pairs = true → isTupE e = true := by
  cases hc : c.pairs <;> simp_all
theorem pg_or {X : Cx} {e : Expr} {g1 g2 : TG} (h1 : PG X e g1) (h2 : PG X e g2) : PG X e (fun v σ H Q => g1 v σ H Q ∨ g2 v σ H Q) :=
  ⟨fun pins s σ H v u Q I r hw => hw.elim (fun h => h1.run pins s σ H v u Q I r h) fun h => h2.run pins s σ H v u Q I r h⟩
theorem lits {α : Type} [BEq α] [LawfulBEq α] {o : Option α} {x : α} (h : (o == some x) = true) : o = some x := by simpa using h
theorem cut_whole {xs : List D} {n : Nat} {l u : Option Int} (h : xs.length = n) (z : HT.sIx n 0 l = 0 ∧ HT.sIx n n u = n) : cutD xs l u = xs := by
  unfold cutD
  rw [h, z.1, z.2, List.drop_zero, Nat.sub_zero, ← h]
  exact List.take_length
theorem okEs_cons {sc : SS} {cs : List CE} {e : Expr} {es : List Expr} (h : okEs T N sc cs (e :: es) = true) : (∃ c, okE T N sc c e = true) ∧ ∃ cs', okEs T N sc cs' es = true := by
  cases cs with
  | nil => simp [okEs] at h
  | cons c cs => simp only [okEs, Bool.and_eq_true] at h; exact ⟨⟨c, h.1⟩, cs, h.2⟩
theorem pa1 {X : Cx} {e : Expr} {T : TD} (h : PE X e (tOf X.K T)) (hs : starEach [e] X.env = (false, eval e X.env) :: starEach [] X.env) : PA X [e] (aOf X.K 1 (fun ρ S Q => T ρ S fun d S1 => Q [d] S1)) :=
  PA.imp (pa_cons h pa_nil hs) fun σ H Q ⟨η, μ, ρ, S, QD, hE, hR, hT, hQ⟩ => use hE hR hT fun d S1 v μ1 H1 g1 r1 e1 rv1 q1 => hQ _ _ ⟨[d], S1, μ1, g1, r1, .cons rv1 .nil, q1⟩ rfl
theorem pa2 {X : Cx} {e e' : Expr} {T T' : TD} (h : PE X e (tOf X.K T)) (h' : PE X e' (tOf X.K T')) (hs : starEach [e, e'] X.env = (false, eval e X.env) :: starEach [e'] X.env) (hs' : starEach [e'] X.env = (false, eval e' X.env) :: starEach [] X.env) :
    PA X [e, e'] (aOf X.K 2 (fun ρ S Q => T ρ S fun d S1 => T' ρ S1 fun d' S2 => Q [d, d'] S2)) :=
  PA.imp (pa_cons h (pa_cons h' pa_nil hs') hs) fun σ H Q ⟨η, μ, ρ, S, QD, hE, hR, hT, hQ⟩ => use hE hR hT fun d S1 v μ1 H1 g1 r1 e1 rv1 q1 => use e1 r1 q1 fun d2 S2 v2 μ2 H2 g2 r2 e2 rv2 q2 =>
    hQ _ _ ⟨[d, d2], S2, μ2, g1.trans g2, r2, .cons (rv1.ext g2.ext) (.cons rv2 .nil), q2⟩ rfl
theorem okI_ns0 {sc : SS} {es : List Expr} {k : Nat} {p : Pos} (c : CI) (hc : ∀ a b, c ≠ .alt a b) (h : okI T N sc c (.Set es k p) = true) : False := by
  cases c with
  | alt a b => exact hc a b rfl
  | _ => first | exact (Bool.false_ne_true h).elim | exact no_set h
theorem okI_noset {sc : SS} {es : List Expr} {k : Nat} {p : Pos} : ∀ c : CI, okI T N sc c (.Set es k p) = true → False
  | .alt a _, h => okI_noset a (Bool.and_eq_true_iff.mp h).1
  | .seq _, h => okI_ns0 _ (by intro _ _ z; cases z) h
  | .range1 _, h => okI_ns0 _ (by intro _ _ z; cases z) h
  | .range3 _ _ _, h => okI_ns0 _ (by intro _ _ z; cases z) h
  | .enum _, h => okI_ns0 _ (by intro _ _ z; cases z) h
  | .zip2 _ _, h => okI_ns0 _ (by intro _ _ z; cases z) h
  | .keys _, h => okI_ns0 _ (by intro _ _ z; cases z) h
  | .items _, h => okI_ns0 _ (by intro _ _ z; cases z) h
  | .skeys _, h => okI_ns0 _ (by intro _ _ z; cases z) h
  | .keysF _, h => okI_ns0 _ (by intro _ _ z; cases z) h
theorem sI_fold {sc : SS} {env : Env} (c : CI) (e : Expr) (h : okI T N sc c e = true) : ∀ x, foldedSetIterable e env x = pure x := by
  cases e <;> first | (intro x; rfl) | (exfalso; exact okI_noset c h)
theorem one_of {ds : List D} {vs : List V} {K : PySem.W.Frag} {H : Hp} {η μ : List Addr} (r : RVs K H η μ ds vs) (h : vs.length = 1) : ∃ d v, ds = [d] ∧ vs = [v] ∧ RV K H η μ d v := by
  cases r with
  | nil => simp at h
  | cons a b => cases b with
    | nil => exact ⟨_, _, rfl, rfl, a⟩
    | cons c d => simp at h
theorem two_of {ds : List D} {vs : List V} {K : PySem.W.Frag} {H : Hp} {η μ : List Addr} (r : RVs K H η μ ds vs) (h : vs.length = 2) : ∃ d d' v v', ds = [d, d'] ∧ vs = [v, v'] ∧ RV K H η μ d v ∧ RV K H η μ d' v' := by
  cases r with
  | nil => simp at h
  | cons a b =>
    obtain ⟨d, v, rfl, rfl, r⟩ := one_of b (by simpa using h)
    exact ⟨_, _, _, _, rfl, rfl, a, r⟩
mutual
theorem sE : ∀ (c : CE) {X : Cx} {sc : SS} (e : Expr), Here T G k N X sc → okE T N sc c e = true → DE X e (wpE G c)
  | .var i, X, sc, e, hx, h => by
    cases e <;> first | (exact (Bool.false_ne_true h).elim) | skip
    change (_ && _) = true at h
    simp only [Bool.and_eq_true] at h
    obtain ⟨⟨h1, h2⟩, h3⟩ := h
    refine DE.mk (pe_var (i := i) (by rw [hx.nm]; exact lits h2) (by rw [hx.scp]; exact vis_of h1) (dbg_of h3).1 (dbg_of h3).2) fun η μ ρ S σ H Q QD hE hR hT hQ => ?_
    simp only [wpE] at hT
    obtain ⟨d, e, q⟩ := hT
    obtain ⟨v, ev, rv⟩ := hE.get i d e
    exact ⟨v, ev, hQ _ _ (stay hR rv q)⟩
  | .con c, X, sc, e, hx, h => by
    cases e <;> first | (exact (Bool.false_ne_true h).elim) | skip
    rename_i kk _ _
    change okC c kk = true at h
    cases c <;> cases kk <;> first | (exact (Bool.false_ne_true h).elim) | skip
    · exact DE.mk pe_non fun η μ ρ S σ H Q QD hE hR hT hQ => hQ _ _ (stay hR .non (by simpa only [wpE, CC.d] using hT))
    · simp only [okC, beq_iff_eq] at h; subst h
      exact DE.mk pe_bl fun η μ ρ S σ H Q QD hE hR hT hQ => hQ _ _ (stay hR (.bl _) (by simpa only [wpE, CC.d] using hT))
    · simp only [okC, beq_iff_eq] at h; subst h
      exact DE.mk pe_int fun η μ ρ S σ H Q QD hE hR hT hQ => hQ _ _ (stay hR (.int _) (by simpa only [wpE, CC.d] using hT))
    · simp only [okC, beq_iff_eq] at h; subst h
      exact DE.mk pe_str fun η μ ρ S σ H Q QD hE hR hT hQ => hQ _ _ (stay hR (.str _) (by simpa only [wpE, CC.d] using hT))
  | .glo j, X, sc, e, hx, h => by
    cases e <;> first | (exact (Bool.false_ne_true h).elim) | skip
    change (_ && _) = true at h
    simp only [Bool.and_eq_true] at h
    obtain ⟨⟨h1, h2⟩, h3⟩ := h
    obtain ⟨u, v, hm, r, rv, _⟩ := hx.tab.gl j _ (lits h2)
    refine DE.mk (pe_glob (gl_of hx h1) hm r (dbg_of h3).1) fun η μ ρ S σ H Q QD hE hR hT hQ => hQ _ _ (stay hR (rv _ _ _) (by simpa only [wpE] using hT))
  | .bin op m a b, X, sc, e, hx, h => by
    cases e <;> first | (exact (Bool.false_ne_true h).elim) | skip
    change (_ && _) = true at h
    simp only [Bool.and_eq_true, beq_iff_eq] at h
    obtain ⟨⟨h1, h2⟩, h3⟩ := h
    subst h1
    obtain ⟨r, ho, hr⟩ := binR (X := X) op
    refine DE.mk (pe_op ho (sE a _ hx h2) (sE b _ hx h3)) fun η μ ρ S σ H Q QD hE hR hT hQ => ?_
    simp only [wpE] at hT
    refine use hE hR hT fun d S1 v μ1 H1 g1 r1 e1 rv1 q1 => use e1 r1 q1 fun d2 S2 v2 μ2 H2 g2 r2 e2 rv2 q2 => ?_
    exact hr r2 (rv1.ext g2.ext) rv2 q2 fun v H' p => hQ _ _ ((p.from g2).from g1)
  | .neg a, X, sc, e, hx, h => by
    cases e <;> first | (exact (Bool.false_ne_true h).elim) | skip
    rename_i op x p
    cases op <;> first | (exact (Bool.false_ne_true h).elim) | skip
    refine DE.mk (pe_un un_neg (sE a x hx h)) fun η μ ρ S σ H Q QD hE hR hT hQ => ?_
    simp only [wpE] at hT
    refine use hE hR hT fun d S1 v μ1 H1 g1 r1 e1 rv1 q1 => ?_
    obtain ⟨i, rfl, q⟩ := q1
    cases rv1
    exact ⟨_, rfl, hQ _ _ ((stay r1 (.int _) q).from g1)⟩
  | .cmp op a b, X, sc, e, hx, h => by
    cases e <;> first | (exact (Bool.false_ne_true h).elim) | skip
    rename_i l ops cs p
    match ops, cs, h with
    | [op'], [b'], h =>
      change (_ && _) = true at h
      simp only [Bool.and_eq_true, beq_iff_eq] at h
      obtain ⟨⟨h1, h2⟩, h3⟩ := h
      subst h1
      obtain ⟨r, ho, hr⟩ := cmpR (X := X) hx.room.units op
      refine DE.mk (pe_cmpR ho (sE a _ hx h2) (sE b _ hx h3) (mark_of h3)) fun η μ ρ S σ H Q QD hE hR hT hQ => ?_
      simp only [wpE] at hT
      refine use hE hR hT fun d S1 v μ1 H1 g1 r1 e1 rv1 q1 => use e1 r1 q1 fun d2 S2 v2 μ2 H2 g2 r2 e2 rv2 q2 => ?_
      exact hr r2 (rv1.ext g2.ext) rv2 q2 fun b hb => hQ _ _ (((stay r2 (.bl b) hb).from g2).from g1)
    | [], _, h => exact (Bool.false_ne_true h).elim
    | [_], [], h => exact (Bool.false_ne_true h).elim
    | [_], _ :: _ :: _, h => exact (Bool.false_ne_true h).elim
    | _ :: _ :: _, _, h => exact (Bool.false_ne_true h).elim
  | .chain op1 op2 a b c, X, sc, e, hx, h => by
    cases e <;> first | (exact (Bool.false_ne_true h).elim) | skip
    rename_i l ops cs p
    match ops, cs, h with
    | [o1, o2], [b', c'], h =>
      change (_ && _) = true at h
      simp only [Bool.and_eq_true, beq_iff_eq] at h
      obtain ⟨⟨⟨⟨h1, h2⟩, h3⟩, h4⟩, h5⟩ := h
      subst h1; subst h2
      obtain ⟨r, ho, hr⟩ := cmpR (X := X) hx.room.units op1
      obtain ⟨r', ho', hr'⟩ := cmpR (X := X) hx.room.units op2
      refine DE.mk (pe_chain ho ho' (sE a _ hx h3) (sE b _ hx h4) (sE c _ hx h5) (by show behindInMarks op2 c' = false; exact mark_of h5)) fun η μ ρ S σ H Q QD hE hR hT hQ => ?_
      simp only [wpE] at hT
      refine use hE hR hT fun d S1 v μ1 H1 g1 r1 e1 rv1 q1 => use e1 r1 q1 fun d2 S2 v2 μ2 H2 g2 r2 e2 rv2 q2 => ?_
      refine hr r2 (rv1.ext g2.ext) rv2 q2 fun b hb => ⟨b, rfl, ?_⟩
      cases b with
      | true =>
        simp only [if_true] at hb ⊢
        refine use e2 r2 hb fun d3 S3 v3 μ3 H3 g3 r3 e3 rv3 q3 => ?_
        exact hr' r3 (rv2.ext g3.ext) rv3 q3 fun b hb => hQ _ _ ((((stay r3 (.bl b) hb).from g3).from g2).from g1)
      | false =>
        simp only [Bool.false_eq_true, if_false] at hb ⊢
        exact hQ _ _ (((stay r2 (.bl _) hb).from g2).from g1)
    | [], _, h => exact (Bool.false_ne_true h).elim
    | [_], _, h => exact (Bool.false_ne_true h).elim
    | [_, _], [], h => exact (Bool.false_ne_true h).elim
    | [_, _], [_], h => exact (Bool.false_ne_true h).elim
    | [_, _], _ :: _ :: _ :: _, h => exact (Bool.false_ne_true h).elim
    | _ :: _ :: _ :: _, _, h => exact (Bool.false_ne_true h).elim
  | .and_ a b, X, sc, e, hx, h => by
    cases e <;> first | (exact (Bool.false_ne_true h).elim) | skip
    rename_i op vs p
    match op, vs, h with
    | .And, a' :: b' :: r, h =>
      change (_ && _) = true at h
      simp only [Bool.and_eq_true] at h
      have hb : PE X (.BoolOp .And (b' :: r) p) (tOf X.K (wpE G b)) := by
        cases r with
        | nil => exact pe_one (sE b _ hx h.2)
        | cons c' r' => exact sE b _ hx h.2
      refine DE.mk (pe_and (sE a _ hx h.1) hb) fun η μ ρ S σ H Q QD hE hR hT hQ => ?_
      simp only [wpE] at hT
      refine use hE hR hT fun d S1 v μ1 H1 g1 r1 e1 rv1 q1 => ?_
      obtain ⟨c, rfl, q⟩ := q1
      cases rv1
      refine ⟨c, rfl, ?_⟩
      cases c with
      | true =>
        simp only [if_true] at q ⊢
        exact ⟨_, _, _, _, _, e1, r1, q, fun v H' p => hQ _ _ (p.from g1)⟩
      | false =>
        simp only [Bool.false_eq_true, if_false] at q ⊢
        exact hQ _ _ ((stay r1 (.bl _) q).from g1)
    | .And, [], h => exact (Bool.false_ne_true h).elim
    | .And, [_], h => exact (Bool.false_ne_true h).elim
    | .Or, _, h => exact (Bool.false_ne_true h).elim
  | .not_ a, X, sc, e, hx, h => by
    cases e <;> first | (exact (Bool.false_ne_true h).elim) | skip
    rename_i op x p
    cases op <;> first | (exact (Bool.false_ne_true h).elim) | skip
    refine DE.mk (pe_not (sE a x hx h)) fun η μ ρ S σ H Q QD hE hR hT hQ => ?_
    simp only [wpE] at hT
    refine use hE hR hT fun d S1 v μ1 H1 g1 r1 e1 rv1 q1 => ?_
    obtain ⟨i, rfl, q⟩ := q1
    cases rv1
    exact ⟨_, rfl, hQ _ _ ((stay r1 (.bl _) q).from g1)⟩
  | .ite t a b, X, sc, e, hx, h => by
    cases e <;> first | (exact (Bool.false_ne_true h).elim) | skip
    change (_ && _) = true at h
    simp only [Bool.and_eq_true] at h
    refine DE.mk (pe_ifExp (sB t _ hx h.1.1) (sE a _ hx h.1.2) (sE b _ hx h.2)) fun η μ ρ S σ H Q QD hE hR hT hQ => ?_
    simp only [wpE] at hT
    refine useB hE hR hT fun c S1 μ1 H1 g1 r1 e1 q1 => ?_
    cases c with
    | true =>
      simp only [if_true] at q1 ⊢
      exact ⟨_, _, _, _, _, e1, r1, q1, fun v H' p => hQ _ _ (p.from g1)⟩
    | false =>
      simp only [Bool.false_eq_true, if_false] at q1 ⊢
      exact ⟨_, _, _, _, _, e1, r1, q1, fun v H' p => hQ _ _ (p.from g1)⟩
  | .tup es, X, sc, e, hx, h => by
    cases e <;> first | (exact (Bool.false_ne_true h).elim) | skip
    change (_ && _) = true at h
    simp only [Bool.and_eq_true, decide_eq_true_eq] at h
    refine DE.mk (pe_tup (sEs es _ hx h.1)) fun η μ ρ S σ H Q QD hE hR hT hQ => ?_
    simp only [wpE] at hT
    refine useA hE hR hT fun ds S1 vs μ1 H1 g1 r1 e1 rv1 hl q1 => ⟨?_, fun p hp => hQ _ _ ((new_tup r1 rv1 q1 p hp).from g1)⟩
    have : (1000 : Nat) ≤ sizeLine := by decide
    omega
  | .lst m es, X, sc, e, hx, h => by
    cases e <;> first | (exact (Bool.false_ne_true h).elim) | skip
    change (_ && _) = true at h
    simp only [Bool.and_eq_true, decide_eq_true_eq] at h
    refine DE.mk (pe_lst (sEs es _ hx h.1)) fun η μ ρ S σ H Q QD hE hR hT hQ => ?_
    simp only [wpE] at hT
    refine useA hE hR hT fun ds S1 vs μ1 H1 g1 r1 e1 rv1 hl q1 => ⟨?_, fun p hp => hQ _ _ ((new_lst r1 rv1 q1 p hp).from g1)⟩
    have : (1000 : Nat) ≤ sizeLine := by decide
    omega
  | .ix a i, X, sc, e, hx, h => by
    cases e <;> first | (exact (Bool.false_ne_true h).elim) | skip
    change (_ && _) = true at h
    simp only [Bool.and_eq_true] at h
    refine DE.mk (pe_ix (ix_seq.or (ix_dictS (by have := hx.room.units; omega))) (sE a _ hx h.1.1) (sE i _ hx h.1.2) (plain_of h.2)) fun η μ ρ S σ H Q QD hE hR hT hQ => ?_
    simp only [wpE] at hT
    refine use hE hR hT fun d S1 v μ1 H1 g1 r1 e1 rv1 q1 => use e1 r1 q1 fun d2 S2 v2 μ2 H2 g2 r2 e2 rv2 q2 => ?_
    exact ix_of r2 (rv1.ext g2.ext) rv2 q2 fun d v rv q => hQ _ _ (((stay r2 rv q).from g2).from g1)
  | .sl m a lo hi, X, sc, e, hx, h => by
    cases e <;> first | (exact (Bool.false_ne_true h).elim) | skip
    rename_i o s p
    cases s <;> first | (exact (Bool.false_ne_true h).elim) | skip
    rename_i lo' hi' st p2
    cases st <;> first | (exact (Bool.false_ne_true h).elim) | skip
    change (_ && _) = true at h
    simp only [Bool.and_eq_true] at h
    refine DE.mk (pe_slice (sl_list.or sl_tupA) (sE a _ hx h.1.1) (sO lo _ hx h.1.2) (sO hi _ hx h.2)) fun η μ ρ S σ H Q QD hE hR hT hQ => ?_
    simp only [wpE] at hT
    refine use hE hR hT fun d S1 v μ1 H1 g1 r1 e1 rv1 q1 => useB e1 r1 q1 fun l S2 μ2 H2 g2 r2 e2 q2 => useB e2 r2 q2 fun u S3 μ3 H3 g3 r3 e3 q3 => ?_
    have rv3 := (rv1.ext g2.ext).ext g3.ext
    have hQ' : ∀ v H', Post X.K η μ3 H3 QD v H' → Q v H' := fun v H' p => hQ _ _ (((p.from g3).from g2).from g1)
    simp only [slD] at q3
    split at q3
    · cases rv3 with
      | tup hh qq =>
        refine .inr ⟨_, _, rfl, hh, fun z => ?_, fun _ p hp => hQ' _ _ (new_tup r3 (cut_of qq l u) q3 p hp)⟩
        refine hQ' _ _ (stay r3 (.tup hh qq) ?_)
        rw [cut_whole qq.length z] at q3
        exact q3
    · cases rv3 with
      | ptup hh h2 qq =>
        refine .inr ⟨_, _, rfl, .inl (.inr ⟨_, hh⟩), fun z => ?_, fun _ p hp => hQ' _ _ (new_tup r3 (cut_of qq l u) q3 p hp)⟩
        refine hQ' _ _ (stay r3 (.tup (.inl (.inr ⟨_, hh⟩)) qq) ?_)
        rw [cut_whole qq.length z] at q3
        exact q3
    · obtain ⟨xs, e4, hn⟩ := q3
      obtain ⟨a4, vs4, rfl, h4, q4⟩ := lst_of r3 rv3 e4
      exact .inl ⟨_, _, rfl, .inl (.inl h4), fun p hp => hQ' _ _ (new_lst r3 (cut_of q4 l u) hn p hp)⟩
  | .call j es, X, sc, e, hx, h => by
    cases e <;> first | (exact (Bool.false_ne_true h).elim) | skip
    rename_i f as ks p
    cases f <;> first | (exact (Bool.false_ne_true h).elim) | skip
    cases ks with
    | cons _ _ => exact (Bool.false_ne_true h).elim
    | nil =>
      change (_ && _) = true at h
      simp only [Bool.and_eq_true] at h
      obtain ⟨⟨⟨h1, h2⟩, h3⟩, h4⟩ := h
      split at h4
      · rename_i i hi
        simp only [Bool.and_eq_true, beq_iff_eq, Bool.not_eq_true', Option.isNone_iff_eq_none] at h4
        obtain ⟨⟨h4, hko⟩, hcl⟩ := h4
        subst h4
        obtain ⟨f, fd, ⟨F0, _⟩, ⟨hm0, _⟩, hk, hb0, _⟩ := hx.tab.fn j i hi
        have F := F0.mono (Nat.sub_le k i.up)
        have hm := hm0 hcl
        have hb := hb0 hko
        cases as with
        | nil =>
          cases es with
          | cons _ _ => simp [okEs] at h3
          | nil =>
            refine DE.mk (pe_callG0 F hx.room hx.gd (gl_of hx h1) hm hk hb pk_nil rfl rfl (dbg_of h2).1 rfl) fun η μ ρ S σ H Q QD hE hR hT hQ => ?_
            simp only [wpE, wpEs] at hT
            exact ⟨η, μ, S, [], QD, hR, .nil, hT, fun v H' p => hQ _ _ p⟩
        | cons e' es' =>
          obtain ⟨⟨c0, h31⟩, _⟩ := okEs_cons h3
          refine DE.mk (pe_callG F hx.room hx.gd (gl_of hx h1) hm hk hb (sEs es _ hx h3) pk_nil rfl rfl (dbg_of h2).1 (star_of h31) (by rw [stars_of h3]; rfl)) fun η μ ρ S σ H Q QD hE hR hT hQ => ?_
          simp only [wpE] at hT
          refine useA hE hR hT fun ds S1 vs μ1 H1 g1 r1 e1 rv1 hl q1 => ?_
          exact ⟨η, μ1, S1, ds, QD, r1, rv1, q1, fun v H' p => hQ _ _ (p.from g1)⟩
      · cases h4
  | .bi b m es, X, sc, e, hx, h => by
    cases e <;> first | (exact (Bool.false_ne_true h).elim) | skip
    rename_i f as ks p
    cases f <;> first | (exact (Bool.false_ne_true h).elim) | skip
    cases as with
    | nil => exact (Bool.false_ne_true h).elim
    | cons e' es' =>
      cases ks with
      | cons _ _ => exact (Bool.false_ne_true h).elim
      | nil =>
        change (_ && _) = true at h
        simp only [Bool.and_eq_true, beq_iff_eq] at h
        obtain ⟨⟨⟨h1, h2⟩, h4⟩, h3⟩ := h
        subst h2
        obtain ⟨⟨c0, h31⟩, cs0, h32⟩ := okEs_cons h3
        obtain ⟨r, hc, hr⟩ := biR (X := X) hx.calm hx.gd hx.room.units b
        refine DE.mk (pe_bi hc (gl_of hx h1) (hx.tab.bi _ (by simpa using h4)) (sEs es _ hx h3) (star_of h31) (stars_of h32)) fun η μ ρ S σ H Q QD hE hR hT hQ => ?_
        simp only [wpE] at hT
        refine useA hE hR hT fun ds S1 vs μ1 H1 g1 r1 e1 rv1 hl q1 => ?_
        exact hr r1 rv1 q1 fun v H' p => hQ _ _ (p.from g1)
  | .isi t a, X, sc, e, hx, h => by
    cases e <;> first | (exact (Bool.false_ne_true h).elim) | skip
    rename_i f as ks p
    cases f <;> first | (exact (Bool.false_ne_true h).elim) | skip
    match as, ks, h with
    | [a', b'], [], h =>
      cases b' <;> first | (exact (Bool.false_ne_true h).elim) | skip
      rename_i y py
      change (_ && _) = true at h
      simp only [Bool.and_eq_true, beq_iff_eq] at h
      obtain ⟨⟨⟨⟨⟨⟨h1, h2⟩, h3⟩, h4⟩, h5⟩, h6⟩, h7⟩ := h
      subst h1; subst h4
      have hs : starEach [a', .Name t.nm py] X.env = (false, eval a' X.env) :: starEach [.Name t.nm py] X.env := star_of h7
      have hty : PE X (.Name t.nm py) (tC (.ty (tyS t))) := by
        have hb := hx.tab.bi _ (by simpa using h6)
        cases t <;> exact pe_bltn (u := .type _) (gl_of hx h5) hb (by decide +kernel) rfl
      refine DE.mk (pe_callB call_isi (gl_of hx h2) (hx.tab.bi _ (by simpa using h3)) (by decide +kernel) (pa_cons (sE a a' hx h7) (pa_cons hty pa_nil rfl) hs) (by decide) (by decide) hs rfl) fun η μ ρ S σ H Q QD hE hR hT hQ => ?_
      simp only [wpE] at hT
      refine use hE hR hT fun d S1 v μ1 H1 g1 r1 e1 rv1 q1 => ?_
      obtain ⟨ty, b9, h8, h9, q⟩ := ty_of r1 rv1 q1
      refine ⟨v, _, _, _, _, rfl, .ty _, h8, kit_ty h9, hQ _ _ ((stay r1 (.bl _) q).from g1)⟩
    | [], _, h => exact (Bool.false_ne_true h).elim
    | [_], _, h => exact (Bool.false_ne_true h).elim
    | _ :: _ :: _ :: _, _, h => exact (Bool.false_ne_true h).elim
    | [_, _], _ :: _, h => exact (Bool.false_ne_true h).elim
  | .dnew, X, sc, e, hx, h => by
    cases e <;> first | (exact (Bool.false_ne_true h).elim) | skip
    rename_i ks vs p
    cases ks <;> cases vs <;> first | (exact (Bool.false_ne_true h).elim) | skip
    refine DE.mk pe_dnewT fun η μ ρ S σ H Q QD hE hR hT hQ => ?_
    simp only [wpE] at hT
    intro p hp
    exact hQ _ _ ⟨_, _, _, grow_cell hR hp, rp_cellD hR hp .nil, rv_cell hR, hT⟩
  | .dnew1 es v, X, sc, e, hx, h => by
    cases e <;> first | (exact (Bool.false_ne_true h).elim) | skip
    rename_i ks vs p
    match ks, vs, h with
    | [some (.Tuple es' tk tp)], [v'], h =>
      change (_ && _) = true at h
      simp only [Bool.and_eq_true, decide_eq_true_eq] at h
      obtain ⟨⟨h1, h2⟩, h3⟩ := h
      refine DE.mk (pe_disp1 hx.room.units (pe_tup (sEs es _ hx h1)) (sE v _ hx h3)) fun η μ ρ S σ H Q QD hE hR hT hQ => ?_
      simp only [wpE] at hT
      intro p hp
      have g0 := grow_cell (o := .dT []) hR hp
      have r0 := rp_cellD hR hp .nil
      refine useA (hE.ext g0.ext) r0 hT fun ys S1 vs μ1 H1 g1 r1 e1 rv1 hl q1 => ⟨?_, fun p1 hp1 => ?_⟩
      · have : (1000 : Nat) ≤ sizeLine := by decide
        omega
      have g2 := grow_new (o := .tup vs) r1 hp1
      have r2 := rp_new (o := .tup vs) r1 hp1
      refine use (e1.ext g2.ext) r2 q1 fun z S2 w μ2 H2 g3 r3 e3 rv3 q2 => ?_
      obtain ⟨ks, hk, hc, q⟩ := q2
      have rvp : RV X.K H2 η μ2 (.ref S.length) (.ref p) := (((rv_cell hR).ext g1.ext).ext g2.ext).ext g3.ext
      have eb : vs = ks.map kV := keysOf_rv rv1 hk
      have rvp' := rvp
      cases rvp' with
      | ref hn =>
        obtain ⟨a', ha', ws, hw, qs⟩ := r3.cell _ _ hc
        rw [hn] at ha'; cases ha'
        cases qs
        refine ⟨hw, p1, ks, rfl, by rw [← eb]; exact g3.tup _ _ upd_same, ?_⟩
        have gg := grow_set (o := .dT [(ks, w)]) r3 hn hw
        exact hQ _ _ ⟨_, _, _, (((g0.trans g1).trans g2).trans g3).trans gg, rp_setD r3 hn hw (.cons rv3 .nil), rvp.ext gg.ext, q⟩
    | [], _, h => exact (Bool.false_ne_true h).elim
    | _ :: _ :: _, _, h => exact (Bool.false_ne_true h).elim
    | [_], [], h => exact (Bool.false_ne_true h).elim
    | [_], _ :: _ :: _, h => exact (Bool.false_ne_true h).elim
  | .dcomp key val tg it own, X, sc, e, hx, h => by
    cases e <;> first | (exact (Bool.false_ne_true h).elim) | skip
    rename_i key' val' gs scope p
    match gs, h with
    | [⟨tg', it', ifs', as⟩], h =>
      by_cases ha : as = 0 ∧ ifs' = []
      · obtain ⟨rfl, rfl⟩ := ha
        change (_ && _) = true at h
        simp only [Bool.and_eq_true] at h
        obtain ⟨⟨⟨⟨⟨⟨⟨h1, h2⟩, h2'⟩, h3⟩, h4⟩, h5⟩, h6⟩, h9⟩ := h
        have ok := blkOk_by h1
        have hok : BlkOk X.N X.env.scope scope (own.map fun i => (N.getD i "", i)) := by rw [hx.nm, hx.scp]; exact ok
        have hown : (own.map fun i => ((N.getD i "", i) : Str × Nat)).map (·.2) = own := by rw [List.map_map]; exact List.map_id _
        have P := pe_dc (pos := p) (kx := key') (vx := val') (ifs := []) (tg := tg') (iter := it') (scope := scope) (g := gS X.K tg) (tt := tYes) (tk := tOf X.K (wpE G key)) (tv := tOf X.K (wpE G val)) hx.calm (by rw [hx.nm]; exact hx.nd) (sI it _ _ hx h6 (pairs_of h9)) hok (fun s H C cl fp => sT tg _ (hx.blk ok.kind s H C cl fp) h3 h4) (fun s H C cl fp => pts_nil)
          (fun s H C cl fp => sE key _ (hx.blk ok.kind s H C cl fp) h2) (fun s H C cl fp => sE val _ (hx.blk ok.kind s H C cl fp) h2') (sI_fold it _ h6)
        rw [hown] at P
        refine DE.mk P fun η μ ρ S σ H Q QD hE hR hT hQ => ?_
        exact dc_of hE hR h4 (fun i hi => by simpa using List.all_eq_true.mp h5 i hi) hT hQ
      · exfalso
        rcases ifs' with _ | ⟨_, _⟩ <;> rcases as with (_ | _) | _ <;> first | exact ha ⟨rfl, rfl⟩ | exact (Bool.false_ne_true h).elim
    | [], h => exact (Bool.false_ne_true h).elim
    | _ :: _ :: _, h => exact (Bool.false_ne_true h).elim
  | .ptup a, X, sc, e, hx, h => by
    cases e <;> first | (exact (Bool.false_ne_true h).elim) | skip
    rename_i f as ks p
    cases f <;> first | (exact (Bool.false_ne_true h).elim) | skip
    rename_i y2 py2
    match as, ks, h with
    | [a'], [], h =>
      change (_ && _) = true at h
      simp only [Bool.and_eq_true, beq_iff_eq] at h
      obtain ⟨⟨⟨rfl, k2⟩, k3⟩, k4⟩ := h
      refine DE.mk (pe_callTy (pos := p) (p := py2) call_ptup (gl_of hx k2) (hx.tab.bi _ (by simpa using k3)) (by decide +kernel) (pa_cons (sE a a' hx k4) pa_nil (star_of k4)) (by decide) (by decide) (star_of k4) rfl) fun η μ ρ S σ H Q QD hE hR hT hQ => ?_
      simp only [wpE] at hT
      refine use hE hR hT fun d S1 v μ1 H1 g1 r1 e1 rv1 q1 => ?_
      obtain ⟨ds, hl1, q⟩ := q1
      obtain ⟨a1, vs1, rfl, ha1, qa1⟩ := lst_of r1 rv1 hl1
      refine ⟨a1, vs1, rfl, .inl (.inl ha1), fun p0 o0 hd0 hp0 => ?_⟩
      exact hQ _ _ ⟨_, _, _, g1.trans (grow_new r1 hp0), rp_new r1 hp0, .ptup (upd_same) hd0 (RVs.ext ((grow_new r1 hp0).ext (η := η)) qa1), q⟩
    | [], _, h => exact (Bool.false_ne_true h).elim
    | _ :: _ :: _, _, h => exact (Bool.false_ne_true h).elim
    | [_], _ :: _, h => exact (Bool.false_ne_true h).elim
  | .lz m a b, X, sc, e, hx, h => by
    cases e <;> first | (exact (Bool.false_ne_true h).elim) | skip
    rename_i f as ks p
    cases f <;> first | (exact (Bool.false_ne_true h).elim) | skip
    match as, ks, h with
    | [.Call (.Name y p1) [a', b'] [] p2], [], h =>
      change (_ && _) = true at h
      simp only [Bool.and_eq_true, beq_iff_eq] at h
      obtain ⟨⟨⟨⟨⟨⟨⟨h1, h2⟩, h3⟩, h4⟩, h5⟩, h6⟩, h7⟩, h8⟩ := h
      subst h1 h4
      refine DE.mk (pe_listZip hx.calm (gl_of hx h2) (hx.tab.bi _ (by simpa using h3)) (gl_of hx h5) (hx.tab.bi _ (by simpa using h6)) (pa_cons (sE a a' hx h7) (pa_cons (sE b b' hx h8) pa_nil (star_of h8)) (star_of h7)) (star_of h7) (by rw [star_of h8]; rfl)) fun η μ ρ S σ H Q QD hE hR hT hQ => ?_
      simp only [wpE] at hT
      refine use hE hR hT fun d S1 v μ1 H1 g1 r1 e1 rv1 q1 => use e1 r1 q1 fun d2 S2 v2 μ2 H2 g2 r2 e2 rv2 q2 => ?_
      exact listZip_of r2 (rv1.ext g2.ext) rv2 q2 fun v H' P => hQ v H' (P.from (g1.trans g2))
    | [], _, h => exact (Bool.false_ne_true h).elim
    | _ :: _ :: _, _, h => exact (Bool.false_ne_true h).elim
    | [_], _ :: _, h => exact (Bool.false_ne_true h).elim
  | .lc m elt tg it ifs own, X, sc, e, hx, h => by
    cases e <;> first | (exact (Bool.false_ne_true h).elim) | skip
    rename_i elt' gs scope p
    match gs, h with
    | [⟨tg', it', ifs', as⟩], h =>
      by_cases ha : as = 0
      · subst ha
        change (_ && _) = true at h
        simp only [Bool.and_eq_true] at h
        obtain ⟨⟨⟨⟨⟨⟨⟨⟨h1, h2⟩, h3⟩, h4⟩, h5⟩, h6⟩, h7⟩, h8⟩, h9⟩ := h
        have ok := blkOk_by h1
        have hok : BlkOk X.N X.env.scope scope (own.map fun i => (N.getD i "", i)) := by rw [hx.nm, hx.scp]; exact ok
        have hown : (own.map fun i => ((N.getD i "", i) : Str × Nat)).map (·.2) = own := by rw [List.map_map]; exact List.map_id _
        have P := pe_lc (pos := p) (elt := elt') (ifs := ifs') (tg := tg') (iter := it') (scope := scope) (g := gS X.K tg) (tt := bOf X.K (wpBs G ifs)) (te := tOf X.K (wpE G elt)) hx.calm (by rw [hx.nm]; exact hx.nd) (sI it _ _ hx h6 (pairs_of h9)) hok (fun s H C cl fp => sT tg _ (hx.blk ok.kind s H C cl fp) h3 h4) (fun s H C cl fp => sBs ifs _ (hx.blk ok.kind s H C cl fp) h7 (by simpa using h8))
          (fun s H C cl fp => sE elt _ (hx.blk ok.kind s H C cl fp) h2) (sI_fold it _ h6)
        rw [hown] at P
        refine DE.mk P fun η μ ρ S σ H Q QD hE hR hT hQ => ?_
        exact lc_of hE hR h4 (fun i hi => by simpa using List.all_eq_true.mp h5 i hi) hT hQ
      · rcases as with (_ | _) | _ <;> first | exact (ha rfl).elim | exact (Bool.false_ne_true h).elim
    | [], h => exact (Bool.false_ne_true h).elim
    | _ :: _ :: _, h => exact (Bool.false_ne_true h).elim
  | .dnewS, X, sc, e, hx, h => by
    cases e <;> first | (exact (Bool.false_ne_true h).elim) | skip
    rename_i ks vs p
    cases ks <;> cases vs <;> first | (exact (Bool.false_ne_true h).elim) | skip
    refine DE.mk pe_dnew3 fun η μ ρ S σ H Q QD hE hR hT hQ => ?_
    simp only [wpE] at hT
    intro p hp
    exact hQ _ _ ⟨_, _, _, grow_cell hR hp, rp_new3 hR hp, rv_cell hR, hT⟩
  | .dnew1S a v, X, sc, e, hx, h => by
    cases e <;> first | (exact (Bool.false_ne_true h).elim) | skip
    rename_i ks vs p
    match ks, vs, h with
    | [some k'], [v'], h =>
      change (_ && _) = true at h
      simp only [Bool.and_eq_true] at h
      refine DE.mk (pe_disp3 hx.room.units (sE a _ hx h.1) (sE v _ hx h.2)) fun η μ ρ S σ H Q QD hE hR hT hQ => ?_
      simp only [wpE] at hT
      intro p hp
      have g0 := grow_cell (o := StD p []) hR hp
      refine use (hE.ext g0.ext) (rp_new3 hR hp) hT fun y S1 w1 μ1 H1 g1 r1 e1 rv1 q1 => use e1 r1 q1 fun z S2 w2 μ2 H2 g2 r2 e2 rv2 q2 => ?_
      obtain ⟨st, rfl, rfl, hc, q⟩ := q2
      have rvp : RV X.K H2 η μ2 (.ref S.length) (.ref p) := ((rv_cell hR).ext g1.ext).ext g2.ext
      cases rv2
      cases rv1.ext g2.ext with
      | @tup b0 _ _ hq qs =>
        have ev := k3_vals (st := st) qs
        subst ev
        have rvp' := rvp
        cases rvp' with
        | ref hn =>
          obtain ⟨a', ha', xs, hw, hk, hs⟩ := r2.cell _ _ hc
          rw [hn] at ha'; cases ha'
          have hx0 : xs = [] := List.map_eq_nil_iff.mp hk
          subst hx0
          refine ⟨rfl, hw, b0, st, rfl, hq, ?_⟩
          have gg := grow_set (o := StD p [(st, b0)]) r2 hn hw (std_frz)
          refine hQ _ _ ⟨_, _, _, ((g0.trans g1).trans g2).trans gg, rp_set3 r2 hn hw (ys := [(st, b0)]) (fun x hx => ?_), rvp.ext gg.ext, q⟩
          rw [List.mem_singleton.mp hx]
          exact hq
    | [], _, h => exact (Bool.false_ne_true h).elim
    | none :: _, _, h => exact (Bool.false_ne_true h).elim
    | some _ :: _ :: _, _, h => exact (Bool.false_ne_true h).elim
    | [some _], [], h => exact (Bool.false_ne_true h).elim
    | [some _], _ :: _ :: _, h => exact (Bool.false_ne_true h).elim
  | .lenS a, X, sc, e, hx, h => by
    cases e <;> first | (exact (Bool.false_ne_true h).elim) | skip
    rename_i f as ks p
    cases f <;> first | (exact (Bool.false_ne_true h).elim) | skip
    match as, ks, h with
    | [a'], [], h =>
      change (_ && _) = true at h
      simp only [Bool.and_eq_true, beq_iff_eq] at h
      obtain ⟨⟨⟨rfl, h2⟩, h3⟩, h4⟩ := h
      refine DE.mk (pe_callB call_len3 (gl_of hx h2) (hx.tab.bi _ (by simpa using h3)) (by decide +kernel) (pa_cons (sE a a' hx h4) pa_nil (star_of h4)) (by decide) (by decide) (star_of h4) rfl) fun η μ ρ S σ H Q QD hE hR hT hQ => ?_
      simp only [wpE] at hT
      refine use hE hR hT fun d S1 v μ1 H1 g1 r1 e1 rv1 q1 => ?_
      obtain ⟨n, ks, rfl, hk, q⟩ := q1
      obtain ⟨a1, xs, rfl, rfl, hr, hq⟩ := sts_of r1 rv1 hk
      refine ⟨a1, xs, rfl, hr, ?_⟩
      have el : (xs.length : Int) = ((xs.map (·.1)).length : Int) := by rw [List.length_map]
      rw [el]
      exact hQ _ _ ((stay r1 (.int _) q).from g1)
    | [], _, h => exact (Bool.false_ne_true h).elim
    | _ :: _ :: _, _, h => exact (Bool.false_ne_true h).elim
    | [_], _ :: _, h => exact (Bool.false_ne_true h).elim
  | .inS a b, X, sc, e, hx, h => by
    cases e <;> first | (exact (Bool.false_ne_true h).elim) | skip
    rename_i a' ops bs p
    match ops, bs, h with
    | [.In], [b'], h =>
      change (_ && _) = true at h
      simp only [Bool.and_eq_true] at h
      refine DE.mk (pe_cmpR (op_in3 (by have := hx.room.units; omega)) (sE a _ hx h.1) (sE b _ hx h.2) (mark_of h.2)) fun η μ ρ S σ H Q QD hE hR hT hQ => ?_
      simp only [wpE] at hT
      refine use hE hR hT fun d S1 v μ1 H1 g1 r1 e1 rv1 q1 => use e1 r1 q1 fun d2 S2 v2 μ2 H2 g2 r2 e2 rv2 q2 => ?_
      obtain ⟨st, n, ks, rfl, rfl, hk, q⟩ := q2
      obtain ⟨a1, xs, rfl, rfl, hr, hq⟩ := sts_of r2 rv2 hk
      cases rv1.ext g2.ext with
      | tup hq1 qs =>
        have ev := k3_vals (st := st) qs
        subst ev
        exact ⟨a1, _, xs, st, rfl, rfl, hr, hq, hq1, hQ _ _ (((stay r2 (.bl _) q).from g2).from g1)⟩
    | [], _, h => exact (Bool.false_ne_true h).elim
    | op :: _ :: _, _, h => cases op <;> exact (Bool.false_ne_true h).elim
    | [op], [], h => cases op <;> exact (Bool.false_ne_true h).elim
    | [op], _ :: _ :: _, h => cases op <;> exact (Bool.false_ne_true h).elim
    | [.Eq], [_], h => exact (Bool.false_ne_true h).elim
    | [.NotEq], [_], h => exact (Bool.false_ne_true h).elim
    | [.Lt], [_], h => exact (Bool.false_ne_true h).elim
    | [.LtE], [_], h => exact (Bool.false_ne_true h).elim
    | [.Gt], [_], h => exact (Bool.false_ne_true h).elim
    | [.GtE], [_], h => exact (Bool.false_ne_true h).elim
    | [.Is], [_], h => exact (Bool.false_ne_true h).elim
    | [.IsNot], [_], h => exact (Bool.false_ne_true h).elim
    | [.NotIn], [_], h => exact (Bool.false_ne_true h).elim
  | .dcS key val tg it ifs own, X, sc, e, hx, h => by
    cases e <;> first | (exact (Bool.false_ne_true h).elim) | skip
    rename_i key' val' gs scope ps
    match gs, h with
    | [⟨tg', it', ifs', as⟩], h =>
      by_cases ha : as = 0
      · subst ha
        change (_ && _) = true at h
        simp only [Bool.and_eq_true] at h
        obtain ⟨⟨⟨⟨⟨⟨⟨⟨⟨h1, h2⟩, h2'⟩, h3⟩, h4⟩, h5⟩, h6⟩, h7⟩, h8⟩, h9⟩ := h
        have ok := blkOk_by h1
        have hok : BlkOk X.N X.env.scope scope (own.map fun i => (N.getD i "", i)) := by rw [hx.nm, hx.scp]; exact ok
        have hown : (own.map fun i => ((N.getD i "", i) : Str × Nat)).map (·.2) = own := by rw [List.map_map]; exact List.map_id _
        have P := pe_dcS (pos := ps) (ekx := key') (evx := val') (iff := ifs') (tge := tg') (itr := it') (sco := scope) (g := gS X.K tg) (tt := bOf X.K (wpBs G ifs)) (tk := tOf X.K (wpE G key)) (tv := tOf X.K (wpE G val)) hx.calm (by have := hx.room.units; omega) (by rw [hx.nm]; exact hx.nd) (sI it _ _ hx h6 (pairs_of h9)) hok (fun s H C cl fp => sT tg _ (hx.blk ok.kind s H C cl fp) h3 h4) (fun s H C cl fp => sBs ifs _ (hx.blk ok.kind s H C cl fp) h7 (by simpa using h8))
          (fun s H C cl fp => sE key _ (hx.blk ok.kind s H C cl fp) h2) (fun s H C cl fp => sE val _ (hx.blk ok.kind s H C cl fp) h2') (sI_fold it _ h6)
        rw [hown] at P
        refine DE.mk P fun η μ ρ S σ H Q QD hE hR hT hQ => ?_
        exact dcs_of hE hR h4 (fun i hi => by simpa using List.all_eq_true.mp h5 i hi) hT hQ
      · rcases as with (_ | _) | _ <;> first | exact (ha rfl).elim | exact (Bool.false_ne_true h).elim
    | [], h => exact (Bool.false_ne_true h).elim
    | _ :: _ :: _, h => exact (Bool.false_ne_true h).elim
  | .revL m a, X, sc, e, hx, h => by
    cases e <;> first | (exact (Bool.false_ne_true h).elim) | skip
    rename_i o sl p
    cases sl <;> first | (exact (Bool.false_ne_true h).elim) | skip
    rename_i lo hi st p2
    cases lo <;> cases hi <;> first | (exact (Bool.false_ne_true h).elim) | skip
    cases st <;> first | (exact (Bool.false_ne_true h).elim) | skip
    rename_i st
    cases st <;> first | (exact (Bool.false_ne_true h).elim) | skip
    rename_i op cst p3
    cases op <;> cases cst <;> first | (exact (Bool.false_ne_true h).elim) | skip
    rename_i cv ck p4
    cases cv <;> first | (exact (Bool.false_ne_true h).elim) | skip
    rename_i cv
    change (cv == 1 && okE T N sc a o) = true at h
    simp only [Bool.and_eq_true, beq_iff_eq] at h
    obtain ⟨rfl, h⟩ := h
    refine DE.mk (pe_revL (sE a o hx h)) fun η μ ρ S σ H Q QD hE hR hT hQ => ?_
    simp only [wpE] at hT
    refine use hE hR hT fun d S1 v μ1 H1 g1 r1 e1 rv1 q1 => ?_
    obtain ⟨xs, hl1, q⟩ := q1
    obtain ⟨a1, vs1, rfl, ha1, qa1⟩ := lst_of r1 rv1 hl1
    exact ⟨a1, vs1, rfl, .inl (.inl ha1), fun p hp => hQ _ _ ((new_lst r1 (rev_of qa1) q p hp).from g1)⟩
  | .scS m elt tg it ifs own, X, sc, e, hx, h => by
    cases e <;> first | (exact (Bool.false_ne_true h).elim) | skip
    rename_i f as ks p
    cases f <;> first | (exact (Bool.false_ne_true h).elim) | skip
    match as, ks, h with
    | [z], [], h =>
      cases z <;> first | (exact (Bool.false_ne_true h).elim) | skip
      rename_i elt' gs scope ps
      match gs, h with
      | [⟨tg', it', ifs', as⟩], h =>
        by_cases ha : as = 0
        · subst ha
          change (_ && _) = true at h
          simp only [Bool.and_eq_true, beq_iff_eq] at h
          obtain ⟨⟨⟨⟨⟨⟨⟨⟨⟨⟨⟨rfl, k2⟩, k3⟩, h1⟩, h2⟩, h3⟩, h4⟩, h5⟩, h6⟩, h7⟩, h8⟩, h9⟩ := h
          have ok := blkOk_by h1
          have hok : BlkOk X.N X.env.scope scope (own.map fun i => (N.getD i "", i)) := by rw [hx.nm, hx.scp]; exact ok
          have hown : (own.map fun i => ((N.getD i "", i) : Str × Nat)).map (·.2) = own := by rw [List.map_map]; exact List.map_id _
          have P := pe_scI (pos := ps) (em := elt') (iff := ifs') (tge := tg') (itr := it') (sco := scope) (g := gS X.K tg) (tt := bOf X.K (wpBs G ifs)) (te := tOf X.K (wpE G elt)) hx.calm (by rw [hx.nm]; exact hx.nd) (sI it _ _ hx h6 (pairs_of h9)) hok (fun s H C cl fp => sT tg _ (hx.blk ok.kind s H C cl fp) h3 h4) (fun s H C cl fp => sBs ifs _ (hx.blk ok.kind s H C cl fp) h7 (by simpa using h8))
            (fun s H C cl fp => sE elt _ (hx.blk ok.kind s H C cl fp) h2) (sI_fold it _ h6)
          rw [hown] at P
          refine DE.mk (pe_sort1 hx.calm (gl_of hx k2) rfl (hx.tab.bi _ (by simpa using k3)) P rfl) fun η μ ρ S σ H Q QD hE hR hT hQ => ?_
          exact sc_of hE hR h4 (fun i hi => by simpa using List.all_eq_true.mp h5 i hi) hT hQ
        · rcases as with (_ | _) | _ <;> first | exact (ha rfl).elim | exact (Bool.false_ne_true h).elim
      | [], h => exact (Bool.false_ne_true h).elim
      | _ :: _ :: _, h => exact (Bool.false_ne_true h).elim
    | [], _, h => exact (Bool.false_ne_true h).elim
    | _ :: _ :: _, _, h => exact (Bool.false_ne_true h).elim
    | [_], _ :: _, h => exact (Bool.false_ne_true h).elim
  | .sSet m a, X, sc, e, hx, h => by
    cases e <;> first | (exact (Bool.false_ne_true h).elim) | skip
    rename_i f as ks p
    cases f <;> first | (exact (Bool.false_ne_true h).elim) | skip
    match as, ks, h with
    | [z], [], h =>
      cases z <;> first | (exact (Bool.false_ne_true h).elim) | skip
      rename_i f2 as2 ks2 p2
      cases f2 <;> first | (exact (Bool.false_ne_true h).elim) | skip
      rename_i y2 py2
      match as2, ks2, h with
      | [a'], [], h =>
        change (_ && _) = true at h
        simp only [Bool.and_eq_true, beq_iff_eq] at h
        obtain ⟨⟨⟨⟨⟨⟨rfl, k2⟩, k3⟩, rfl⟩, k5⟩, k6⟩, k7⟩ := h
        have P := pe_callTy (pos := p2) (p := py2) (cr_setI hx.calm) (gl_of hx k5) (hx.tab.bi _ (by simpa using k6)) (by decide +kernel) (pa_cons (sE a a' hx k7) pa_nil (star_of k7)) (by decide) (by decide) (star_of k7) rfl
        refine DE.mk (pe_sort1 hx.calm (gl_of hx k2) rfl (hx.tab.bi _ (by simpa using k3)) P rfl) fun η μ ρ S σ H Q QD hE hR hT hQ => ?_
        simp only [wpE] at hT
        refine use hE hR hT fun d S1 v μ1 H1 g1 r1 e1 rv1 q1 => ?_
        obtain ⟨ns, M, hl1, h4k, h64, hM, q⟩ := q1
        obtain ⟨a1, vs1, rfl, ha1, qa1⟩ := lst_of r1 rv1 hl1
        have ev : vs1 = ns.map V.int := dints_of qa1
        subst ev
        refine ⟨a1, ns, rfl, .inl (.inl ha1), h4k, fun p0 F n hp0 hF hn => ⟨p0, F, n, rfl, upd_same, Nat.lt_of_le_of_lt (hn M hM) h64, fun ns' p3 hp hm _ hp3 => hQ _ _ ?_⟩⟩
        have r2 := rp_new (o := SetO X.w p0 F n) r1 hp0
        exact ((new_lst r2 (vs := ns'.map V.int) (rvs_intsD ns') (q ns' hp fun k => (hm k).trans (hF k)) p3 hp3).from (grow_new r1 hp0)).from g1
      | [], _, h => exact (Bool.false_ne_true h).elim
      | _ :: _ :: _, _, h => exact (Bool.false_ne_true h).elim
      | [_], _ :: _, h => exact (Bool.false_ne_true h).elim
    | [], _, h => exact (Bool.false_ne_true h).elim
    | _ :: _ :: _, _, h => exact (Bool.false_ne_true h).elim
    | [_], _ :: _, h => exact (Bool.false_ne_true h).elim
  | .fld cn a f, X, sc, e, hx, h => by
    cases e <;> first | (exact (Bool.false_ne_true h).elim) | skip
    rename_i o f' p
    change (_ && _) = true at h
    simp only [Bool.and_eq_true, beq_iff_eq] at h
    obtain ⟨⟨⟨rfl, h2⟩, h3⟩, h4⟩ := h
    refine DE.mk (pe_fld (sE a _ hx h2) (base_of h3)) fun η μ ρ S σ H Q QD hE hR hT hQ => ?_
    simp only [wpE] at hT
    refine use hE hR hT fun d S1 v μ1 H1 g1 r1 e1 rv1 q1 => ?_
    obtain ⟨n, fs, w, rfl, hc, hw, q⟩ := q1
    obtain ⟨a1, C, dx, vs, rfl, hn, ha, hq⟩ := ins_of r1 rv1 hc
    obtain ⟨cc, na⟩ := attr_of' hx.tab h4 hn
    obtain ⟨u, hu, ru⟩ := (RKs.look hq).1 _ hw
    exact ⟨a1, C, dx, vs, u, rfl, ha, cc, na, hu, hQ _ _ ((stay r1 ru q).from g1)⟩
  | .meth cn a m j es, X, sc, e, hx, h => by
    cases e <;> first | (exact (Bool.false_ne_true h).elim) | skip
    rename_i f as ks p
    cases f <;> first | (exact (Bool.false_ne_true h).elim) | skip
    rename_i o m' ap
    cases ks with
    | cons _ _ => exact (Bool.false_ne_true h).elim
    | nil =>
      change (_ && _) = true at h
      simp only [Bool.and_eq_true, beq_iff_eq] at h
      obtain ⟨⟨⟨⟨⟨rfl, h2⟩, h3⟩, h5⟩, hel, hfe⟩, h4⟩ := h
      have hfe := of_decide_eq_true hfe
      split at h4
      · rename_i i hi
        simp only [Bool.and_eq_true, beq_iff_eq, Bool.not_eq_true'] at h4
        obtain ⟨⟨⟨h6, hko⟩, hcl⟩, hcs⟩ := h4
        subst h6
        obtain ⟨f, fd, ⟨F0, _⟩, ⟨_, hme⟩, hk, hb0, _⟩ := hx.tab.fn j i hi
        have F := F0.mono (Nat.sub_le k i.up)
        obtain ⟨C, hn, M⟩ := hme cn hcl
        have cc := cls_of' hx.tab hcs hn
        have hb := hb0 hko
        cases as with
        | nil =>
          cases es with
          | cons _ _ => simp [okEs] at h3
          | nil =>
            obtain ⟨pl, ht⟩ := ht_of (m := i.name) (ap := ap) (as := []) (kws := []) (pos := p) (env := X.env) h5 (form_of rfl (by decide)) (by simpa using hel)
            refine DE.mk (pe_methG0 (sE a _ hx h2) cc M F hx.room hx.gd hb pk_nil rfl rfl rfl ht) fun η μ ρ S σ H Q QD hE hR hT hQ => ?_
            simp only [wpE, wpEs] at hT
            refine use hE hR hT fun d S1 v μ1 H1 g1 r1 e1 rv1 q1 => ?_
            obtain ⟨n, fs, rfl, hc, hl, q⟩ := q1
            obtain ⟨a1, C', dx, vs, rfl, hn', ha, hq⟩ := ins_of r1 rv1 hc
            rw [hn] at hn'; cases hn'
            exact ⟨a1, dx, vs, rfl, ha, (RKs.look hq).2 hl, η, μ1, S1, _, QD, r1, .cons rv1 .nil, q, fun v H' p => hQ _ _ (p.from g1)⟩
        | cons e' es' =>
          obtain ⟨⟨c0, h31⟩, _⟩ := okEs_cons h3
          obtain ⟨pl, ht⟩ := ht_of (m := i.name) (ap := ap) (as := e' :: es') (kws := []) (pos := p) (env := X.env) h5 (form_of (by rw [stars_of h3]; rfl) hfe) (by simpa using hel)
          refine DE.mk (pe_methG (sE a _ hx h2) cc M F hx.room hx.gd hb (sEs es _ hx h3) pk_nil rfl rfl (star_of h31) (by rw [stars_of h3]; rfl) ht) fun η μ ρ S σ H Q QD hE hR hT hQ => ?_
          simp only [wpE] at hT
          refine use hE hR hT fun d S1 v μ1 H1 g1 r1 e1 rv1 q1 => ?_
          obtain ⟨n, fs, rfl, hc, hl, q⟩ := q1
          obtain ⟨a1, C', dx, vs, rfl, hn', ha, hq⟩ := ins_of r1 rv1 hc
          rw [hn] at hn'; cases hn'
          refine ⟨a1, dx, vs, rfl, ha, (RKs.look hq).2 hl, useA e1 r1 q fun ds S2 vs2 μ2 H2 g2 r2 e2 rv2 hl2 q2 => ?_⟩
          exact ⟨η, μ2, S2, _, QD, r2, .cons (rv1.ext g2.ext) rv2, q2, fun v H' p => hQ _ _ ((p.from g2).from g1)⟩
      · cases h4
  | .mk cn j es, X, sc, e, hx, h => by
    cases e <;> first | (exact (Bool.false_ne_true h).elim) | skip
    rename_i f as ks p
    cases f <;> first | (exact (Bool.false_ne_true h).elim) | skip
    cases ks with
    | cons _ _ => exact (Bool.false_ne_true h).elim
    | nil =>
      change (_ && _) = true at h
      simp only [Bool.and_eq_true, beq_iff_eq] at h
      obtain ⟨⟨⟨⟨rfl, h1⟩, h2⟩, h3⟩, h4⟩ := h
      split at h4
      · rename_i i hi
        simp only [Bool.and_eq_true, beq_iff_eq, Bool.not_eq_true'] at h4
        obtain ⟨⟨⟨⟨h6, hko⟩, hcl⟩, hcs⟩, hup⟩ := h4
        obtain ⟨f, fd, ⟨F, hle⟩, ⟨_, hme⟩, hk, hb0, _⟩ := hx.tab.fn j i hi
        obtain ⟨C, hn, M⟩ := hme _ hcl
        obtain ⟨hm, cc, hmk, hkc⟩ := mk_of' hx.tab hcs hn
        rw [h6] at M
        have MK : Mk X.K C f := ⟨hmk, M.at_, M.fn, hkc⟩
        have hr : Room (k - i.up + 1) X.A := by rw [hup, Nat.sub_add_cancel (by omega)]; exact hx.room
        have hb := hb0 hko
        cases as with
        | nil =>
          cases es with
          | cons _ _ => simp [okEs] at h3
          | nil =>
            refine DE.mk (pe_makeG0 MK F hr hx.gd (gl_of hx h1) hm hb pk_nil rfl rfl (dbg_of h2).1 rfl) fun η μ ρ S σ H Q QD hE hR hT hQ => ?_
            simp only [wpE, wpEs] at hT
            intro x dx hx0 hd0 ne
            obtain ⟨rn, gn⟩ := rp_make hR hn hx0 hd0 ne
            exact ⟨η, _, _, _, _, rn, .cons (rv_cell hR) .nil, hT, fun v H' p => made_of hR gn p hQ⟩
        | cons e' es' =>
          obtain ⟨⟨c0, h31⟩, _⟩ := okEs_cons h3
          refine DE.mk (pe_makeG MK F hr hx.gd (gl_of hx h1) hm hb (sEs es _ hx h3) pk_nil rfl rfl (dbg_of h2).1 (star_of h31) (by rw [stars_of h3]; rfl)) fun η μ ρ S σ H Q QD hE hR hT hQ => ?_
          simp only [wpE] at hT
          refine useA hE hR hT fun ds S1 vs μ1 H1 g1 r1 e1 rv1 hl q1 => ?_
          intro x dx hx0 hd0 ne
          obtain ⟨rn, gn⟩ := rp_make r1 hn hx0 hd0 ne
          exact ⟨η, _, _, _, _, rn, .cons (rv_cell r1) (rv1.ext gn.ext), q1, fun v H' p => made_of r1 gn p fun v H' p => hQ _ _ (p.from g1)⟩
      · cases h4
theorem sEs : ∀ (cs : List CE) {X : Cx} {sc : SS} (es : List Expr), Here T G k N X sc → okEs T N sc cs es = true → PA X es (aOf X.K cs.length (wpEs G cs))
  | [], X, sc, es, hx, h => by
    cases es with
    | cons _ _ => simp [okEs] at h
    | nil =>
      refine PA.imp pa_nil fun σ H Q ⟨η, μ, ρ, S, QD, hE, hR, hT, hQ⟩ => ?_
      simp only [wpEs] at hT
      exact hQ [] H ⟨[], S, μ, .refl, hR, .nil, hT⟩ rfl
  | c :: cs, X, sc, es, hx, h => by
    cases es with
    | nil => simp [okEs] at h
    | cons e es =>
      simp only [okEs, Bool.and_eq_true] at h
      refine PA.imp (pa_cons (sE c e hx h.1) (sEs cs es hx h.2) (star_of h.1)) fun σ H Q ⟨η, μ, ρ, S, QD, hE, hR, hT, hQ⟩ => ?_
      simp only [wpEs] at hT
      refine use hE hR hT fun d S1 v μ1 H1 g1 r1 e1 rv1 q1 => useA e1 r1 q1 fun ds S2 vs μ2 H2 g2 r2 e2 rv2 hl q2 => ?_
      exact hQ _ _ ⟨d :: ds, S2, μ2, g1.trans g2, r2, .cons (rv1.ext g2.ext) rv2, q2⟩ (by simp [hl])
theorem sPs : ∀ (cs : List CE) (ks : List Str) {X : Cx} {sc : SS} (keys : List (Option Expr)) (es : List Expr) (pos : Pos), Here T G k N X sc → okDs T N sc ks cs keys es = true →
    ∃ trs, PPs X pos keys es trs ∧ keys.all (·.isSome) = true ∧ ks.length = keys.length ∧ ks.length = es.length ∧
      ∀ η μ ρ S σ H QD (Q : List (V × V) → Hp → Prop), RE X.K H η μ ρ σ → Rp X.K η μ S H → wpEs G cs ρ S QD → (∀ ds vs S' μ' H', Grow μ H μ' H' → Rp X.K η μ' S' H' → RVs X.K H' η μ' ds vs → vs.length = ks.length → QD ds S' → Q ((ks.map V.str).zip vs) H') → tPairs trs σ H Q
  | [], ks, X, sc, keys, es, pos, hx, h => by
    match ks, keys, es, h with
    | [], [], [], _ =>
      refine ⟨[], pps_nil, rfl, rfl, rfl, fun η μ ρ S σ H QD Q hE hR hT hQ => ?_⟩
      simp only [wpEs] at hT
      exact hQ [] [] S μ H .refl hR .nil rfl hT
    | _ :: _, _, _, h => simp [okDs] at h
    | [], _ :: _, _, h => simp [okDs] at h
    | [], [], _ :: _, h => simp [okDs] at h
  | c :: cs, ks, X, sc, keys, es, pos, hx, h => by
    match ks, keys, es, h with
    | [], _, _, h => simp [okDs] at h
    | _ :: _, [], _, h => simp [okDs] at h
    | _ :: _, none :: _, _, h => simp [okDs] at h
    | _ :: _, some _ :: _, [], h => simp [okDs] at h
    | x :: ks, some kx :: keys, e :: es, h =>
      cases kx <;> first | (simp [okDs] at h; done) | skip
      rename_i cst kk kp
      cases cst <;> first | (simp [okDs] at h; done) | skip
      simp only [okDs, Bool.and_eq_true, beq_iff_eq] at h
      obtain ⟨⟨h1, h2⟩, h3⟩ := h
      subst h1
      obtain ⟨trs, P, hall, hl1, hl2, use'⟩ := sPs cs ks keys es pos hx h3
      refine ⟨_, pps_cons pe_str (sE c e hx h2) P, by simp [hall], by simp [hl1], by simp [hl2], fun η μ ρ S σ H QD Q hE hR hT hQ => ?_⟩
      simp only [wpEs] at hT
      refine use hE hR hT fun d S1 v μ1 H1 g1 r1 e1 rv1 q1 => use' η μ1 ρ S1 σ H1 _ _ e1 r1 q1 fun ds vs S' μ' H' g' r' rv' hl' q' => ?_
      exact hQ (d :: ds) (v :: vs) S' μ' H' (g1.trans g') r' (.cons (rv1.ext g'.ext) rv') (by simp [hl']) q'
theorem sKs : ∀ (cs : List CE) {X : Cx} {sc : SS} (ks : List Keyword), Here T G k N X sc → okKs T N sc cs ks = true → PK X ks (aOf X.K cs.length (wpEs G cs))
  | [], X, sc, es, hx, h => by
    cases es with
    | cons _ _ => simp [okKs] at h
    | nil =>
      refine PK.imp pk_nil fun σ H Q ⟨η, μ, ρ, S, QD, hE, hR, hT, hQ⟩ => ?_
      simp only [wpEs] at hT
      exact hQ [] H ⟨[], S, μ, .refl, hR, .nil, hT⟩ rfl
  | c :: cs, X, sc, es, hx, h => by
    cases es with
    | nil => simp [okKs] at h
    | cons e es =>
      obtain ⟨n, e, p⟩ := e
      simp only [okKs, Bool.and_eq_true] at h
      refine PK.imp (pk_cons (sE c e hx h.1.2) (sKs cs es hx h.2)) fun σ H Q ⟨η, μ, ρ, S, QD, hE, hR, hT, hQ⟩ => ?_
      simp only [wpEs] at hT
      refine use hE hR hT fun d S1 v μ1 H1 g1 r1 e1 rv1 q1 => useA e1 r1 q1 fun ds S2 vs μ2 H2 g2 r2 e2 rv2 hl q2 => ?_
      exact hQ _ _ ⟨d :: ds, S2, μ2, g1.trans g2, r2, .cons (rv1.ext g2.ext) rv2, q2⟩ (by simp [hl])
theorem sO : ∀ (c : CO) {X : Cx} {sc : SS} (e : Option Expr), Here T G k N X sc → okO T N sc c e = true → PO X e (bOf X.K (wpO G c))
  | .no, X, sc, e, hx, h => by
    cases e with
    | some _ => exact (Bool.false_ne_true h).elim
    | none =>
      refine PO.imp po_none fun σ H Q ⟨η, μ, ρ, S, QD, hE, hR, hT, hQ⟩ => ?_
      simp only [wpO] at hT
      exact hQ none H ⟨S, μ, .refl, hR, hT⟩
  | .yes c, X, sc, e, hx, h => by
    cases e with
    | none => exact (Bool.false_ne_true h).elim
    | some e =>
      simp only [okO] at h
      refine PO.imp (po_some (sE c e hx h)) fun σ H Q ⟨η, μ, ρ, S, QD, hE, hR, hT, hQ⟩ => ?_
      simp only [wpO] at hT
      refine use hE hR hT fun d S1 v μ1 H1 g1 r1 e1 rv1 q1 => ?_
      obtain ⟨i, rfl, q⟩ := q1
      cases rv1
      exact ⟨i, rfl, hQ _ _ ⟨S1, μ1, g1, r1, q⟩⟩
theorem sB : ∀ (c : CB) {X : Cx} {sc : SS} (e : Expr), Here T G k N X sc → okB T N sc c e = true → PT X e (bOf X.K (wpB G c))
  | .cand a b, X, sc, e, hx, h => by
    cases e <;> first | (exact (Bool.false_ne_true h).elim) | skip
    rename_i op vs p
    match op, vs, h with
    | .And, a' :: b' :: r, h =>
      change (_ && _) = true at h
      simp only [Bool.and_eq_true] at h
      have hb : PW X (.BoolOp .And (b' :: r) p) (bOf X.K (wpB G b)) := by
        cases r with
        | nil => exact pw_and1 (sB b _ hx h.2)
        | cons c' r' => exact bool_ext (sB b _ hx h.2)
      refine PT.imp (pw_and (sB a _ hx h.1) hb).pt fun σ H Q ⟨η, μ, ρ, S, QD, hE, hR, hT, hQ⟩ => ?_
      simp only [wpB] at hT
      refine useB hE hR hT fun c S1 μ1 H1 g1 r1 e1 q1 => ?_
      cases c with
      | true =>
        simp only [if_true] at q1 ⊢
        exact ⟨_, _, _, _, _, e1, r1, q1, fun v H' ⟨S2, μ2, g2, r2, q2⟩ => hQ _ _ ⟨S2, μ2, g1.trans g2, r2, q2⟩⟩
      | false =>
        simp only [Bool.false_eq_true, if_false] at q1 ⊢
        exact hQ _ _ ⟨S1, μ1, g1, r1, q1⟩
    | .And, [], h => exact (Bool.false_ne_true h).elim
    | .And, [_], h => exact (Bool.false_ne_true h).elim
    | .Or, _, h => exact (Bool.false_ne_true h).elim
  | .cor a b, X, sc, e, hx, h => by
    cases e <;> first | (exact (Bool.false_ne_true h).elim) | skip
    rename_i op vs p
    match op, vs, h with
    | .Or, a' :: b' :: r, h =>
      change (_ && _) = true at h
      simp only [Bool.and_eq_true] at h
      have hb : PW X (.BoolOp .Or (b' :: r) p) (bOf X.K (wpB G b)) := by
        cases r with
        | nil => exact pw_or1 (sB b _ hx h.2)
        | cons c' r' => exact bool_ext (sB b _ hx h.2)
      refine PT.imp (pw_or (sB a _ hx h.1) hb).pt fun σ H Q ⟨η, μ, ρ, S, QD, hE, hR, hT, hQ⟩ => ?_
      simp only [wpB] at hT
      refine useB hE hR hT fun c S1 μ1 H1 g1 r1 e1 q1 => ?_
      cases c with
      | false =>
        simp only [Bool.false_eq_true, if_false] at q1 ⊢
        exact ⟨_, _, _, _, _, e1, r1, q1, fun v H' ⟨S2, μ2, g2, r2, q2⟩ => hQ _ _ ⟨S2, μ2, g1.trans g2, r2, q2⟩⟩
      | true =>
        simp only [if_true] at q1 ⊢
        exact hQ _ _ ⟨S1, μ1, g1, r1, q1⟩
    | .Or, [], h => exact (Bool.false_ne_true h).elim
    | .Or, [_], h => exact (Bool.false_ne_true h).elim
    | .And, _, h => exact (Bool.false_ne_true h).elim
  | .cnot a, X, sc, e, hx, h => by
    cases e <;> first | (exact (Bool.false_ne_true h).elim) | skip
    rename_i op x p
    cases op <;> first | (exact (Bool.false_ne_true h).elim) | skip
    refine PT.imp (pt_not (sB a x hx h)) fun σ H Q ⟨η, μ, ρ, S, QD, hE, hR, hT, hQ⟩ => ?_
    simp only [wpB] at hT
    exact useB hE hR hT fun c S1 μ1 H1 g1 r1 e1 q1 => hQ _ _ ⟨S1, μ1, g1, r1, q1⟩
  | .ccmp op a b, X, sc, e, hx, h => by
    cases e <;> first | (exact (Bool.false_ne_true h).elim) | skip
    rename_i l ops cs p
    match ops, cs, h with
    | [op'], [b'], h =>
      change (_ && _) = true at h
      simp only [Bool.and_eq_true, beq_iff_eq] at h
      obtain ⟨⟨h1, h2⟩, h3⟩ := h
      subst h1
      obtain ⟨r, ho, hr⟩ := cmpR (X := X) hx.room.units op
      refine PT.imp (pt_cmpR ho (sE a _ hx h2) (sE b _ hx h3) (mark_of h3)) fun σ H Q ⟨η, μ, ρ, S, QD, hE, hR, hT, hQ⟩ => ?_
      simp only [wpB] at hT
      refine use hE hR hT fun d S1 v μ1 H1 g1 r1 e1 rv1 q1 => use e1 r1 q1 fun d2 S2 v2 μ2 H2 g2 r2 e2 rv2 q2 => ?_
      exact hr r2 (rv1.ext g2.ext) rv2 q2 fun b hb => ⟨b, rfl, hQ _ _ ⟨S2, μ2, g1.trans g2, r2, hb⟩⟩
    | [], _, h => exact (Bool.false_ne_true h).elim
    | [_], [], h => exact (Bool.false_ne_true h).elim
    | [_], _ :: _ :: _, h => exact (Bool.false_ne_true h).elim
    | _ :: _ :: _, _, h => exact (Bool.false_ne_true h).elim
  | .cinS a b, X, sc, e, hx, h => by
    cases e <;> first | (exact (Bool.false_ne_true h).elim) | skip
    rename_i l ops cs p
    match ops, cs, h with
    | [op'], [b'], h =>
      cases op' <;> first | (exact (Bool.false_ne_true h).elim) | skip
      change (_ && _) = true at h
      simp only [Bool.and_eq_true] at h
      obtain ⟨h2, h3⟩ := h
      refine PT.imp (pt_cmpR (op_in3 (by have := hx.room.units; omega)) (sE a _ hx h2) (sE b _ hx h3) (mark_of h3)) fun σ H Q ⟨η, μ, ρ, S, QD, hE, hR, hT, hQ⟩ => ?_
      simp only [wpB] at hT
      refine use hE hR hT fun d S1 v μ1 H1 g1 r1 e1 rv1 q1 => use e1 r1 q1 fun d2 S2 v2 μ2 H2 g2 r2 e2 rv2 q2 => ?_
      obtain ⟨st, n, ks, rfl, rfl, hk, q⟩ := q2
      obtain ⟨a1, xs, rfl, rfl, hr, hq⟩ := sts_of r2 rv2 hk
      cases rv1.ext g2.ext with
      | tup hq1 qs =>
        have ev := k3_vals (st := st) qs
        subst ev
        exact ⟨a1, _, xs, st, rfl, rfl, hr, hq, hq1, ⟨_, rfl, hQ _ _ ⟨S2, μ2, g1.trans g2, r2, q⟩⟩⟩
    | [], _, h => exact (Bool.false_ne_true h).elim
    | [_], [], h => exact (Bool.false_ne_true h).elim
    | [_], _ :: _ :: _, h => exact (Bool.false_ne_true h).elim
    | _ :: _ :: _, _, h => exact (Bool.false_ne_true h).elim
  | .cdnil a b, X, sc, e, hx, h => by
    cases e <;> first | (exact (Bool.false_ne_true h).elim) | skip
    rename_i l ops cs p
    match ops, cs, h with
    | [op'], [b'], h =>
      cases op' <;> first | (exact (Bool.false_ne_true h).elim) | skip
      change (_ && _) = true at h
      simp only [Bool.and_eq_true] at h
      obtain ⟨h2, h3⟩ := h
      refine PT.imp (pt_cmpR (op_eqD0 (by have := hx.room.units; omega)) (sE a _ hx h2) (sE b _ hx h3) (mark_of h3)) fun σ H Q ⟨η, μ, ρ, S, QD, hE, hR, hT, hQ⟩ => ?_
      simp only [wpB] at hT
      refine use hE hR hT fun d S1 v μ1 H1 g1 r1 e1 rv1 q1 => use e1 r1 q1 fun d2 S2 v2 μ2 H2 g2 r2 e2 rv2 q2 => ?_
      obtain ⟨n, m, kvs, rfl, rfl, hd, hc, q⟩ := q2
      cases rv1 with
      | @ref n a1 hn1 =>
      cases rv2 with
      | @ref m a2 hn2 =>
      have hn1' : μ2[n]? = some a1 := by
        obtain ⟨more, em⟩ := g2.pre
        rw [em, List.getElem?_append_left (List.getElem?_eq_some_iff.mp hn1).1]; exact hn1
      obtain ⟨a2', ha2, vs2, hv2, qk2⟩ := r2.cell m _ hc
      rw [hn2] at ha2; cases ha2
      have s1 : DSz H2 a1 kvs.length := by
        unfold dctOf at hd
        cases hc1 : S2[n]? with
        | none => rw [hc1] at hd; cases hd
        | some c =>
          rw [hc1] at hd
          cases c with
          | dct kv =>
            cases hd
            obtain ⟨a', ha', vs, hv, qk⟩ := r2.cell n _ hc1
            rw [hn1'] at ha'; cases ha'
            exact ⟨vs, qk.length.symm, .inl hv⟩
          | dlk kv =>
            cases hd
            obtain ⟨a', ha', ob, vs, hv, qk⟩ := r2.cell n _ hc1
            rw [hn1'] at ha'; cases ha'
            exact ⟨vs, qk.length.symm, .inr ⟨ob, hv⟩⟩
          | _ => cases hd
      have s2 : DSz H2 a2 0 := ⟨vs2, by cases qk2; rfl, .inl hv2⟩
      refine ⟨a1, a2, kvs.length, rfl, rfl, s1, s2, ⟨_, rfl, hQ _ _ ⟨S2, μ2, g1.trans g2, r2, ?_⟩⟩⟩
      have : decide (kvs.length = 0) = kvs.isEmpty := by cases kvs <;> simp
      rw [this]; exact q
    | [], _, h => exact (Bool.false_ne_true h).elim
    | [_], [], h => exact (Bool.false_ne_true h).elim
    | [_], _ :: _ :: _, h => exact (Bool.false_ne_true h).elim
    | _ :: _ :: _, _, h => exact (Bool.false_ne_true h).elim
  | .cval c, X, sc, e, hx, h => by
    cases e <;> first | (exact (Bool.false_ne_true h).elim) | skip
    all_goals
      change okE T N sc c _ = true at h
      refine PT.imp (pt_truth (sE c _ hx h) (by intro _; rfl)) fun σ H Q ⟨η, μ, ρ, S, QD, hE, hR, hT, hQ⟩ => ?_
      simp only [wpB] at hT
      refine use hE hR hT fun d S1 v μ1 H1 g1 r1 e1 rv1 q1 => ?_
      obtain ⟨b, h1, h2⟩ := tru_of r1 rv1 q1
      exact ⟨b, h1, hQ _ _ ⟨S1, μ1, g1, r1, h2⟩⟩
theorem sBs : ∀ (cs : List CB) {X : Cx} {sc : SS} (es : List Expr), Here T G k N X sc → okBs T N sc cs es = true → cs.length ≤ 1 → PTs X es (bOf X.K (wpBs G cs))
  | [], X, sc, es, hx, h, _ => by
    cases es with
    | cons _ _ => simp [okBs] at h
    | nil =>
      refine PTs.imp pts_nil fun σ H Q ⟨η, μ, ρ, S, QD, hE, hR, hT, hQ⟩ => ?_
      simp only [wpBs] at hT
      exact hQ true H ⟨S, μ, .refl, hR, hT⟩
  | [c], X, sc, es, hx, h, _ => by
    cases es with
    | nil => simp [okBs] at h
    | cons e es =>
      cases es with
      | cons _ _ => simp [okBs] at h
      | nil =>
        simp only [okBs, Bool.and_true] at h
        refine PTs.imp (pts_one (sB c e hx h)) fun σ H Q ⟨η, μ, ρ, S, QD, hE, hR, hT, hQ⟩ => ?_
        simp only [wpBs] at hT
        refine useB hE hR hT fun b S1 μ1 H1 g1 r1 e1 q1 => hQ _ _ ⟨S1, μ1, g1, r1, ?_⟩
        cases b <;> exact q1
  | _ :: _ :: _, X, sc, es, hx, h, hl => by simp at hl
theorem sT : ∀ (t : CT) {X : Cx} {sc : SS} (e : Expr), Here T G k N X sc → okT T N sc t e = true → CT.simple t = true → PG X e (gS X.K t)
  | .name i, X, sc, e, hx, h, _ => by
    cases e <;> first | (exact (Bool.false_ne_true h).elim) | skip
    change (_ && _) = true at h
    simp only [Bool.and_eq_true] at h
    obtain ⟨h1, h2⟩ := loc_of h.1
    refine pg_name (i := i) (by rw [hx.nm]; exact hx.nd) (by rw [hx.nm]; exact lits h.2) (by rw [hx.scp]; exact h1) ?_
    rcases h2 with h2 | h2
    · exact .inl (hx.fn _ h2)
    · exact .inr (by rw [hx.scp]; exact h2)
  | .tup ts, X, sc, e, hx, h, hs => by
    cases e <;> first | (exact (Bool.false_ne_true h).elim) | skip
    rename_i es' _ _
    obtain ⟨a, b, c⟩ := sTs ts es' hx h hs
    exact pg_or (pg_tup hx.calm a b c) (pg_lst hx.calm a b c)
  | .sub _ _, X, sc, e, hx, h, hs => by simp [CT.simple] at hs
  | .dsub _ _, X, sc, e, hx, h, hs => by simp [CT.simple] at hs
  | .ksub _ _, X, sc, e, hx, h, hs => by simp [CT.simple] at hs
  | .sput _ _, X, sc, e, hx, h, hs => by simp [CT.simple] at hs
  | .kput _ _, X, sc, e, hx, h, hs => by simp [CT.simple] at hs
theorem sTs : ∀ (ts : List CT) {X : Cx} {sc : SS} (es : List Expr), Here T G k N X sc → okTs T N sc ts es = true → CT.simple.simples ts = true → PGs X es (gSs X.K ts) ∧ (assignEach es X.env).length = ts.length ∧ (assignEach es X.env).findIdx? (·.1) = none
  | [], X, sc, es, hx, h, _ => by
    cases es with
    | cons _ _ => simp [okTs] at h
    | nil => exact ⟨pgs_nil, rfl, rfl⟩
  | t :: ts, X, sc, es, hx, h, hs => by
    cases es with
    | nil => simp [okTs] at h
    | cons e es =>
      simp only [okTs, Bool.and_eq_true] at h
      simp only [CT.simple.simples, Bool.and_eq_true] at hs
      obtain ⟨a, b, c⟩ := sTs ts es hx h.2 hs.2
      have he : assignEach (e :: es) X.env = (false, assign e X.env) :: assignEach es X.env := by
        cases e <;> first | rfl | (exfalso; cases t <;> exact (Bool.false_ne_true h.1).elim)
      refine ⟨pgs_cons (sT t e hx h.1 hs.1) a (by rw [he]; rfl), by rw [he]; simp [b], ?_⟩
      rw [he, List.findIdx?_cons]
      simp [c]
theorem sI : ∀ (c : CI) {X : Cx} {sc : SS} (tg e : Expr), Here T G k N X sc → okI T N sc c e = true → (c.pairs = true → isTupE tg = true) → PI X tg e (iOf X.K (wpI G c))
  | .seq c, X, sc, tg, e, hx, h, _ => by
    refine PI.imp (pi_seq (sE c e hx h)) fun σ H R ⟨η, μ, ρ, S, RD, hE, hR, hT, hJ⟩ => ?_
    simp only [wpI] at hT
    refine use hE hR hT fun d S1 v μ1 H1 g1 r1 e1 rv1 q1 => ?_
    exact seq_it r1 rv1 q1 fun J items I q jok => hJ J H1 items I S1 μ1 g1 r1 q jok
  | .alt a b, X, sc, tg, e, hx, h, hp => by
    have h' : okI T N sc a e = true ∧ okI T N sc b e = true := by
      change (_ && _) = true at h
      exact Bool.and_eq_true_iff.mp h
    have pa := sI a tg e hx h'.1 fun z => hp (by show (a.pairs || b.pairs) = true; rw [z]; rfl)
    have pb := sI b tg e hx h'.2 fun z => hp (by show (a.pairs || b.pairs) = true; rw [z, Bool.or_true])
    refine ⟨fun pins s σ H R I ⟨η, μ, ρ, S, RD, hE, hR, hT, hJ⟩ => ?_⟩
    simp only [wpI] at hT
    rcases hT with hT | hT
    · exact pa.run pins s σ H R I ⟨η, μ, ρ, S, RD, hE, hR, hT, hJ⟩
    · exact pb.run pins s σ H R I ⟨η, μ, ρ, S, RD, hE, hR, hT, hJ⟩
  | .keysF c, X, sc, tg, e, hx, h, _ => by
    refine PI.imp (pi_keys (pe_freeze (sE c e hx h))) fun σ H R ⟨η, μ, ρ, S, RD, hE, hR, hT, hJ⟩ => ?_
    simp only [wpI] at hT
    refine use hE hR hT fun d S1 v μ1 H1 g1 r1 e1 rv1 q1 => ?_
    obtain ⟨n, kvs, rfl, q⟩ := q1
    cases rv1 with
    | @ref n a hn =>
      rcases q with ⟨hc, q⟩ | ⟨hc, q⟩
      · obtain ⟨a', ha', vs, hv, qk⟩ := r1.cell n _ hc
        rw [hn] at ha'; cases ha'
        refine .inr ⟨a, vs, rfl, hv, fun od => ?_⟩
        have g0 := grow_set (o := .frz od (.dT vs)) r1 hn hv
        have qk0 := qk.ext (g0.ext (η := η))
        exact ⟨a, od, rfl, .inr ⟨vs, upd_same, hJ _ _ _ _ (S1.set n (.dlk kvs)) μ1 (g1.trans g0) (rp_lock r1 hn hv qk) q (jok_keys upd_same qk0)⟩⟩
      · obtain ⟨a', ha', ob, vs, hv, qk⟩ := r1.cell n _ hc
        rw [hn] at ha'; cases ha'
        exact .inl ⟨a, ob, rfl, .inr ⟨vs, hv, hJ _ H1 _ _ S1 μ1 g1 r1 q (jok_keys hv qk)⟩⟩
  | .keys c, X, sc, tg, e, hx, h, _ => by
    refine PI.imp (pi_keys (sE c e hx h)) fun σ H R ⟨η, μ, ρ, S, RD, hE, hR, hT, hJ⟩ => ?_
    simp only [wpI] at hT
    refine use hE hR hT fun d S1 v μ1 H1 g1 r1 e1 rv1 q1 => ?_
    obtain ⟨n, kvs, rfl, hc, q⟩ := q1
    cases rv1 with
    | @ref n a hn =>
      obtain ⟨a', ha', ob, vs, hv, qk⟩ := r1.cell n _ hc
      rw [hn] at ha'; cases ha'
      exact ⟨a, ob, rfl, .inr ⟨vs, hv, hJ _ H1 _ _ S1 μ1 g1 r1 q (jok_keys hv qk)⟩⟩
  | .range1 a, X, sc, tg, e, hx, h, _ => by
    cases e <;> first | (exact (Bool.false_ne_true h).elim) | skip
    rename_i f as ks p
    cases f <;> first | (exact (Bool.false_ne_true h).elim) | skip
    match as, ks, h with
    | [a'], [], h =>
      change (_ && _) = true at h
      simp only [Bool.and_eq_true, beq_iff_eq] at h
      obtain ⟨⟨⟨h1, h2⟩, h3⟩, h4⟩ := h
      subst h1
      refine PI.imp (pi_range1 (gl_of hx h2) (hx.tab.bi _ (by simpa using h3)) (pa1 (sE a a' hx h4) (star_of h4)) (by rw [star_of h4]; rfl)) fun σ H R ⟨η, μ, ρ, S, RD, hE, hR, hT, hJ⟩ => ?_
      simp only [wpI] at hT
      refine useA (QD := fun ds S1 => ∃ j, ds.headD .non = .int j ∧ Sm j ∧ RD (rangeD 0 j) (fun _ => True) S1) hE hR hT fun ds S1 vs μ1 H1 g1 r1 e1 rv1 hl q1 => ?_
      obtain ⟨d, v, rfl, rfl, rv⟩ := one_of rv1 hl
      obtain ⟨j, e0, s, q⟩ := q1
      rw [List.headD_cons] at e0
      subst e0
      cases rv
      exact ⟨j, rfl, s.1, s.2, hJ _ H1 _ _ S1 μ1 g1 r1 q (jok_range (by simp))⟩
    | [], _, h => exact (Bool.false_ne_true h).elim
    | _ :: _ :: _, _, h => exact (Bool.false_ne_true h).elim
    | [_], _ :: _, h => exact (Bool.false_ne_true h).elim
  | .range3 a b c, X, sc, tg, e, hx, h, _ => by
    cases e <;> first | (exact (Bool.false_ne_true h).elim) | skip
    rename_i f as ks p
    cases f <;> first | (exact (Bool.false_ne_true h).elim) | skip
    match as, ks, h with
    | [a', b', c'], [], h =>
      change (_ && _) = true at h
      simp only [Bool.and_eq_true, beq_iff_eq] at h
      obtain ⟨⟨⟨⟨⟨h1, h2⟩, h3⟩, h4⟩, h5⟩, h6⟩ := h
      subst h1
      refine PI.imp (pi_range3 (gl_of hx h2) (hx.tab.bi _ (by simpa using h3)) (pa_cons (sE a a' hx h4) (pa_cons (sE b b' hx h5) (pa_cons (sE c c' hx h6) pa_nil (star_of h6)) (star_of h5)) (star_of h4)) (star_of h4) (by rw [star_of h5, star_of h6]; rfl)) fun σ H R ⟨η, μ, ρ, S, RD, hE, hR, hT, hJ⟩ => ?_
      simp only [wpI] at hT
      refine use hE hR hT fun d S1 v μ1 H1 g1 r1 e1 rv1 q1 => use e1 r1 q1 fun d2 S2 v2 μ2 H2 g2 r2 e2 rv2 q2 => use e2 r2 q2 fun d3 S3 v3 μ3 H3 g3 r3 e3 rv3 q3 => ?_
      obtain ⟨i, j, l, n, rfl, rfl, rfl, hr, q⟩ := q3
      cases rv1; cases rv2; cases rv3
      exact ⟨i, j, l, n, rfl, hr, hJ _ H3 _ _ S3 μ3 ((g1.trans g2).trans g3) r3 q jok_rangeC⟩
    | [], _, h => exact (Bool.false_ne_true h).elim
    | [_], _, h => exact (Bool.false_ne_true h).elim
    | [_, _], _, h => exact (Bool.false_ne_true h).elim
    | _ :: _ :: _ :: _ :: _, _, h => exact (Bool.false_ne_true h).elim
    | [_, _, _], _ :: _, h => exact (Bool.false_ne_true h).elim
  | .skeys c, X, sc, tg, e, hx, h, _ => by
    refine PI.imp (pi_keys3 (sE c e hx h)) fun σ H R ⟨η, μ, ρ, S, RD, hE, hR, hT, hJ⟩ => ?_
    simp only [wpI] at hT
    refine use hE hR hT fun d S1 v μ1 H1 g1 r1 e1 rv1 q1 => ?_
    obtain ⟨n, ks, rfl, hc, q⟩ := q1
    cases rv1 with
    | @ref n a hn =>
      obtain ⟨a', ha', ob, xs, hv, rfl, qk⟩ := r1.cell n _ hc
      rw [hn] at ha'; cases ha'
      exact ⟨a, ob, xs, rfl, hv, hJ _ H1 _ _ S1 μ1 g1 r1 q (jok_skeys hv qk)⟩
  | .items c, X, sc, tg, e, hx, h, ht => by
    cases e <;> first | (exact (Bool.false_ne_true h).elim) | skip
    rename_i f as ks p
    cases f <;> first | (exact (Bool.false_ne_true h).elim) | skip
    rename_i o m ap
    cases tg <;> first | (exfalso; have hz := ht rfl; simp [isTupE] at hz; done) | skip
    match as, ks, h with
    | [], [], h =>
      change (_ && _) = true at h
      simp only [Bool.and_eq_true, beq_iff_eq] at h
      obtain ⟨⟨⟨h1, h2⟩, h3⟩, h4⟩ := h
      subst h1
      refine PI.imp (pi_itemsT (sE c o hx h3) (base_of h4) (by simpa using h2)) fun σ H R ⟨η, μ, ρ, S, RD, hE, hR, hT, hJ⟩ => ?_
      simp only [wpI] at hT
      refine use hE hR hT fun d S1 v μ1 H1 g1 r1 e1 rv1 q1 => ?_
      obtain ⟨n, kvs, rfl, hc, q⟩ := q1
      cases rv1 with
      | @ref n a hn =>
        obtain ⟨a', ha', ob, vs, hv, qk⟩ := r1.cell n _ hc
        rw [hn] at ha'; cases ha'
        exact ⟨a, ob, vs, rfl, hv, hJ _ H1 _ _ S1 μ1 g1 r1 q (jok_items hv qk)⟩
    | _ :: _, _, h => exact (Bool.false_ne_true h).elim
    | [], _ :: _, h => exact (Bool.false_ne_true h).elim
  | .enum a, X, sc, tg, e, hx, h, ht => by
    cases e <;> first | (exact (Bool.false_ne_true h).elim) | skip
    rename_i f as ks p
    cases f <;> first | (exact (Bool.false_ne_true h).elim) | skip
    cases tg <;> first | (exfalso; have hz := ht rfl; simp [isTupE] at hz; done) | skip
    match as, ks, h with
    | [a'], [], h =>
      change (_ && _) = true at h
      simp only [Bool.and_eq_true, beq_iff_eq] at h
      obtain ⟨⟨⟨h1, h2⟩, h3⟩, h4⟩ := h
      subst h1
      refine PI.imp (pi_enumA (gl_of hx h2) (hx.tab.bi _ (by simpa using h3)) (pa_cons (sE a a' hx h4) pa_nil (star_of h4)) (star_of h4)) fun σ H R ⟨η, μ, ρ, S, RD, hE, hR, hT, hJ⟩ => ?_
      simp only [wpI] at hT
      refine use hE hR hT fun d S1 v μ1 H1 g1 r1 e1 rv1 q1 => ?_
      exact enum_it r1 rv1 q1 fun J items I q jok => hJ J H1 items I S1 μ1 g1 r1 q jok
    | [], _, h => exact (Bool.false_ne_true h).elim
    | _ :: _ :: _, _, h => exact (Bool.false_ne_true h).elim
    | [_], _ :: _, h => exact (Bool.false_ne_true h).elim
  | .zip2 a b, X, sc, tg, e, hx, h, ht => by
    cases e <;> first | (exact (Bool.false_ne_true h).elim) | skip
    rename_i f as ks p
    cases f <;> first | (exact (Bool.false_ne_true h).elim) | skip
    cases tg <;> first | (exfalso; have hz := ht rfl; simp [isTupE] at hz; done) | skip
    match as, ks, h with
    | [a', b'], [], h =>
      change (_ && _) = true at h
      simp only [Bool.and_eq_true, beq_iff_eq] at h
      obtain ⟨⟨⟨⟨h1, h2⟩, h3⟩, h4⟩, h5⟩ := h
      subst h1
      refine PI.imp (pi_zipM (gl_of hx h2) (hx.tab.bi _ (by simpa using h3)) (pa_cons (sE a a' hx h4) (pa_cons (sE b b' hx h5) pa_nil (star_of h5)) (star_of h4)) (star_of h4) (by rw [star_of h5]; rfl)) fun σ H R ⟨η, μ, ρ, S, RD, hE, hR, hT, hJ⟩ => ?_
      simp only [wpI] at hT
      refine use hE hR hT fun d S1 v μ1 H1 g1 r1 e1 rv1 q1 => use e1 r1 q1 fun d2 S2 v2 μ2 H2 g2 r2 e2 rv2 q2 => ?_
      exact zip_it r2 (rv1.ext g2.ext) rv2 q2 fun J items I q jok => hJ J H2 items I S2 μ2 (g1.trans g2) r2 q jok
    | [], _, h => exact (Bool.false_ne_true h).elim
    | [_], _, h => exact (Bool.false_ne_true h).elim
    | _ :: _ :: _ :: _, _, h => exact (Bool.false_ne_true h).elim
    | [_, _], _ :: _, h => exact (Bool.false_ne_true h).elim
end
end
end DL
set_option maxHeartbeats 4000000
namespace DL
open PySem PySem.Spec PyProof.Rows L2
/-- what a statement's frame gives beside -/
structure HereS (T : Tb) (G : Fns) (X : Cx) (W : WX) : Prop where
  tk : Takes X W
  no : T.x.rs = false → ∀ c ds S, ¬ G.xc c ds S
  stk : X.stack = X.env :: X.outer
  frm : X.env.frame = some X.env.locals
  exe : X.ex = []
end DL
set_option maxHeartbeats 4000000
namespace DL
open PySem PySem.Spec PyProof.Rows L2
section
variable {T : Tb} {G : Fns} {k : Nat} {N : List Str}
noncomputable def rSetK : V → V → V → Hp → (Hp → Prop) → Prop := fun o i v H Q => ∃ (a : Addr) (kvs : List (L2.Key × V)) (ks : L2.Key), o = .ref a ∧ i = kV ks ∧ H a = some (.dK kvs) ∧ kvs.length < sizeLine ∧ Q (upd H a (.dK (putK kvs ks v)))
theorem set_dictK {X : Cx} (hu : X.A.units + 1 < cLine) : PSet X rSetK := by
  intro pins s σ H o i v ov iv u Q I ro ri rv h
  obtain ⟨a, kvs, ks, rfl, rfl, ha, hl, q⟩ := h
  cases ro
  exact d_setItem hu I (.k ha hl) ri rv fun s' I' => ⟨_, I', q⟩
theorem okT_dsub {sc : SS} {a : CE} {es : List CE} {e : Expr} (h : okT T N sc (.dsub a es) e = true) : ∃ o i b c p, e = .Subscript o (.Tuple i b c) p ∧ okE T N sc a o = true ∧ okEs T N sc es i = true ∧ es.length ≤ 1000 := by
  cases e <;> first | (exact (Bool.false_ne_true h).elim) | skip
  rename_i o i p
  cases i <;> first | (exact (Bool.false_ne_true h).elim) | skip
  change (_ && _) = true at h
  simp only [Bool.and_eq_true, decide_eq_true_eq] at h
  exact ⟨_, _, _, _, _, rfl, h.1.1, h.1.2, h.2⟩
theorem dsub_run {K : PySem.W.Frag} {η μ : List Addr} {S : DStore} {H : Hp} {G : Fns} {a : CE} {es : List CE} {d : D} {v : V} {ρ : DEnv} {σ : L2.St} {QD : DEnv → DStore → Prop} {Q : L2.St → Hp → Prop} (hE : RE K H η μ ρ σ) (hR : Rp K η μ S H) (rv : RV K H η μ d v) (hT : wpG G (.dsub a es) d ρ S QD) (hlen : es.length ≤ 1000)
    (hQ : ∀ S' μ' H', Grow μ H μ' H' → Rp K η μ' S' H' → RE K H' η μ' ρ σ → QD ρ S' → Q σ H') : gSub (tOf K (wpE G a)) (tTup (aOf K es.length (wpEs G es))) rSetD v σ H Q := by
  simp only [wpG] at hT
  refine use hE hR hT fun d2 S2 v2 μ2 H2 g2 r2 e2 rv2 q2 => useA e2 r2 q2 fun ys S3 vs μ3 H3 g3 r3 e3 rv3 hl q3 => ⟨?_, fun p hp => ?_⟩
  · have : (1000 : Nat) ≤ sizeLine := by decide
    omega
  obtain ⟨n, kvs, ks, rfl, ec, hk, hlen, q⟩ := q3
  have g4 := grow_new (o := .tup vs) r3 hp
  have r4 := rp_new (o := .tup vs) r3 hp
  have eb : vs = ks.map kV := keysOf_rv rv3 hk
  have rv2' := (rv2.ext (η' := η) g3.ext).ext (η' := η) g4.ext
  cases rv2' with
  | @ref n a1 hn =>
    obtain ⟨a', ha', ws, hw, qs⟩ := r4.cell n _ ec
    rw [hn] at ha'; cases ha'
    have rv1' := ((rv.ext (η' := η) g2.ext).ext (η' := η) g3.ext).ext (η' := η) g4.ext
    have qp := qs.put (k := ks) rv1'
    refine ⟨a1, p, ws, ks, rfl, rfl, hw, by rw [← eb]; exact upd_same, by rw [← qs.length]; exact hlen, ?_⟩
    have gg := grow_set (o := .dT (putK ws ks v)) r4 hn hw
    exact hQ _ _ _ (((g2.trans g3).trans g4).trans gg) (rp_setD r4 hn hw qp) ((e3.ext g4.ext).ext gg.ext) q
theorem dsub3_run {K : PySem.W.Frag} {η μ : List Addr} {S : DStore} {H : Hp} {G : Fns} {a1 a2 a3 : CE} {k1 k2 k3 : List CE} {ds : List D} {vs : List V} {ρ : DEnv} {σ : L2.St} {QD : DEnv → DStore → Prop} {Q : L2.St → Hp → Prop} (hE : RE K H η μ ρ σ) (hR : Rp K η μ S H) (rv : RVs K H η μ ds vs) (hT : wpGs G [.dsub a1 k1, .dsub a2 k2, .dsub a3 k3] ds ρ S QD) (hl : ds.length = 3)
    (l1 : k1.length ≤ 1000) (l2 : k2.length ≤ 1000) (l3 : k3.length ≤ 1000) (hQ : ∀ S' μ' H', Grow μ H μ' H' → Rp K η μ' S' H' → RE K H' η μ' ρ σ → QD ρ S' → Q σ H') :
    gCons (gSub (tOf K (wpE G a1)) (tTup (aOf K k1.length (wpEs G k1))) rSetD) (gCons (gSub (tOf K (wpE G a2)) (tTup (aOf K k2.length (wpEs G k2))) rSetD) (gCons (gSub (tOf K (wpE G a3)) (tTup (aOf K k3.length (wpEs G k3))) rSetD) gNil)) vs σ H Q := by
  match ds, rv, hl with
  | [x, y, z], .cons rx (.cons ry (.cons rz .nil)), _ =>
    simp only [wpGs] at hT
    obtain ⟨_, _, e, hT⟩ := hT
    cases e
    refine ⟨_, _, rfl, dsub_run hE hR rx hT l1 fun S1 μ1 H1 g1 r1 e1 q1 => ?_⟩
    obtain ⟨_, _, e, q1⟩ := q1
    cases e
    refine ⟨_, _, rfl, dsub_run e1 r1 (ry.ext g1.ext) q1 l2 fun S2 μ2 H2 g2 r2 e2 q2 => ?_⟩
    obtain ⟨_, _, e, q2⟩ := q2
    cases e
    refine ⟨_, _, rfl, dsub_run e2 r2 ((rz.ext g1.ext).ext g2.ext) q2 l3 fun S3 μ3 H3 g3 r3 e3 q3 => ?_⟩
    exact ⟨rfl, hQ _ _ _ ((g1.trans g2).trans g3) r3 e3 q3⟩
theorem okT_sub {sc : SS} {a i : CE} {e : Expr} (h : okT T N sc (.sub a i) e = true) : ∃ o k p, e = .Subscript o k p ∧ okE T N sc a o = true ∧ okE T N sc i k = true ∧ notSl k = true := by
  cases e <;> first | (exact (Bool.false_ne_true h).elim) | skip
  rename_i o k p
  change (_ && _) = true at h
  simp only [Bool.and_eq_true] at h
  exact ⟨_, _, _, rfl, h.1.1, h.1.2, h.2⟩
theorem sub_run {K : PySem.W.Frag} {η μ : List Addr} {S : DStore} {H : Hp} {G : Fns} {a i : CE} {d : D} {v : V} {ρ : DEnv} {σ : L2.St} {QD : DEnv → DStore → Prop} {Q : L2.St → Hp → Prop} (hE : RE K H η μ ρ σ) (hR : Rp K η μ S H) (rv : RV K H η μ d v) (hT : wpG G (.sub a i) d ρ S QD)
    (hQ : ∀ S' μ' H', Grow μ H μ' H' → Rp K η μ' S' H' → RE K H' η μ' ρ σ → QD ρ S' → Q σ H') : gSub (tOf K (wpE G a)) (tOf K (wpE G i)) rSetL v σ H Q := by
  simp only [wpG] at hT
  refine use hE hR hT fun d2 S2 v2 μ2 H2 g2 r2 e2 rv2 q2 => use e2 r2 q2 fun d3 S3 v3 μ3 H3 g3 r3 e3 rv3 q3 => ?_
  obtain ⟨n, xs, kk, j, rfl, rfl, ec, ei, q⟩ := q3
  cases rv3
  have rv2' := rv2.ext (η' := η) g3.ext
  cases rv2' with
  | @ref n a hn =>
    obtain ⟨a', ha', vs, hvs, qs⟩ := r3.cell n _ ec
    rw [hn] at ha'; cases ha'
    have rv1' := (rv.ext (η' := η) g2.ext).ext (η' := η) g3.ext
    have qs' := qs.set rv1' j
    refine ⟨_, _, _, j, rfl, rfl, hvs, by rw [← qs.length]; exact ei, ?_⟩
    have gg := grow_set (o := .lst (vs.set j v)) r3 hn hvs
    exact hQ _ _ _ ((g2.trans g3).trans gg) (rp_set r3 hn hvs qs') (e3.ext gg.ext) q
theorem kput_run {K : PySem.W.Frag} {η μ : List Addr} {S : DStore} {H : Hp} {G : Fns} {a i : CE} {d : D} {v : V} {ρ : DEnv} {σ : L2.St} {QD : DEnv → DStore → Prop} {Q : L2.St → Hp → Prop} (hE : RE K H η μ ρ σ) (hR : Rp K η μ S H) (rv : RV K H η μ d v) (hT : wpG G (.kput a i) d ρ S QD)
    (hQ : ∀ S' μ' H', Grow μ H μ' H' → Rp K η μ' S' H' → RE K H' η μ' ρ σ → QD ρ S' → Q σ H') : gSub (tOf K (wpE G a)) (tOf K (wpE G i)) rSetK v σ H Q := by
  simp only [wpG] at hT
  refine use hE hR hT fun d2 S2 v2 μ2 H2 g2 r2 e2 rv2 q2 => use e2 r2 q2 fun d3 S3 v3 μ3 H3 g3 r3 e3 rv3 q3 => ?_
  obtain ⟨n, kvs, k9, rfl, ec, hk, hlen, q⟩ := q3
  have ek := keyOf_rv rv3 hk
  subst ek
  have rv2' := rv2.ext (η' := η) g3.ext
  cases rv2' with
  | @ref n a1 hn =>
    obtain ⟨a', ha', ws, hw, qs⟩ := r3.cell n _ ec
    rw [hn] at ha'; cases ha'
    have rv1' := (rv.ext (η' := η) g2.ext).ext (η' := η) g3.ext
    have qp := qs.put (k := k9) rv1'
    have gg := grow_set (o := .dK (putK ws k9 v)) r3 hn hw
    exact ⟨a1, ws, k9, rfl, rfl, hw, by rw [← qs.length]; exact hlen, hQ _ _ _ ((g2.trans g3).trans gg) (rp_setK r3 hn hw qp) (e3.ext gg.ext) q⟩
noncomputable def gOf1 (K : PySem.W.Frag) (G : Fns) : CT → TG
  | .name i => gName i
  | .sub a i => gSub (tOf K (wpE G a)) (tOf K (wpE G i)) rSetL
  | .kput a i => gSub (tOf K (wpE G a)) (tOf K (wpE G i)) rSetK
  | _ => fun _ _ _ _ => False
theorem gOf1_run {K : PySem.W.Frag} {η μ : List Addr} {S : DStore} {H : Hp} {G : Fns} {d : D} {v : V} {ρ : DEnv} {σ : L2.St} {QD : DEnv → DStore → Prop} {Q : L2.St → Hp → Prop} : (t : CT) → t1B t = true → (hE : RE K H η μ ρ σ) → (hR : Rp K η μ S H) → (rv : RV K H η μ d v) → (hT : wpG G t d ρ S QD) →
    (hQ : ∀ ρ' σ' S' μ' H', Grow μ H μ' H' → Rp K η μ' S' H' → RE K H' η μ' ρ' σ' → QD ρ' S' → Q σ' H') → gOf1 K G t v σ H Q
  | .name i, _, hE, hR, rv, hT, hQ => by simp only [wpG] at hT; exact hQ _ _ _ _ _ .refl hR (hE.set rv i) hT
  | .sub a i, _, hE, hR, rv, hT, hQ => sub_run hE hR rv hT fun S' μ' H' g r e q => hQ _ _ _ _ _ g r e q
  | .kput a i, _, hE, hR, rv, hT, hQ => kput_run hE hR rv hT fun S' μ' H' g r e q => hQ _ _ _ _ _ g r e q
  | .tup _, h, _, _, _, _, _ => (Bool.false_ne_true h).elim
  | .dsub _ _, h, _, _, _, _, _ => (Bool.false_ne_true h).elim
  | .ksub _ _, h, _, _, _, _, _ => (Bool.false_ne_true h).elim
  | .sput _ _, h, _, _, _, _, _ => (Bool.false_ne_true h).elim
theorem gOf2_run {K : PySem.W.Frag} {η μ : List Addr} {S : DStore} {H : Hp} {G : Fns} {t1 t2 : CT} {ds : List D} {vs : List V} {ρ : DEnv} {σ : L2.St} {QD : DEnv → DStore → Prop} {Q : L2.St → Hp → Prop} (b1 : t1B t1 = true) (b2 : t1B t2 = true) (hE : RE K H η μ ρ σ) (hR : Rp K η μ S H) (rv : RVs K H η μ ds vs)
    (hT : wpGs G [t1, t2] ds ρ S QD) (hl : ds.length = [t1, t2].length) (hQ : ∀ ρ' σ' S' μ' H', Grow μ H μ' H' → Rp K η μ' S' H' → RE K H' η μ' ρ' σ' → QD ρ' S' → Q σ' H') :
    gCons (gOf1 K G t1) (gCons (gOf1 K G t2) gNil) vs σ H Q := by
  match ds, rv, hl with
  | [x, y], .cons rx (.cons ry .nil), _ =>
    simp only [wpGs] at hT
    obtain ⟨_, _, e, hT⟩ := hT
    cases e
    refine ⟨_, _, rfl, gOf1_run t1 b1 hE hR rx hT fun ρ1 σ1 S1 μ1 H1 g1 r1 e1 q1 => ?_⟩
    obtain ⟨_, _, e, q1⟩ := q1
    cases e
    refine ⟨_, _, rfl, gOf1_run t2 b2 e1 r1 (ry.ext g1.ext) q1 fun ρ2 σ2 S2 μ2 H2 g2 r2 e2 q2 => ?_⟩
    exact ⟨rfl, hQ _ _ _ _ _ (g1.trans g2) r2 e2 q2⟩
theorem gOf1_pg {X : Cx} {sc : SS} : (t : CT) → (e : Expr) → t1B t = true → Here T G k N X sc → okT T N sc t e = true → PG X e (gOf1 X.K G t) ∧ ∀ es, (assignEach (e :: es) X.env).map (·.2) = assign e X.env :: (assignEach es X.env).map (·.2)
  | .name i, e, _, hx, h => ⟨sT (.name i) e hx h rfl, by
      cases e <;> first | (exact (Bool.false_ne_true h).elim) | skip
      exact fun _ => rfl⟩
  | .sub a i, e, _, hx, h => by
    obtain ⟨o1, i1, p1, rfl, u1, u2, u3⟩ := okT_sub h
    exact ⟨pg_sub (pos := p1) (sE a _ hx u1) (sE i _ hx u2) set_list (sub_of u3), fun _ => rfl⟩
  | .kput a i, e, _, hx, h => by
    cases e <;> first | (exact (Bool.false_ne_true h).elim) | skip
    rename_i o i1 p1
    change (_ && _) = true at h
    simp only [Bool.and_eq_true] at h
    exact ⟨pg_sub (pos := p1) (sE a _ hx h.1.1) (sE i _ hx h.1.2) (set_dictK (by have := hx.room.units; omega)) (sub_of h.2), fun _ => rfl⟩
  | .tup _, _, h, _, _ => (Bool.false_ne_true h).elim
  | .dsub _ _, _, h, _, _ => (Bool.false_ne_true h).elim
  | .ksub _ _, _, h, _, _ => (Bool.false_ne_true h).elim
  | .sput _ _, _, h, _, _ => (Bool.false_ne_true h).elim
theorem gOf1_star {sc : SS} {t1 t2 : CT} {y1 y2 : Expr} {env : Env} (b1 : t1B t1 = true) (b2 : t1B t2 = true) (h1 : okT T N sc t1 y1 = true) (h2 : okT T N sc t2 y2 = true) : (assignEach [y1, y2] env).findIdx? (·.1) = none := by
  cases y1 <;> first | (exfalso; cases t1 <;> first | exact (Bool.false_ne_true h1).elim | exact (Bool.false_ne_true b1).elim) | (cases y2 <;> first | rfl | (exfalso; cases t2 <;> first | exact (Bool.false_ne_true h2).elim | exact (Bool.false_ne_true b2).elim))
theorem asg1_of {sc : SS} {t : CT} {e : Expr} {env : Env} (h : okT T N sc t e = true) : (assignEach [e] env).map (·.2) = [assign e env] := by
  cases e <;> first | rfl | (exfalso; cases t <;> exact (Bool.false_ne_true h).elim)
theorem ps_setDc {X : Cx} {i : Nat} {y : Str} {py : Pos} {kx vx tg iter : Expr} {ifs : List Expr} {scope : Scope} {own : List (Str × Nat)} {pos spos : Pos} {wi : TI} {g : TG} {tt : TT} {tk tv : TE} (hc : X.calm = true) (hN : X.N.Nodup) (hy : X.N[i]? = some y) (hyl : X.env.scope.names.lookup y = some .local)
    (hsw : swapsWith (.DictComp kx vx [⟨tg, iter, ifs, 0⟩] scope pos) (some (.Name y py)) spos.line X.env = pure true) (hi : PI X tg iter wi) (ok : BlkOk X.N X.env.scope scope own)
    (hg : ∀ (s : Shared) (H : Hp) (C : Addr) (cl : List (Str × Addr)) (fp : List Addr), PG (X.blk s H scope (compEnvC scope cl C X.env) fp) tg g) (ht : ∀ (s : Shared) (H : Hp) (C : Addr) (cl : List (Str × Addr)) (fp : List Addr), PTs (X.blk s H scope (compEnvC scope cl C X.env) fp) ifs tt)
    (hk : ∀ (s : Shared) (H : Hp) (C : Addr) (cl : List (Str × Addr)) (fp : List Addr), PE (X.blk s H scope (compEnvC scope cl C X.env) fp) kx tk)
    (he : ∀ (s : Shared) (H : Hp) (C : Addr) (cl : List (Str × Addr)) (fp : List Addr), PE (X.blk s H scope (compEnvC scope cl C X.env) fp) vx tv) (hs : ∀ x, foldedSetIterable iter X.env x = pure x) :
    PS X (.Assign [.Name y py] (.DictComp kx vx [⟨tg, iter, ifs, 0⟩] scope pos) spos) (tAsg (tDc wi g tt tk tv (own.map (·.2))) (gName i)) := by
  refine ⟨fun pins s σ H D I h => ?_⟩
  rw [exec_Assign_Name_used _ _ _ _ hsw]
  refine wpAny_bind (wpAny_standAt (wpAny_bind ?_))
  show wpAny _ X.A (do let _ ← comprehension (.DictComp kx vx [⟨tg, iter, ifs, 0⟩] scope pos) scope X.env (firstIterPos [⟨tg, iter, ifs, 0⟩] pos) newDict false (eval iter X.env) (some (assign (.Name y py) X.env))) _ _ s
  have h : tDc wi g tt tk tv (own.map (·.2)) σ H (fun x H1 => gName i x σ H1 D.nx) := h
  refine wpAny_bind (thn (dc_core (Qf := fun _ s' => SP X pins D .next s') hc hN I hi ok hg ht hk he hs h fun L C s' m H' I' q hn f => ?_) fun _ s' hq => wpAny_pure (wpAny_pure hq))
  show wpAny _ _ (assign (.Name y py) X.env (.ref L)) _ _ _
  refine wpAny_assign_Name (store_ok2 (v := V.ref L) I' hN hy (.inl hyl) rfl (fun s2 I2 ⟨a, sb, ha⟩ => ?_) (.inr hyl))
  obtain ⟨f0, f1, f2, f3, f4, f5⟩ := f
  have haC : C ≠ a := by
    rcases ha with z | z
    · rw [z]; exact f1
    · exact fun e => f4 y a z e.symm
  refine ⟨m, hn.sameBut sb haC, fun h3 sb3 => ?_⟩
  exact ⟨_, H', I2.turned (t' := s2.toks) (fun b o hb e => (sb3.2 b hb).trans e) f0 f1 f3 f4 f5, q⟩
theorem sw_trueD {kx vx : Expr} {gs : List Comprehension} {scope : Scope} {pos py : Pos} {y : Str} {l : Nat} {env : Env} (hk : env.scope.kind = .function) (hy : env.scope.names.lookup y = some .local) (hl : (py.line == pos.line) = true)
    (ha : (scope.names.any fun (n, k) => n == y && (k == .local || k == .cell)) = false) : swapsWith (.DictComp kx vx gs scope pos) (some (.Name y py)) l env = pure true := by
  have ky : env.kindOf y = some .local := hy
  have hb : env.blockKind = .function := by unfold Env.blockKind; rw [hk]; rfl
  unfold swapsWith
  simp only [hb, ky, ha, Expr.pos, hl]
  rfl
theorem swapsS_of {e t : Expr} {l : Nat} {env : Env} (h : (notComp e || notNm t) = true) : swapsWithSole [t] e l env = pure false := by
  show swapsWith e (some t) l env = pure false
  have h' : notComp e = true ∨ notNm t = true := by simpa using h
  rcases h' with h1 | h1
  · exact swaps_of h1
  · cases t <;> first | (simp [notNm] at h1; done) | (cases e <;> rfl)
theorem swapsC_of {sc : SS} {e t : Expr} {l : Nat} {env : Env} (hs : env.scope = sc.s) (h : (notComp e || notNm t || cellNm sc t) = true) : swapsWithSole [t] e l env = pure false := by
  cases hc : cellNm sc t with
  | false =>
    rw [hc, Bool.or_false] at h
    exact swapsS_of h
  | true =>
    cases t <;> first | (simp [cellNm] at hc; done) | skip
    rename_i x p
    have hx : sc.s.names.lookup x = some .cell := by
      unfold cellNm at hc
      simp only at hc
      cases e : sc.s.names.lookup x with
      | none => rw [e] at hc; cases hc
      | some k => rw [e] at hc; cases k <;> first | rfl | (cases hc)
    have ky : env.kindOf x = some .cell := by show env.scope.names.lookup x = _; rw [hs]; exact hx
    have kf : (env.kindOf x == some NameKind.local) = false := by rw [ky]; rfl
    show swapsWith e (some (.Name x p)) l env = pure false
    unfold swapsWith
    cases e <;> first | rfl | (simp only [kf, Bool.and_false, Bool.false_and])
theorem pa3 {X : Cx} {e e' e3 : Expr} {T T' T3 : TD} (h : PE X e (tOf X.K T)) (h' : PE X e' (tOf X.K T')) (h3 : PE X e3 (tOf X.K T3)) (hs : starEach [e, e', e3] X.env = (false, eval e X.env) :: starEach [e', e3] X.env) (hs' : starEach [e', e3] X.env = (false, eval e' X.env) :: starEach [e3] X.env)
    (hs3 : starEach [e3] X.env = (false, eval e3 X.env) :: starEach [] X.env) :
    PA X [e, e', e3] (aOf X.K 3 (fun ρ S Q => T ρ S fun d S1 => T' ρ S1 fun d' S2 => T3 ρ S2 fun d3 S3 => Q [d, d', d3] S3)) :=
  PA.imp (pa_cons h (pa_cons h' (pa_cons h3 pa_nil hs3) hs') hs) fun σ H Q ⟨η, μ, ρ, S, QD, hE, hR, hT, hQ⟩ => use hE hR hT fun d S1 v μ1 H1 g1 r1 e1 rv1 q1 => use e1 r1 q1 fun d2 S2 v2 μ2 H2 g2 r2 e2 rv2 q2 => use e2 r2 q2 fun d3 S3 v3 μ3 H3 g3 r3 e3 rv3 q3 =>
    hQ _ _ ⟨[d, d2, d3], S3, μ3, (g1.trans g2).trans g3, r3, .cons ((rv1.ext g2.ext).ext g3.ext) (.cons (rv2.ext g3.ext) (.cons rv3 .nil)), q3⟩ rfl
theorem three_of {ds : List D} {vs : List V} {K : PySem.W.Frag} {H : Hp} {η μ : List Addr} (r : RVs K H η μ ds vs) (h : vs.length = 3) : ∃ d d' d3 v v' v3, ds = [d, d', d3] ∧ vs = [v, v', v3] ∧ RV K H η μ d v ∧ RV K H η μ d' v' ∧ RV K H η μ d3 v3 := by
  cases r with
  | nil => simp at h
  | cons a b =>
    obtain ⟨d, d', v, v', rfl, rfl, r, r'⟩ := two_of b (by simpa using h)
    exact ⟨_, _, _, _, _, _, rfl, rfl, a, r, r'⟩
set_option maxHeartbeats 4000000 in
mutual
theorem sS : ∀ (c : CS) {X : Cx} {sc : SS} {W : WX} (st : Stmt), Here T G k N X sc → HereS T G X W → okS T N sc c st = true → PS X st (sOf X.K G.xc W (wpS G c))
  | .ret e, X, sc, W, st, hx, hs, h => by
    cases st <;> first | (exact (Bool.false_ne_true h).elim) | skip
    rename_i o p
    cases o <;> first | (exact (Bool.false_ne_true h).elim) | skip
    rename_i e'
    change okE T N sc e e' = true at h
    refine PS.imp (ps_ret (sE e _ hx h)) fun E σ H ⟨η, μ, ρ, S, ED, hE, hR, hT, hQ⟩ => ?_
    simp only [wpS] at hT
    exact use hE hR hT fun d S1 v μ1 H1 g1 r1 e1 rv1 q1 => hQ.rt _ _ _ _ _ g1 r1 rv1 q1
  | .brk, X, sc, W, st, hx, hs, h => by
    cases st <;> first | (exact (Bool.false_ne_true h).elim) | skip
    refine PS.imp ps_break fun E σ H ⟨η, μ, ρ, S, ED, hE, hR, hT, hQ⟩ => ?_
    simp only [wpS] at hT
    exact hQ.bk _ _ _ _ _ .refl hR hE hT
  | .never, X, sc, W, st, hx, hs, h => by
    refine PS.imp ps_never fun E σ H ⟨η, μ, ρ, S, ED, hE, hR, hT, hQ⟩ => ?_
    simp only [wpS] at hT
  | .asg t e, X, sc, W, st, hx, hs, h => by
    cases st <;> first | (exact (Bool.false_ne_true h).elim) | skip
    rename_i ts e' p
    match ts, h with
    | [t'], h =>
      change (_ && _) = true at h
      simp only [Bool.and_eq_true] at h
      obtain ⟨⟨⟨⟨h1, h2⟩, h3⟩, h4⟩, h5⟩ := h
      by_cases hs : t.simple = true
      · refine PS.imp (ps_asg (sE e _ hx h2) (sT t _ hx h1 hs) (swapsC_of hx.scp h3) (noSwap_of hx h4) (asg1_of h1)) fun E σ H ⟨η, μ, ρ, S, ED, hE, hR, hT, hQ⟩ => ?_
        simp only [wpS] at hT
        refine use hE hR hT fun d S1 v μ1 H1 g1 r1 e1 rv1 q1 => ?_
        exact gS_run t hs r1 e1 rv1 q1 fun ρ' σ' e' _ _ q => hQ.nx _ _ _ _ _ g1 r1 e' q
      · cases t with
        | name i => exact absurd rfl hs
        | tup ts =>
          have hs' : CT.simple (.tup ts) = false := by simpa using hs
          rw [hs', Bool.false_or] at h5
          unfold asgT at h5
          simp only at h5
          split at h5
          · rename_i a1 k1 a2 k2 a3 k3
            have h1' := h1
            cases t' <;> first | (exact (Bool.false_ne_true h1).elim) | skip
            rename_i els kt pt
            change okTs T N sc _ els = true at h1
            match els, h1, h1', h3, h4 with
            | [], h1, _, _, _ => simp [okTs] at h1
            | [_], h1, _, _, _ => simp [okTs] at h1
            | [_, _], h1, _, _, _ => simp [okTs] at h1
            | _ :: _ :: _ :: _ :: _, h1, _, _, _ => simp [okTs] at h1
            | [t1, t2, t3], h1, h1', h3, h4 =>
              simp only [okTs, Bool.and_eq_true] at h1
              obtain ⟨x1, x2, x3, _⟩ := h1
              obtain ⟨o1, i1, b1, c1, p1, rfl, u1, u2, u3⟩ := okT_dsub x1
              obtain ⟨o2, i2, b2, c2, p2, rfl, v1, v2, v3⟩ := okT_dsub x2
              obtain ⟨o3, i3, b3, c3, p3, rfl, w1, w2, w3⟩ := okT_dsub x3
              have hu : X.A.units + 1 < cLine := by have := hx.room.units; omega
              have P := pgs_cons (pg_sub (pos := p1) (sE a1 _ hx u1) (pe_tup (x1 := b1) (pos := c1) (sEs k1 _ hx u2)) (set_dictT hu) (sub_of rfl)) (pgs_cons (pg_sub (pos := p2) (sE a2 _ hx v1) (pe_tup (x1 := b2) (pos := c2) (sEs k2 _ hx v2)) (set_dictT hu) (sub_of rfl)) (pgs_cons (pg_sub (pos := p3) (sE a3 _ hx w1) (pe_tup (x1 := b3) (pos := c3) (sEs k3 _ hx w2)) (set_dictT hu) (sub_of rfl)) pgs_nil))
              refine PS.imp (ps_asg (sE e _ hx h2) (pg_or (pg_tup (k := kt) (pos := pt) hx.calm P) (pg_lst hx.calm P)) (swapsC_of hx.scp h3) (noSwap_of hx h4) (asg1_of h1')) fun E σ H ⟨η, μ, ρ, S, ED, hE, hR, hT, hQ⟩ => ?_
              simp only [wpS, wpG] at hT
              refine use hE hR hT fun d S1 v μ1 H1 g1 r1 e1 rv1 q1 => ?_
              unfold unpD at q1
              split at q1
              · obtain ⟨hl, q1⟩ := q1
                cases rv1 with
                | tup hq qs => exact .inl ⟨_, _, rfl, hq, by rw [← qs.length]; exact hl, dsub3_run e1 r1 qs q1 hl u3 v3 w3 fun S' μ' H' g r e q => hQ.nx _ _ _ _ _ (g1.trans g) r e q⟩
              · obtain ⟨xs, ex, hl, q1⟩ := q1
                obtain ⟨b, ws, rfl, hb, qs⟩ := lst_of r1 rv1 ex
                exact .inr ⟨_, _, rfl, .inl (.inl hb), by rw [← qs.length]; exact hl, dsub3_run e1 r1 qs q1 hl u3 v3 w3 fun S' μ' H' g r e q => hQ.nx _ _ _ _ _ (g1.trans g) r e q⟩
          · rename_i t1 t2
            have h1' := h1
            cases t' <;> first | (exact (Bool.false_ne_true h1).elim) | skip
            rename_i els kt pt
            change okTs T N sc _ els = true at h1
            match els, h1, h1', h3, h4 with
            | [], h1, _, _, _ => simp [okTs] at h1
            | [_], h1, _, _, _ => simp [okTs] at h1
            | _ :: _ :: _ :: _, h1, _, _, _ => simp [okTs] at h1
            | [y1, y2], h1, h1', h3, h4 =>
              simp only [okTs, Bool.and_eq_true] at h1
              obtain ⟨x1, x2, _⟩ := h1
              rw [Bool.and_eq_true] at h5
              obtain ⟨P1, s1⟩ := gOf1_pg t1 y1 h5.1 hx x1
              obtain ⟨P2, s2⟩ := gOf1_pg t2 y2 h5.2 hx x2
              have P := pgs_cons P1 (pgs_cons P2 pgs_nil (s2 [])) (s1 [y2])
              refine PS.imp (ps_asg (sE e _ hx h2) (pg_or (pg_tup (k := kt) (pos := pt) hx.calm P (by rw [← List.length_map (f := (·.2)), s1, List.length_cons, s2] <;> rfl) (gOf1_star h5.1 h5.2 x1 x2)) (pg_lst hx.calm P (by rw [← List.length_map (f := (·.2)), s1, List.length_cons, s2] <;> rfl) (gOf1_star h5.1 h5.2 x1 x2))) (swapsC_of hx.scp h3) (noSwap_of hx h4) (asg1_of h1')) fun E σ H ⟨η, μ, ρ, S, ED, hE, hR, hT, hQ⟩ => ?_
              simp only [wpS, wpG] at hT
              refine use hE hR hT fun d S1 v μ1 H1 g1 r1 e1 rv1 q1 => ?_
              unfold unpD at q1
              split at q1
              · obtain ⟨hl, q1⟩ := q1
                cases rv1 with
                | tup hq qs => exact .inl ⟨_, _, rfl, hq, by rw [← qs.length]; exact hl, gOf2_run h5.1 h5.2 e1 r1 qs q1 hl fun ρ' σ' S' μ' H' g r e q => hQ.nx _ _ _ _ _ (g1.trans g) r e q⟩
              · obtain ⟨xs, ex, hl, q1⟩ := q1
                obtain ⟨b, ws, rfl, hb, qs⟩ := lst_of r1 rv1 ex
                exact .inr ⟨_, _, rfl, .inl (.inl hb), by rw [← qs.length]; exact hl, gOf2_run h5.1 h5.2 e1 r1 qs q1 hl fun ρ' σ' S' μ' H' g r e q => hQ.nx _ _ _ _ _ (g1.trans g) r e q⟩
          · cases h5
        | sub a i =>
          cases t' <;> first | (exact (Bool.false_ne_true h1).elim) | skip
          have h1' := h1
          change (_ && _) = true at h1
          simp only [Bool.and_eq_true] at h1
          refine PS.imp (ps_asg (sE e _ hx h2) (pg_sub (sE a _ hx h1.1.1) (sE i _ hx h1.1.2) set_list (sub_of h1.2)) (swapsC_of hx.scp h3) (noSwap_of hx h4) (asg1_of h1')) fun E σ H ⟨η, μ, ρ, S, ED, hE, hR, hT, hQ⟩ => ?_
          simp only [wpS, wpG] at hT
          refine use hE hR hT fun d S1 v μ1 H1 g1 r1 e1 rv1 q1 => use e1 r1 q1 fun d2 S2 v2 μ2 H2 g2 r2 e2 rv2 q2 => use e2 r2 q2 fun d3 S3 v3 μ3 H3 g3 r3 e3 rv3 q3 => ?_
          obtain ⟨n, xs, kk, j, rfl, rfl, ec, ei, q⟩ := q3
          cases rv3
          have rv2' := rv2.ext (η' := η) g3.ext
          cases rv2' with
          | @ref n a hn =>
            obtain ⟨a', ha', vs, hvs, qs⟩ := r3.cell n _ ec
            rw [hn] at ha'; cases ha'
            have rv1' := (rv1.ext (η' := η) g2.ext).ext (η' := η) g3.ext
            have qs' := qs.set rv1' j
            refine ⟨_, _, _, j, rfl, rfl, hvs, by rw [← qs.length]; exact ei, ?_⟩
            have gg := grow_set (o := .lst (vs.set j v)) r3 hn hvs
            exact hQ.nx _ _ _ _ _ (((g1.trans g2).trans g3).trans gg) (rp_set r3 hn hvs qs') (e3.ext gg.ext) q
        | ksub a i =>
          cases t' <;> first | (exact (Bool.false_ne_true h1).elim) | skip
          have h1' := h1
          change (_ && _) = true at h1
          simp only [Bool.and_eq_true] at h1
          refine PS.imp (ps_asg (sE e _ hx h2) (pg_sub (sE a _ hx h1.1.1) (sE i _ hx h1.1.2) (set_dictT (by have := hx.room.units; omega)) (sub_of h1.2)) (swapsC_of hx.scp h3) (noSwap_of hx h4) (asg1_of h1')) fun E σ H ⟨η, μ, ρ, S, ED, hE, hR, hT, hQ⟩ => ?_
          simp only [wpS, wpG] at hT
          refine use hE hR hT fun d S1 v μ1 H1 g1 r1 e1 rv1 q1 => use e1 r1 q1 fun d2 S2 v2 μ2 H2 g2 r2 e2 rv2 q2 => use e2 r2 q2 fun d3 S3 v3 μ3 H3 g3 r3 e3 rv3 q3 => ?_
          obtain ⟨n, kvs, ks, rfl, rfl, ec, hlen, q⟩ := q3
          cases rv3 with
          | @key b1 _ hb =>
            have rv2' := rv2.ext (η' := η) g3.ext
            cases rv2' with
            | @ref n a1 hn =>
              obtain ⟨a', ha', ws, hw, qs⟩ := r3.cell n _ ec
              rw [hn] at ha'; cases ha'
              have rv1' := (rv1.ext (η' := η) g2.ext).ext (η' := η) g3.ext
              have qp := qs.put (k := ks) rv1'
              refine ⟨a1, b1, ws, ks, rfl, rfl, hw, hb, by rw [← qs.length]; exact hlen, ?_⟩
              have gg := grow_set (o := .dT (putK ws ks v)) r3 hn hw
              exact hQ.nx _ _ _ _ _ (((g1.trans g2).trans g3).trans gg) (rp_setD r3 hn hw qp) (e3.ext gg.ext) q
        | sput a i =>
          cases t' <;> first | (exact (Bool.false_ne_true h1).elim) | skip
          have h1' := h1
          change (_ && _) = true at h1
          simp only [Bool.and_eq_true] at h1
          refine PS.imp (ps_asg (sE e _ hx h2) (pg_sub (sE a _ hx h1.1.1) (sE i _ hx h1.1.2) (set_3 (by have := hx.room.units; omega)) (sub_of h1.2)) (swapsC_of hx.scp h3) (noSwap_of hx h4) (asg1_of h1')) fun E σ H ⟨η, μ, ρ, S, ED, hE, hR, hT, hQ⟩ => ?_
          simp only [wpS, wpG] at hT
          refine use hE hR hT fun d S1 v μ1 H1 g1 r1 e1 rv1 q1 => use e1 r1 q1 fun d2 S2 v2 μ2 H2 g2 r2 e2 rv2 q2 => use e2 r2 q2 fun d3 S3 v3' μ3 H3 g3 r3 e3 rv3 q3 => ?_
          obtain ⟨n, ks, stt, rfl, rfl, rfl, ec, hlen, q⟩ := q3
          cases rv1
          have rv2' := rv2.ext (η' := η) g3.ext
          cases rv2' with
          | @ref n a1 hn =>
            obtain ⟨a', ha', xs, hw, rfl, qs⟩ := r3.cell n _ ec
            rw [hn] at ha'; cases ha'
            cases rv3 with
            | @tup b0 _ _ hq vv =>
              have ev := k3_vals (st := stt) vv
              subst ev
              have gg := grow_set (o := StD a1 (put3 xs stt b0)) r3 hn hw (std_frz)
              refine ⟨a1, b0, xs, stt, rfl, rfl, rfl, hw, qs, hq, by rw [List.length_map] at hlen; exact hlen, ?_⟩
              refine hQ.nx _ _ _ _ _ (((g1.trans g2).trans g3).trans gg) (rp_set3 r3 hn hw (ys := put3 xs stt b0) (put3_ks qs hq)) (e3.ext gg.ext) ?_
              rw [put3_map]
              exact q
        | kput a i =>
          cases t' <;> first | (exact (Bool.false_ne_true h1).elim) | skip
          have h1' := h1
          change (_ && _) = true at h1
          simp only [Bool.and_eq_true] at h1
          refine PS.imp (ps_asg (sE e _ hx h2) (pg_sub (sE a _ hx h1.1.1) (sE i _ hx h1.1.2) (set_dictK (by have := hx.room.units; omega)) (sub_of h1.2)) (swapsC_of hx.scp h3) (noSwap_of hx h4) (asg1_of h1')) fun E σ H ⟨η, μ, ρ, S, ED, hE, hR, hT, hQ⟩ => ?_
          simp only [wpS, wpG] at hT
          refine use hE hR hT fun d S1 v μ1 H1 g1 r1 e1 rv1 q1 => use e1 r1 q1 fun d2 S2 v2 μ2 H2 g2 r2 e2 rv2 q2 => use e2 r2 q2 fun d3 S3 v3 μ3 H3 g3 r3 e3 rv3 q3 => ?_
          obtain ⟨n, kvs, k9, rfl, ec, hk, hlen, q⟩ := q3
          have ek := keyOf_rv rv3 hk
          subst ek
          have rv2' := rv2.ext (η' := η) g3.ext
          cases rv2' with
          | @ref n a1 hn =>
            obtain ⟨a', ha', ws, hw, qs⟩ := r3.cell n _ ec
            rw [hn] at ha'; cases ha'
            have rv1' := (rv1.ext (η' := η) g2.ext).ext (η' := η) g3.ext
            have qp := qs.put (k := k9) rv1'
            have gg := grow_set (o := .dK (putK ws k9 v)) r3 hn hw
            exact ⟨a1, ws, k9, rfl, rfl, hw, by rw [← qs.length]; exact hlen, hQ.nx _ _ _ _ _ (((g1.trans g2).trans g3).trans gg) (rp_setK r3 hn hw qp) (e3.ext gg.ext) q⟩
        | dsub a es =>
          cases t' <;> first | (exact (Bool.false_ne_true h1).elim) | skip
          rename_i o i p'
          cases i <;> first | (exact (Bool.false_ne_true h1).elim) | skip
          have h1' := h1
          change (_ && _) = true at h1
          simp only [Bool.and_eq_true, decide_eq_true_eq] at h1
          refine PS.imp (ps_asg (sE e _ hx h2) (pg_sub (sE a _ hx h1.1.1) (pe_tup (sEs es _ hx h1.1.2)) (set_dictT (by have := hx.room.units; omega)) (sub_of rfl)) (swapsC_of hx.scp h3) (noSwap_of hx h4) (asg1_of h1')) fun E σ H ⟨η, μ, ρ, S, ED, hE, hR, hT, hQ⟩ => ?_
          simp only [wpS, wpG] at hT
          refine use hE hR hT fun d S1 v μ1 H1 g1 r1 e1 rv1 q1 => use e1 r1 q1 fun d2 S2 v2 μ2 H2 g2 r2 e2 rv2 q2 => useA e2 r2 q2 fun ys S3 vs μ3 H3 g3 r3 e3 rv3 hl q3 => ⟨?_, fun p hp => ?_⟩
          · have : (1000 : Nat) ≤ sizeLine := by decide
            omega
          obtain ⟨n, kvs, ks, rfl, ec, hk, hlen, q⟩ := q3
          have g4 := grow_new (o := .tup vs) r3 hp
          have r4 := rp_new (o := .tup vs) r3 hp
          have eb : vs = ks.map kV := keysOf_rv rv3 hk
          have rv2' := (rv2.ext (η' := η) g3.ext).ext (η' := η) g4.ext
          cases rv2' with
          | @ref n a1 hn =>
            obtain ⟨a', ha', ws, hw, qs⟩ := r4.cell n _ ec
            rw [hn] at ha'; cases ha'
            have rv1' := ((rv1.ext (η' := η) g2.ext).ext (η' := η) g3.ext).ext (η' := η) g4.ext
            have qp := qs.put (k := ks) rv1'
            refine ⟨a1, p, ws, ks, rfl, rfl, hw, by rw [← eb]; exact upd_same, by rw [← qs.length]; exact hlen, ?_⟩
            have gg := grow_set (o := .dT (putK ws ks v)) r4 hn hw
            exact hQ.nx _ _ _ _ _ ((((g1.trans g2).trans g3).trans g4).trans gg) (rp_setD r4 hn hw qp) ((e3.ext g4.ext).ext gg.ext) q
    | [], h => exact (Bool.false_ne_true h).elim
    | _ :: _ :: _, h => exact (Bool.false_ne_true h).elim
  | .par2 i j a b, X, sc, W, st, hx, hs, h => by
    obtain ⟨x, px, y, py, kt, pt, a', b', k2, p2, p, rfl, h⟩ := kPar2_of h
    change (_ && _) = true at h
    simp only [Bool.and_eq_true, decide_eq_true_eq] at h
    obtain ⟨⟨⟨⟨⟨⟨⟨h1, h2⟩, h3⟩, h4⟩, h5⟩, h6⟩, h7⟩, h8⟩ := h
    have hw := swN_of (k1 := kt) (p1 := pt) (k2 := k2) (p2 := p2) hx (lits h8)
    refine PS.imp (ps_par hx.calm (by rw [hx.nm]; exact hx.nd) (by rw [hx.nm]; exact lits h3) (by rw [hx.nm]; exact lits h4) h5 (by rw [hx.scp]; exact pure_of h1) (by rw [hx.scp]; exact pure_of h2) (pa2 (sE a _ hx h6) (sE b _ hx h7) (star_of h6) (star_of h7)) hw rfl) fun E σ H ⟨η, μ, ρ, S, ED, hE, hR, hT, hQ⟩ => ?_
    simp only [wpS] at hT
    refine useA (QD := fun ds S1 => ED.nx ((ρ.set i (some (ds.headD .non))).set j (some (ds.tail.headD .non))) S1) hE hR hT fun ds S1 vs μ1 H1 g1 r1 e1 rv1 hl q1 => ?_
    obtain ⟨d, d', v, v', rfl, rfl, rv, rv2⟩ := two_of rv1 hl
    exact ⟨v, v', rfl, hQ.nx _ _ _ _ _ g1 r1 ((e1.set rv i).set rv2 j) q1⟩
  | .par3 i j l a b c, X, sc, W, st, hx, hs, h => by
    obtain ⟨x, px, y, py, z, pz, kt, pt, a', b', c', k2, p2, p, rfl, h⟩ := kPar3_of h
    change (_ && _) = true at h
    simp only [Bool.and_eq_true, decide_eq_true_eq] at h
    obtain ⟨⟨⟨⟨⟨⟨⟨⟨⟨⟨⟨⟨h1, h2⟩, h3⟩, h4⟩, h5⟩, h6⟩, h7⟩, h8⟩, h9⟩, ha⟩, hb⟩, hc⟩, hd⟩ := h
    have hw := swN_of (k1 := kt) (p1 := pt) (k2 := k2) (p2 := p2) hx (lits hd)
    refine PS.imp (ps_par3 hx.calm (by rw [hx.nm]; exact hx.nd) (by rw [hx.nm]; exact lits h4) (by rw [hx.nm]; exact lits h5) (by rw [hx.nm]; exact lits h6) h7 h8 h9 (by rw [hx.scp]; exact pure_of h1) (by rw [hx.scp]; exact pure_of h2) (by rw [hx.scp]; exact pure_of h3)
      (pa3 (sE a _ hx ha) (sE b _ hx hb) (sE c _ hx hc) (star_of ha) (star_of hb) (star_of hc)) hw rfl) fun E σ H ⟨η, μ, ρ, S, ED, hE, hR, hT, hQ⟩ => ?_
    simp only [wpS] at hT
    refine useA (QD := fun ds S1 => ED.nx (((ρ.set i (some (ds.headD .non))).set j (some (ds.tail.headD .non))).set l (some (ds.tail.tail.headD .non))) S1) hE hR hT fun ds S1 vs μ1 H1 g1 r1 e1 rv1 hl q1 => ?_
    obtain ⟨d, d', d3, v, v', v3, rfl, rfl, rv, rv2, rv3⟩ := three_of rv1 hl
    exact ⟨v, v', v3, rfl, hQ.nx _ _ _ _ _ g1 r1 (((e1.set rv i).set rv2 j).set rv3 l) q1⟩
  | .setLc i e, X, sc, W, st, hx, hs, h => by
    cases st <;> first | (exact (Bool.false_ne_true h).elim) | skip
    rename_i ts e0 p
    obtain ⟨y, py, rfl⟩ : ∃ y py, ts = [.Name y py] := by
      match ts, h with
      | [], h => exact (Bool.false_ne_true h).elim
      | [z], h => cases z <;> first | exact ⟨_, _, rfl⟩ | exact (Bool.false_ne_true h).elim
      | z :: _ :: _, h => cases z <;> exact (Bool.false_ne_true h).elim
    cases e0 <;> first | (exact (Bool.false_ne_true h).elim) | skip
    · rename_i elt' gs scope pos
      change (_ && _) = true at h
      simp only [Bool.and_eq_true] at h
      obtain ⟨⟨⟨⟨⟨h0, h⟩, hy⟩, hi⟩, hl⟩, ha⟩ := h
      cases e <;> first | (cases h0; done) | skip
      rename_i m elt tg it ifs own
      match gs, h with
      | [⟨tg', it', ifs', as⟩], h =>
        by_cases ha : as = 0
        · subst ha
          change (_ && _) = true at h
          simp only [Bool.and_eq_true] at h
          obtain ⟨⟨⟨⟨⟨⟨⟨⟨h1, h2⟩, h3⟩, h4⟩, h5⟩, h6⟩, h7⟩, h8⟩, h9⟩ := h
          have ok := blkOk_by h1
          have hok : BlkOk X.N X.env.scope scope (own.map fun i => (N.getD i "", i)) := by rw [hx.nm, hx.scp]; exact ok
          have hown : (own.map fun i => ((N.getD i "", i) : Str × Nat)).map (·.2) = own := by rw [List.map_map]; exact List.map_id _
          have hyl : X.env.scope.names.lookup y = some .local := by rw [hx.scp]; exact pure_of hy
          have P := ps_setLc (spos := p) (py := py) (i := i) (y := y) (pos := pos) (elt := elt') (ifs := ifs') (tg := tg') (iter := it') (scope := scope) (g := gS X.K tg) (tt := bOf X.K (wpBs G ifs)) (te := tOf X.K (wpE G elt)) hx.calm (by rw [hx.nm]; exact hx.nd) (by rw [hx.nm]; exact lits hi) hyl
            (sw_true (by rw [hx.scp]; exact hx.kind) hyl hl (by simpa using ‹(!scope.names.any fun x => match x with | (n, k) => n == y && (k == NameKind.local || k == NameKind.cell)) = true›)) (sI it _ _ hx h6 (pairs_of h9)) hok (fun s H C cl fp => sT tg _ (hx.blk ok.kind s H C cl fp) h3 h4) (fun s H C cl fp => sBs ifs _ (hx.blk ok.kind s H C cl fp) h7 (by simpa using h8))
            (fun s H C cl fp => sE elt _ (hx.blk ok.kind s H C cl fp) h2) (sI_fold it _ h6)
          rw [hown] at P
          refine PS.imp P fun E σ H ⟨η, μ, ρ, S, ED, hE, hR, hT, hQ⟩ => ?_
          rw [wpS] at hT
          refine lc_of hE hR h4 (fun i hi => by simpa using List.all_eq_true.mp h5 i hi) hT fun v H' ⟨d, S1, μ1, g1, r1, rv, q⟩ => ?_
          exact hQ.nx _ _ _ _ _ g1 r1 ((hE.ext g1.ext).set rv i) q
        · rcases as with (_ | _) | _ <;> first | exact (ha rfl).elim | exact (Bool.false_ne_true h).elim
      | [], h => exact (Bool.false_ne_true h).elim
      | _ :: _ :: _, h => exact (Bool.false_ne_true h).elim
    · rename_i key' val' gs scope pos
      change (_ && _) = true at h
      simp only [Bool.and_eq_true] at h
      obtain ⟨⟨⟨⟨⟨h0, h⟩, hy⟩, hi⟩, hl⟩, ha⟩ := h
      cases e <;> first | (cases h0; done) | skip
      rename_i key val tg it own
      match gs, h with
      | [⟨tg', it', ifs', as⟩], h =>
        by_cases hz : as = 0 ∧ ifs' = []
        · obtain ⟨rfl, rfl⟩ := hz
          change (_ && _) = true at h
          simp only [Bool.and_eq_true] at h
          obtain ⟨⟨⟨⟨⟨⟨⟨h1, h2⟩, h2'⟩, h3⟩, h4⟩, h5⟩, h6⟩, h9⟩ := h
          have ok := blkOk_by h1
          have hok : BlkOk X.N X.env.scope scope (own.map fun i => (N.getD i "", i)) := by rw [hx.nm, hx.scp]; exact ok
          have hown : (own.map fun i => ((N.getD i "", i) : Str × Nat)).map (·.2) = own := by rw [List.map_map]; exact List.map_id _
          have hyl : X.env.scope.names.lookup y = some .local := by rw [hx.scp]; exact pure_of hy
          have P := ps_setDc (spos := p) (py := py) (i := i) (y := y) (pos := pos) (kx := key') (vx := val') (ifs := []) (tg := tg') (iter := it') (scope := scope) (g := gS X.K tg) (tt := tYes) (tk := tOf X.K (wpE G key)) (tv := tOf X.K (wpE G val)) hx.calm (by rw [hx.nm]; exact hx.nd) (by rw [hx.nm]; exact lits hi) hyl
            (sw_trueD (by rw [hx.scp]; exact hx.kind) hyl hl (by simpa using ha)) (sI it _ _ hx h6 (pairs_of h9)) hok (fun s H C cl fp => sT tg _ (hx.blk ok.kind s H C cl fp) h3 h4) (fun s H C cl fp => pts_nil)
            (fun s H C cl fp => sE key _ (hx.blk ok.kind s H C cl fp) h2) (fun s H C cl fp => sE val _ (hx.blk ok.kind s H C cl fp) h2') (sI_fold it _ h6)
          rw [hown] at P
          refine PS.imp P fun E σ H ⟨η, μ, ρ, S, ED, hE, hR, hT, hQ⟩ => ?_
          rw [wpS] at hT
          refine dc_of hE hR h4 (fun i hi => by simpa using List.all_eq_true.mp h5 i hi) hT fun v H' ⟨d, S1, μ1, g1, r1, rv, q⟩ => ?_
          exact hQ.nx _ _ _ _ _ g1 r1 ((hE.ext g1.ext).set rv i) q
        · exfalso
          rcases ifs' with _ | ⟨_, _⟩ <;> rcases as with (_ | _) | _ <;> first | exact hz ⟨rfl, rfl⟩ | exact (Bool.false_ne_true h).elim
      | [], h => exact (Bool.false_ne_true h).elim
      | _ :: _ :: _, h => exact (Bool.false_ne_true h).elim
  | .append a e, X, sc, W, st, hx, hs, h => by
    cases st <;> first | (exact (Bool.false_ne_true h).elim) | skip
    rename_i e0 p
    cases e0 <;> first | (exact (Bool.false_ne_true h).elim) | skip
    rename_i f args kws cp
    cases f <;> first | (exact (Bool.false_ne_true h).elim) | skip
    rename_i o m ap
    obtain ⟨e', rfl, rfl⟩ : ∃ e', args = [e'] ∧ kws = [] := by
      match args, kws, h with
      | [_], [], _ => exact ⟨_, rfl, rfl⟩
      | [], _, h => exact (Bool.false_ne_true h).elim
      | _ :: _ :: _, _, h => exact (Bool.false_ne_true h).elim
      | [_], _ :: _, h => exact (Bool.false_ne_true h).elim
    change (_ && _) = true at h
    simp only [Bool.and_eq_true, beq_iff_eq] at h
    obtain ⟨⟨⟨⟨h1, h2⟩, h3⟩, h4⟩, h5⟩ := h
    subst h1
    refine PS.imp (ps_expr (pe_bm PySem.F.plainAttrs_list PySem.F.slot_list_append PySem.F.type_list_append mt_append (sE a _ hx h3) (pa1 (sE e _ hx h4) (star_of h4)) (base_of h5) (by rw [star_of h4]; rfl) (by simpa using h2) (star_of h4) rfl)) fun E σ H ⟨η, μ, ρ, S, ED, hE, hR, hT, hQ⟩ => ?_
    simp only [wpS] at hT
    refine use hE hR hT fun d S1 v μ1 H1 g1 r1 e1 rv1 q1 => ?_
    obtain ⟨n, rfl, hn, q1⟩ := q1
    cases rv1 with
    | @ref n a1 hn1 =>
      obtain ⟨a2, ha2, vs2, hv2, qs2⟩ : ∃ a2, μ1[n]? = some a2 ∧ ∃ vs, H1 a2 = some (.lst vs) ∧ True := by
        obtain ⟨ds0, hn⟩ := hn
        obtain ⟨a2, ha2, vs, e, q⟩ := r1.cell n _ hn
        exact ⟨a2, ha2, vs, e, trivial⟩
      rw [hn1] at ha2; cases ha2
      refine ⟨.inl ⟨rfl, _, .inl (.inl hv2)⟩, ?_⟩
      refine useA (QD := fun ds S2 => ∃ xs, S2[n]? = some (.lst xs) ∧ xs.length < sizeLine ∧ ED.nx ρ (S2.set n (.lst (xs ++ [ds.headD .non])))) e1 r1 q1 fun ds S2 vs μ2 H2 g2 r2 e2 rv2 hl q2 => ?_
      obtain ⟨y, u, rfl, rfl, ru⟩ := one_of rv2 hl
      obtain ⟨xs, ec, hz, q⟩ := q2
      obtain ⟨a3, ha3, ws, hw, qs⟩ := r2.cell n _ ec
      obtain ⟨more, em⟩ := g2.pre
      have ha1 : μ2[n]? = some a1 := by
        rw [em, List.getElem?_append_left (List.getElem?_eq_some_iff.mp hn1).1]; exact hn1
      rw [ha1] at ha3; cases ha3
      refine ⟨a1, ws, u, rfl, rfl, hw, by rw [← qs.length]; exact hz, ?_⟩
      have gg := grow_set (o := .lst (ws ++ [u])) r2 ha1 hw
      exact hQ.nx _ _ _ _ _ ((g1.trans g2).trans gg) (rp_set r2 ha1 hw (qs.append (.cons ru .nil))) (e2.ext gg.ext) q
  | .extend a e, X, sc, W, st, hx, hs, h => by
    cases st <;> first | (exact (Bool.false_ne_true h).elim) | skip
    rename_i e0 p
    cases e0 <;> first | (exact (Bool.false_ne_true h).elim) | skip
    rename_i f args kws cp
    cases f <;> first | (exact (Bool.false_ne_true h).elim) | skip
    rename_i o m ap
    obtain ⟨e', rfl, rfl⟩ : ∃ e', args = [e'] ∧ kws = [] := by
      match args, kws, h with
      | [_], [], _ => exact ⟨_, rfl, rfl⟩
      | [], _, h => exact (Bool.false_ne_true h).elim
      | _ :: _ :: _, _, h => exact (Bool.false_ne_true h).elim
      | [_], _ :: _, h => exact (Bool.false_ne_true h).elim
    change (_ && _) = true at h
    simp only [Bool.and_eq_true, beq_iff_eq] at h
    obtain ⟨⟨⟨⟨h1, h2⟩, h3⟩, h4⟩, h5⟩ := h
    subst h1
    refine PS.imp (ps_expr (pe_bm PySem.F.plainAttrs_list PySem.F.slot_list_extend PySem.F.type_list_extend mt_extend (sE a _ hx h3) (pa1 (sE e _ hx h4) (star_of h4)) (base_of h5) (by rw [star_of h4]; rfl) (by simpa using h2) (star_of h4) rfl)) fun E σ H ⟨η, μ, ρ, S, ED, hE, hR, hT, hQ⟩ => ?_
    simp only [wpS] at hT
    refine use hE hR hT fun d S1 v μ1 H1 g1 r1 e1 rv1 q1 => ?_
    obtain ⟨n, rfl, hn, q1⟩ := q1
    cases rv1 with
    | @ref n a1 hn1 =>
      obtain ⟨a2, ha2, vs2, hv2, qs2⟩ : ∃ a2, μ1[n]? = some a2 ∧ ∃ vs, H1 a2 = some (.lst vs) ∧ True := by
        obtain ⟨ds0, hn⟩ := hn
        obtain ⟨a2, ha2, vs, e, q⟩ := r1.cell n _ hn
        exact ⟨a2, ha2, vs, e, trivial⟩
      rw [hn1] at ha2; cases ha2
      refine ⟨.inl ⟨rfl, _, .inl (.inl hv2)⟩, ?_⟩
      refine useA (QD := fun ds S2 => ∃ xs zs, S2[n]? = some (.lst xs) ∧ lstOf S2 (ds.headD .non) = some zs ∧ xs.length + zs.length ≤ sizeLine ∧ ED.nx ρ (S2.set n (.lst (xs ++ zs)))) e1 r1 q1 fun ds S2 vs μ2 H2 g2 r2 e2 rv2 hl q2 => ?_
      obtain ⟨y, u, rfl, rfl, ru⟩ := one_of rv2 hl
      obtain ⟨xs, zs, ec, ez, hz, q⟩ := q2
      obtain ⟨a3, ha3, ws, hw, qs⟩ := r2.cell n _ ec
      obtain ⟨more, em⟩ := g2.pre
      have ha1 : μ2[n]? = some a1 := by
        rw [em, List.getElem?_append_left (List.getElem?_eq_some_iff.mp hn1).1]; exact hn1
      rw [ha1] at ha3; cases ha3
      obtain ⟨b4, us, rfl, hb4, qz⟩ := lst_of r2 ru ez
      refine ⟨a1, b4, ws, us, rfl, rfl, hw, hb4, by rw [← qs.length, ← qz.length]; exact hz, ?_⟩
      have gg := grow_set (o := .lst (ws ++ us)) r2 ha1 hw
      exact hQ.nx _ _ _ _ _ ((g1.trans g2).trans gg) (rp_set r2 ha1 hw (qs.append qz)) (e2.ext gg.ext) q
  | .if_ c a b, X, sc, W, st, hx, hs, h => by
    cases st <;> first | (exact (Bool.false_ne_true h).elim) | skip
    change (_ && _) = true at h
    simp only [Bool.and_eq_true] at h
    refine PS.imp (ps_if (sB c _ hx h.1.1) (sSs a _ hx hs h.1.2) (sSs b _ hx hs h.2)) fun E σ H ⟨η, μ, ρ, S, ED, hE, hR, hT, hQ⟩ => ?_
    simp only [wpS] at hT
    refine useB hE hR hT fun r S1 μ1 H1 g1 r1 e1 q1 => ?_
    cases r with
    | true => simp only [if_true] at q1 ⊢; exact useS e1 r1 q1 (hQ.grow g1)
    | false => simp only [Bool.false_eq_true, if_false] at q1 ⊢; exact useS e1 r1 q1 (hQ.grow g1)
  | .while_ c b, X, sc, W, st, hx, hs, h => by
    cases st <;> first | (exact (Bool.false_ne_true h).elim) | skip
    rename_i t bd el p
    cases el <;> first | (exact (Bool.false_ne_true h).elim) | skip
    change (_ && _) = true at h
    simp only [Bool.and_eq_true] at h
    refine PS.imp (ps_while hx.xe (sB c _ hx h.1) (sSs b _ hx hs h.2)) fun E σ H ⟨η, μ, ρ, S, ED, hE, hR, hT, hQ⟩ => ?_
    simp only [wpS] at hT
    obtain ⟨W, ⟨m0, w0⟩, turn⟩ := hT
    refine ⟨fun m σ' H' => ∃ ρ' S' μ', Grow μ H μ' H' ∧ Rp X.K η μ' S' H' ∧ RE X.K H' η μ' ρ' σ' ∧ W m ρ' S', ⟨m0, ρ, S, μ, .refl, hR, hE, w0⟩, ?_⟩
    rintro m σ1 H1 ⟨ρ1, S1, μ1, g1, r1, e1, w1⟩
    refine useB e1 r1 (turn m ρ1 S1 w1) fun r S2 μ2 H2 g2 r2 e2 q2 => ?_
    cases r with
    | false => simp only [Bool.false_eq_true, if_false] at q2 ⊢; exact hQ.nx _ _ _ _ _ (g1.trans g2) r2 e2 q2
    | true =>
      simp only [if_true] at q2 ⊢
      refine ⟨fun σ' H' => ∃ ρ' S' μ', Grow μ H μ' H' ∧ Rp X.K η μ' S' H' ∧ RE X.K H' η μ' ρ' σ' ∧ ∃ m', m' < m ∧ W m' ρ' S', fun σ' H' ⟨ρ', S', μ', g, r, e, m', hm, w⟩ => ⟨m', hm, ρ', S', μ', g, r, e, w⟩, ?_⟩
      refine useS e2 r2 q2 ⟨fun ρ' S' σ' μ' H' g r e w => ⟨ρ', S', μ', (g1.trans g2).trans g, r, e, w⟩, fun d S' v μ' H' g r rv q => hQ.rt _ _ _ _ _ ((g1.trans g2).trans g) r rv q,
        fun ρ' S' σ' μ' H' g r e q => hQ.nx _ _ _ _ _ ((g1.trans g2).trans g) r e q, fun ρ' S' σ' μ' H' g r e w => ⟨ρ', S', μ', (g1.trans g2).trans g, r, e, w⟩, fun σ' => (hQ.xc σ').from (g1.trans g2)⟩
  | .for_ t it b, X, sc, W, st, hx, hs, h => by
    cases st <;> first | (exact (Bool.false_ne_true h).elim) | skip
    rename_i t' it' bd el p
    cases el <;> first | (exact (Bool.false_ne_true h).elim) | skip
    change (_ && _) = true at h
    simp only [Bool.and_eq_true] at h
    obtain ⟨⟨⟨⟨h1, h2⟩, h3⟩, h4⟩, h9⟩ := h
    refine PS.imp (ps_for hx.xe hx.calm (sI it _ _ hx h3 (pairs_of h9)) (sT t _ hx h1 h2) (sSs b _ hx hs h4) (sI_fold it _ h3)) fun E σ H ⟨η, μ, ρ, S, ED, hE, hR, hT, hQ⟩ => ?_
    simp only [wpS] at hT
    refine ⟨η, μ, ρ, S, _, hE, hR, hT, fun J H1 items I S1 μ1 g1 r1 hW jok => ?_⟩
    obtain ⟨W, w0, wst, turn, fin⟩ := hW
    refine ⟨fun i m σ' H' => i ≤ items.length ∧ m = items.length - i ∧ ∃ ρ' S' μ', Grow μ1 H1 μ' H' ∧ Rp X.K η μ' S' H' ∧ RE X.K H' η μ' ρ' σ' ∧ W i ρ' S', ⟨items.length, Nat.zero_le _, rfl, ρ, S1, μ1, .refl, r1, hE.ext g1.ext, w0⟩, ?_⟩
    rintro i m σ2 H2 ⟨hi, rfl, ρ2, S2, μ2, g2, r2, e2, w2⟩
    obtain ⟨jgo, jstop⟩ := jok i η μ2 S2 H2 g2.ext r2 (wst i ρ2 S2 w2)
    by_cases hlt : i < items.length
    · right
      obtain ⟨go, yl⟩ := jgo hlt
      refine ⟨go, fun σ' H' => i + 1 ≤ items.length ∧ ∃ ρ' S' μ', Grow μ1 H1 μ' H' ∧ Rp X.K η μ' S' H' ∧ RE X.K H' η μ' ρ' σ' ∧ W (i + 1) ρ' S', fun σ' H' hN => ⟨items.length - (i + 1), by omega, hN.1, rfl, hN.2⟩, fun x H3 hy => ?_⟩
      obtain ⟨gy, ry, d, hd, rvd⟩ := yl x H3 hy
      refine gS_run t h2 ry (e2.ext gy.ext) rvd (turn i d ρ2 S2 w2 hd) fun ρ' σ' e' _ _ q => ?_
      have gg : Grow μ1 H1 μ2 H3 := g2.trans gy
      have hG := hQ.grow (g1.trans gg)
      exact useS e' ry q ⟨fun ρ' S' σ' μ' H' g r e w => ⟨hlt, ρ', S', μ', gg.trans g, r, e, w⟩, hG.rt, hG.nx, fun ρ' S' σ' μ' H' g r e w => ⟨hlt, ρ', S', μ', gg.trans g, r, e, w⟩, hG.xc⟩
    · left
      have hi' : i = items.length := by omega
      subst hi'
      exact ⟨jstop (Nat.le_refl _) (Nat.le_refl _), hQ.nx _ _ _ _ _ (g1.trans g2) r2 e2 (fin _ _ w2)⟩
  | .lock s, X, sc, W, st, hx, hs, h => by
    change (_ && _) = true at h
    simp only [Bool.and_eq_true, Bool.not_eq_true'] at h
    refine PS.imp (ps_lock (sS s st hx hs h.2)) fun E σ H ⟨η, μ, ρ, S, ED, hE, hR, hT, hQ⟩ => ?_
    rw [wpS] at hT
    obtain ⟨n, kvs, hc, hT⟩ := hT
    obtain ⟨a, ha, vs, hv, qk⟩ := hR.cell n _ hc
    have hm := List.mem_of_getElem? ha
    refine ⟨a, .dT vs, hv, trivial, fun od => ?_⟩
    have g0 := grow_set (o := .frz od (.dT vs)) hR ha hv
    have qk0 := qk.ext (g0.ext (η := η))
    have fin : ∀ μ' H', Grow μ (upd H a (.frz od (.dT vs))) μ' H' → (μ'[n]? = some a ∧ H' a = some (.frz od (.dT vs)) ∧ RKs X.K H' η μ' kvs vs) := fun μ' H' g => by
      refine ⟨?_, g.frz _ _ _ upd_same, qk0.ext g.ext⟩
      obtain ⟨more, em⟩ := g.pre
      rw [em, List.getElem?_append_left (List.getElem?_eq_some_iff.mp ha).1]; exact ha
    refine ⟨η, μ, ρ, S.set n (.dlk kvs), _, hE.ext g0.ext, rp_lock hR ha hv qk, hT, ⟨fun ρ' S' σ' μ' H' g r e q => ?_, fun d S' v μ' H' g r e q => ?_, fun ρ' S' σ' μ' H' g r e q => ?_, fun ρ' S' σ' μ' H' g r e q => ?_, fun σ' c ds S' vs μ2 H2 C d H3 g2 r2 rv2 n2 xr q => (hs.no h.1 _ _ _ q).elim⟩⟩
    · obtain ⟨f1, f2, f3⟩ := fin _ _ g
      exact ⟨f2, hQ.nx _ _ _ _ _ (grow_un lkT (fun _ _ z => nomatch z) hm hv g) (rp_unlock r f1 f2 f3) (e.un lkT (List.mem_of_getElem? f1) f2) q⟩
    · obtain ⟨f1, f2, f3⟩ := fin _ _ g
      exact ⟨f2, hQ.rt _ _ _ _ _ (grow_un lkT (fun _ _ z => nomatch z) hm hv g) (rp_unlock r f1 f2 f3) (e.un lkT (List.mem_of_getElem? f1) f2) q⟩
    · obtain ⟨f1, f2, f3⟩ := fin _ _ g
      exact ⟨f2, hQ.bk _ _ _ _ _ (grow_un lkT (fun _ _ z => nomatch z) hm hv g) (rp_unlock r f1 f2 f3) (e.un lkT (List.mem_of_getElem? f1) f2) q⟩
    · obtain ⟨f1, f2, f3⟩ := fin _ _ g
      exact ⟨f2, hQ.ct _ _ _ _ _ (grow_un lkT (fun _ _ z => nomatch z) hm hv g) (rp_unlock r f1 f2 f3) (e.un lkT (List.mem_of_getElem? f1) f2) q⟩
  | .lockS s, X, sc, W, st, hx, hs, h => by
    change (_ && _) = true at h
    simp only [Bool.and_eq_true, Bool.not_eq_true'] at h
    refine PS.imp (ps_lock (sS s st hx hs h.2)) fun E σ H ⟨η, μ, ρ, S, ED, hE, hR, hT, hQ⟩ => ?_
    rw [wpS] at hT
    obtain ⟨n, ks, hc, hT⟩ := hT
    obtain ⟨a, ha, xs, hv, rfl, qk⟩ := hR.cell n _ hc
    have hm := List.mem_of_getElem? ha
    refine ⟨a, StD a xs, hv, trivial, fun od => ?_⟩
    have g0 := grow_set (o := .frz od (StD a xs)) hR ha hv (std_frz)
    have qk0 := qk.ext (g0.ext (η := η))
    have fin : ∀ μ' H', Grow μ (upd H a (.frz od (StD a xs))) μ' H' → (μ'[n]? = some a ∧ H' a = some (.frz od (StD a xs)) ∧ Ks3 X.K H' xs) := fun μ' H' g => by
      refine ⟨?_, g.frz _ _ _ upd_same, qk0.ext (g.ext (η := η))⟩
      obtain ⟨more, em⟩ := g.pre
      rw [em, List.getElem?_append_left (List.getElem?_eq_some_iff.mp ha).1]; exact ha
    refine ⟨η, μ, ρ, S.set n (.stl (xs.map (·.1))), _, hE.ext g0.ext, rp_lock3 hR ha hv qk, hT, ⟨fun ρ' S' σ' μ' H' g r e q => ?_, fun d S' v μ' H' g r e q => ?_, fun ρ' S' σ' μ' H' g r e q => ?_, fun ρ' S' σ' μ' H' g r e q => ?_, fun σ' c ds S' vs μ2 H2 C d H3 g2 r2 rv2 n2 xr q => (hs.no h.1 _ _ _ q).elim⟩⟩
    · obtain ⟨f1, f2, f3⟩ := fin _ _ g
      exact ⟨f2, hQ.nx _ _ _ _ _ (grow_un lk3 std_frz hm hv g) (rp_unlock3 r f1 f2 f3) (e.un lk3 (List.mem_of_getElem? f1) f2) q⟩
    · obtain ⟨f1, f2, f3⟩ := fin _ _ g
      exact ⟨f2, hQ.rt _ _ _ _ _ (grow_un lk3 std_frz hm hv g) (rp_unlock3 r f1 f2 f3) (e.un lk3 (List.mem_of_getElem? f1) f2) q⟩
    · obtain ⟨f1, f2, f3⟩ := fin _ _ g
      exact ⟨f2, hQ.bk _ _ _ _ _ (grow_un lk3 std_frz hm hv g) (rp_unlock3 r f1 f2 f3) (e.un lk3 (List.mem_of_getElem? f1) f2) q⟩
    · obtain ⟨f1, f2, f3⟩ := fin _ _ g
      exact ⟨f2, hQ.ct _ _ _ _ _ (grow_un lk3 std_frz hm hv g) (rp_unlock3 r f1 f2 f3) (e.un lk3 (List.mem_of_getElem? f1) f2) q⟩
  | .fset cn a f e, X, sc, W, st, hx, hs, h => by
    cases st <;> first | (exact (Bool.false_ne_true h).elim) | skip
    rename_i ts v p
    match ts, h with
    | [t'], h =>
      cases t' <;> first | (exact (Bool.false_ne_true h).elim) | skip
      rename_i o' f' p'
      change (_ && _) = true at h
      simp only [Bool.and_eq_true, beq_iff_eq] at h
      obtain ⟨⟨⟨h1, h2⟩, h3⟩, h5⟩ := h
      subst h1
      refine PS.imp (ps_fld (sE a _ hx h2) (sE e _ hx h3) (by cases v <;> rfl)) fun E σ H ⟨η, μ, ρ, S, ED, hE, hR, hT, hQ⟩ => ?_
      rw [wpS] at hT
      refine use hE hR hT fun d S1 v μ1 H1 g1 r1 e1 rv1 q1 => use e1 r1 q1 fun d2 S2 v2 μ2 H2 g2 r2 e2 rv2 q2 => ?_
      obtain ⟨n, fs, rfl, hc, hl, q⟩ := q2
      cases rv2 with
      | @ref n a1 hn =>
        obtain ⟨a', ha', C, dx, vs, hk, hv, qs⟩ := r2.cell n _ hc
        rw [hn] at ha'; cases ha'
        obtain ⟨cc, na⟩ := attr_of' hx.tab h5 hk
        have gg := grow_set (o := .ins C dx (putF f' v vs)) r2 hn hv
        exact ⟨a1, C, dx, vs, rfl, hv, cc, na, by rw [← RKs.len qs]; exact hl, hQ.nx _ _ _ _ _ ((g1.trans g2).trans gg) (rp_setI r2 hn hk hv qs (rv1.ext g2.ext)) (e2.ext gg.ext) q⟩
    | [], h => exact (Bool.false_ne_true h).elim
    | t1 :: _ :: _, h => cases t1 <;> exact (Bool.false_ne_true h).elim
theorem sSs : ∀ (cs : List CS) {X : Cx} {sc : SS} {W : WX} (sts : List Stmt), Here T G k N X sc → HereS T G X W → okSs T N sc cs sts = true → PSs X sts (sOf X.K G.xc W (wpSs G cs))
  | [], X, sc, W, sts, hx, hs, h => by
    cases sts with
    | cons _ _ => simp [okSs] at h
    | nil =>
      refine PSs.imp pss_nil fun E σ H ⟨η, μ, ρ, S, ED, hE, hR, hT, hQ⟩ => ?_
      simp only [wpSs] at hT
      exact hQ.nx _ _ _ _ _ .refl hR hE hT
  | c :: cs, X, sc, W, sts, hx, hs, h => by
    cases sts with
    | nil => simp [okSs] at h
    | cons st sts =>
      simp only [okSs, Bool.and_eq_true] at h
      refine PSs.imp (pss_cons (sS c st hx hs h.1) (sSs cs sts hx hs h.2)) fun E σ H ⟨η, μ, ρ, S, ED, hE, hR, hT, hQ⟩ => ?_
      simp only [wpSs] at hT
      refine useS hE hR hT ⟨fun ρ' S' σ' μ' H' g r e q => useS e r q (hQ.grow g), hQ.rt, hQ.bk, hQ.ct, fun σ' => hQ.xc σ'⟩
end
end
end DL
namespace DL
open PySem PySem.Spec PyProof.Rows L2
theorem takes_not {X : Cx} : Takes X (fun _ _ _ _ => False) := fun _ _ ⟨_, _, _, _, _, _, _, _, _, _, _, _, _, _, _, _, w⟩ => w.elim
noncomputable def startD (n : Nat) (ds : List D) : DEnv := ds.map some ++ List.replicate (n - ds.length) none
theorem re_start {K : PySem.W.Frag} {H : Hp} {η μ : List Addr} {N : List Str} {ds : List D} {vs : List V} (r : RVs K H η μ ds vs) : RE K H η μ (startD N.length ds) (L2.start N vs) := by
  have hl := r.length
  refine ⟨by simp [startD, L2.start, hl], fun i d h => ?_⟩
  unfold startD at h
  by_cases hi : i < ds.length
  · rw [List.getElem?_append_left (by simpa using hi), List.getElem?_map] at h
    rw [List.getElem?_eq_getElem hi] at h
    simp at h
    obtain ⟨v, e, rv⟩ := r.get (List.getElem?_eq_getElem hi)
    refine ⟨v, ?_, by rw [← h]; exact rv⟩
    unfold L2.start
    rw [List.getElem?_append_left (by simp; omega), List.getElem?_map, e]
    rfl
  · rw [List.getElem?_append_right (by simpa using hi), List.getElem?_replicate] at h
    split at h <;> simp at h
/-- what the def that makes the lambda asks of its code object -/
noncomputable def LamB (K : PySem.W.Frag) (base : Heap) (mg : Str → Option Value) : Prop := ∀ c P, PySem.W.tabIn K "next_pace" = some (c, P) → LamX.TabB base mg c P
theorem tab_code {K : PySem.W.Frag} {f c P : Addr} {oc : Value} {od : Option Addr} {osl : Array (Option Value)} {fd : FuncData} (hn : PySem.W.nsIn K mainGlobals "next_pace" = some (some (.ref f))) (lk : K.lookup f = some ⟨oc, od, .func fd, osl⟩)
    (ht : PySem.W.tabIn K "next_pace" = some (c, P)) : fd.code = .ref c := by
  unfold PySem.W.tabIn at ht
  rw [hn] at ht
  simp only [lk] at ht
  split at ht
  · rename_i c' hc
    split at ht
    · split at ht
      · simp only [Option.some.injEq, Prod.mk.injEq] at ht
        rw [hc, ht.1]
      · cases ht
    · cases ht
  · cases ht
theorem mem_tbs {K : PySem.W.Frag} {c P : Addr} (h : PySem.W.tabIn K "next_pace" = some (c, P)) : P ∈ tbs K := by
  unfold tbs; rw [h]; exact List.mem_singleton.mpr rfl
theorem tbs_mem {K : PySem.W.Frag} {P : Addr} (h : P ∈ tbs K) : ∃ c, PySem.W.tabIn K "next_pace" = some (c, P) := by
  unfold tbs at h
  cases e : PySem.W.tabIn K "next_pace" with
  | none => rw [e] at h; cases h
  | some cp =>
    rw [e] at h
    obtain ⟨c, Q⟩ := cp
    have : P = Q := List.mem_singleton.mp h
    exact ⟨c, by rw [this]⟩
/-- a def keeps what its body's reading tells -/
theorem fn_sound {P : Program} {w : World} {K : PySem.W.Frag} {mg : Str → Option Value} {base : Heap} {T : Tb} {G : Fns} {k : Nat} {x qual : Str} {st : Stmt} {f : Addr} {fd : FuncData} {N ps : List Str} {core : List CS} {sp : List D → DStore → QE → Prop}
    (F : L2.Fun K x qual st f fd) (Sc : FnScope N ps (L2.defScope st)) (tab : Tab P w K mg base k T G) (ok : okSs T N ⟨L2.defScope st, L2.defScope st⟩ core (L2.defBody st) = true)
    (hlen : ∀ ds S Q, sp ds S Q → ds.length = ps.length) (hb : ∀ ds S Q, sp ds S Q → wpSs G core (startD N.length ds) S { nx := fun _ S' => Q .non S', rt := Q })
    (hl : T.lam = true → qual = "next_pace" ∧ PySem.W.nsIn K mainGlobals "next_pace" = some (some (.ref f)) ∧ ∃ c P, PySem.W.tabIn K "next_pace" = some (c, P) ∧ LamX.TabB base mg c P) (hG : ∀ c ds S, ¬ G.xc c ds S) :
    FnG P w K mg base (k + 1) f fd ps (spOf K sp) := by
  refine fnG_of F Sc (fun vs H Q ⟨η, μ, S, ds, QD, r, rv, h, hq⟩ => by rw [← rv.length]; exact hlen _ _ _ h) fun cdv A outer s H vs Q hcdv hg hr h => ?_
  obtain ⟨η, μ, S, ds, QD, r, rv, h, hq⟩ := h
  have hx : Here T G k N (cxG P w K mg base N qual st f cdv A outer s H) ⟨L2.defScope st, L2.defScope st⟩ :=
    ⟨tab, rfl, Sc.nd, rfl, Sc.kind, rfl, hr, hg, PassesOwn.never, fun _ _ => rfl, fun hT => by
      obtain ⟨hq, hn, c, P, ht, TB⟩ := hl hT
      obtain ⟨oc, od, osl, fd', lk, hc⟩ := hcdv
      subst hq
      exact ⟨c, P, TB, hc.symm.trans (tab_code hn lk ht), rfl, mem_tbs ht⟩⟩
  refine ⟨_, sSs core _ hx (W := fun _ _ _ _ => False) ⟨takes_not, fun _ => hG, rfl, rfl, rfl⟩ ok, useS (re_start rv) r (hb ds S QD h) ⟨?_, ?_, fun _ _ _ _ _ _ _ _ z => z.elim, fun _ _ _ _ _ _ _ _ z => z.elim, fun _ _ _ _ _ _ _ _ _ _ _ _ _ _ _ z => (hG _ _ _ z).elim⟩⟩
  · exact fun ρ' S' σ' μ' H' g r' e q => hq _ _ ⟨.non, S', μ', g, r', .non, q⟩
  · exact fun d S' v μ' H' g r' rv' q => hq _ _ ⟨d, S', μ', g, r', rv', q⟩
theorem Tab.none {P : Program} {w : World} {K : PySem.W.Frag} {mg : Str → Option Value} {base : Heap} {cls : List CIn} {gls bis : List Str} {G : Fns}
    (gl : ∀ (j : Nat) (x : Str), gls[j]? = some x → ∃ u v, mg x = some u ∧ RelV v u ∧ (∀ H η μ, RV K H η μ (G.gl j) v) ∧ ∀ a, v = .ref a → ∃ o, K.lookup a = some o ∧ o.cls = .type "tuple" ∧ o.dict = none) (bi : ∀ x ∈ bis, mg x = none)
    (hc : ∀ c ∈ cls, ∃ C, PySem.W.nsIn K mainGlobals c.name = some (some (.ref C)) ∧ mg c.name = some (.ref C) ∧ Cls K C ∧ (∀ f ∈ c.attrs, NoAttr K C f) ∧ PySem.W.makesIn K C = true ∧ PySem.W.keepIn K (.ref C) = true ∧ isCB K C = true ∧ (c.ne = true → NeC K C)) {lam : Bool} : Tab P w K mg base 0 ⟨[], cls, gls, bis, lam, {}⟩ G :=
  ⟨fun j i h => by simp at h, hc, gl, bi, fun c h => by simp at h, fun c h => by simp at h, fun j i h => by simp at h, .inl rfl⟩
theorem Tab.add {P : Program} {w : World} {K : PySem.W.Frag} {mg : Str → Option Value} {base : Heap} {T : Tb} {G : Fns} {k : Nat} {i : FI} {f : Addr} {fd : FuncData} (tab : Tab P w K mg base k T G)
    (F : FnG P w K mg base (k + 1) f fd i.ps (spOf K (G.fn T.fns.length))) (hm : (i.cl = Option.none → mg i.name = some (.ref f)) ∧ ∀ cn, i.cl = some cn → ∃ C, PySem.W.nsIn K mainGlobals cn = some (some (.ref C)) ∧ Meth K C i.name f) (hk : PySem.W.keepIn K (.ref f) = true) (hb : i.ko = false → KBinds K fd i.ps [] (fun us _ => us) (fun vs _ => vs))
    (hkw : ∀ p ∈ i.kws, KBinds K fd i.ps p.1 (gK .none p.1.length p.2) (gK .non p.1.length p.2))
    {lam : Bool} : Tab P w K mg base (k + 1 + i.up) ⟨T.fns ++ [i], T.cls, T.gls, T.bis, lam, T.x⟩ G := by
  refine ⟨fun j i' h => ?_, tab.cls, tab.gl, tab.bi, fun c h => ⟨(tab.ex c h).1, by have := (tab.ex c h).2; omega⟩, tab.sub, fun j i' h => by
    obtain ⟨f, fd, ⟨F, hu⟩, r⟩ := tab.fx j i' h
    exact ⟨f, fd, ⟨F.mono (by omega), by omega⟩, r⟩, tab.xa⟩
  by_cases hj : j < T.fns.length
  · have h' : T.fns[j]? = some i' := by
      have := h
      simp only at this
      rwa [List.getElem?_append_left hj] at this
    obtain ⟨f, fd, ⟨F, hu⟩, r⟩ := tab.fn j i' h'
    exact ⟨f, fd, ⟨F.mono (by omega), by omega⟩, r⟩
  · have hj' : j = T.fns.length := by
      have := (List.getElem?_eq_some_iff.mp h).1
      simp at this
      omega
    subst hj'
    simp at h
    subst h
    exact ⟨f, fd, ⟨by rw [Nat.add_sub_cancel]; exact F, by omega⟩, hm, hk, hb, hkw⟩
theorem hm_fun {K : PySem.W.Frag} {mg : Str → Option Value} {i : FI} {f : Addr} (hc : i.cl = Option.none) (h : mg i.name = some (.ref f)) : (i.cl = Option.none → mg i.name = some (.ref f)) ∧ ∀ cn, i.cl = some cn → ∃ C, PySem.W.nsIn K mainGlobals cn = some (some (.ref C)) ∧ Meth K C i.name f :=
  ⟨fun _ => h, fun cn z => (nomatch (hc.symm.trans z))⟩
theorem hm_meth {K : PySem.W.Frag} {mg : Str → Option Value} {i : FI} {cn : Str} {f C : Addr} (hc : i.cl = some cn) (hn : PySem.W.nsIn K mainGlobals cn = some (some (.ref C))) (h1 : PySem.W.findIn K (.ref C) i.name = some (some (.ref f))) (h2 : PySem.W.isFn K (.ref f) = true) (h3 : PySem.W.keepIn K (.ref f) = true) :
    (i.cl = Option.none → mg i.name = some (.ref f)) ∧ ∀ cn, i.cl = some cn → ∃ C, PySem.W.nsIn K mainGlobals cn = some (some (.ref C)) ∧ Meth K C i.name f :=
  ⟨fun z => (nomatch (hc.symm.trans z)), fun cn' z => by
    cases hc.symm.trans z
    exact ⟨C, hn, h1, h2, h3⟩⟩
/-- how arguments come by their places, by names -/
theorem kb_pos {K : PySem.W.Frag} {fd : FuncData} {ps : List Str} (h : ∀ us : List Value, us.length = ps.length → bindArgs fd ⟨us, []⟩ = pure (ps.zip us)) : KBinds K fd ps [] (fun us _ => us) (fun vs _ => vs) :=
  ⟨fun s us ws _ hl => .of_eq (h us hl), fun a _ => a⟩
/-- what a law's def promises -/
noncomputable def spLaw : List D → DStore → QE → Prop := fun ds S Q => ∃ ns : List Int, ds = [.scr (ns.map D.int)] ∧ ns.length ≤ 63 ∧ ∀ S', Q (.bl true) S'
theorem rvs_ints {K : PySem.W.Frag} {H : Hp} {η μ : List Addr} : ∀ ns : List Int, RVs K H η μ (ns.map D.int) (ns.map V.int)
  | [] => .nil
  | n :: ns => .cons (.int n) (rvs_ints ns)
theorem law_end {P : Program} {w : World} {K : PySem.W.Frag} {mg mb : Str → Option Value} {k : Nat} {fa a : Addr} {fd : FuncData} {x : Str} {s1 : Shared} {vs : List Value} {ns : List Int}
    (kin : K.In s1.heap) (gns : s1.heap.Ns mainGlobals mg) (bns : s1.heap.Ns builtinsNs mb) (bb : ∀ x : Str, x ≠ "__name__" → mb x = bootBuiltins x) (lim : s1.heap.NoLimit) (nog : s1.gens = #[])
    (hT : ∀ c P, PySem.W.tabIn K "next_pace" = some (c, P) → s1.heap.get? P = some { cls := .none, data := .fields #[] } ∧ K.lookup P = none ∧ PySem.W.CodeHd s1.heap c P)
    (hbm : ∃ (bm : Addr) (ob : Obj), mg "__builtins__" = some (.ref bm) ∧ bm ≠ builtinsNs ∧ s1.heap.get? bm = some ob ∧ ob.cls = .type "module" ∧ ob.dict = some builtinsNs ∧ ob.data = .plain)
    (obj : s1.heap.get? a = some { cls := .type "list", data := .seq vs.toArray }) (hi : IntsAre vs ns) (len : ns.length ≤ 63) (room : Room k callerA)
    (F : ∀ base : Heap, K.In base → base.Ns mainGlobals mg → LamB K base mg → FnG P w K mg base k fa fd [x] (spOf K spLaw)) (binds : ∀ (s : Shared) (u : Value), BindsTo s fd ⟨[u], []⟩ [(x, u)]) :
    codeAny (model P w) callerA (.call (.ref fa) ⟨[.ref a], []⟩) (fun r s' => r = .ok (.ret (.bool true)) ∧ OldK s1.heap s'.heap ∧ s'.os = s1.os ∧ AllBare s'.gens) s1 := by
  have hz : ns.length ≤ sizeLine := Nat.le_trans len (by decide)
  have rel := vals_ints hi
  have hlen := hi.length
  have isT : ∀ b ∈ tbs K, s1.heap.get? b = some { cls := .none, data := .fields #[] } ∧ K.lookup b = none := fun b hb => by
    obtain ⟨c, e⟩ := tbs_mem hb
    exact ⟨(hT c b e).1, (hT c b e).2.1⟩
  have aT : a ∉ tbs K := fun z => by
    have q := (isT a z).1
    rw [obj] at q
    have z' : Data.seq vs.toArray _ = Data.fields #[] := congrArg Obj.data (Option.some.inj q)
    cases z'
  let o : Obj := { cls := .type "list", data := .seq vs.toArray }
  -- whatever is tracked: the tables, and nothing or the script
  have go : ∀ H : Hp, (∀ b ∈ tbs K, H b = some (.tbl #[])) → (∀ b, b ≠ a → b ∉ tbs K → H b = none) → (H a = none ∨ (H a = some (.frz o (.lst (ns.map V.int))) ∧ K.lookup a = none)) → ((∃ o, H a = some (.frz o (.lst (ns.map V.int)))) ∨ ∀ H', SqL K H' a (ns.map V.int)) →
      codeAny (model P w) callerA (.call (.ref fa) ⟨[.ref a], []⟩) (fun r s' => r = .ok (.ret (.bool true)) ∧ OldK s1.heap s'.heap ∧ s'.os = s1.os ∧ AllBare s'.gens) s1 := by
    intro H Ht Hn Ha hscr
    have hok : HOk P w H s1.heap := by
      intro b u e
      by_cases hb : b = a
      · subst hb
        rcases Ha with z | ⟨z, _⟩
        · rw [z] at e; cases e
        · rw [z] at e; cases e
          exact ⟨obj, by simpa using hz, vs, _, rel, obj⟩
      · by_cases hb2 : b ∈ tbs K
        · rw [Ht b hb2] at e; cases e
          exact (isT b hb2).1
        · rw [Hn b hb hb2] at e; cases e
    have keep : ∀ {b : Addr} {u : Obj}, s1.heap.get? b = some u → H b = none → (hidT s1.heap H).get? b = some u := fun e hb => hidT_get e hb
    have noD : ∀ {b : Addr} {u : Obj}, s1.heap.get? b = some u → (∀ vs n, u.data ≠ .seq vs n) → u.data ≠ .fields #[] → H b = none := fun {b u} e h1 h2 => Hn b (fun z => by
      rw [z, obj] at e; cases e
      exact h1 _ _ rfl) fun z => by
      rw [(isT b z).1] at e; cases e
      exact h2 rfl
    have nsK : ∀ {b : Addr} {m : Str → Option Value}, s1.heap.Ns b m → (hidT s1.heap H).Ns b m := by
      rintro b m ⟨u, es, ep, e, d, r⟩
      refine ⟨u, es, ep, keep e (noD e (fun vs n z => ?_) fun z => ?_), d, r⟩
      · rw [d] at z; cases z
      · rw [d] at z; cases z
    have kinB : K.In (hidT s1.heap H) := fun b u e => keep (kin b u e) (by
      by_cases hb : b = a
      · subst hb
        rcases Ha with z | ⟨_, z⟩
        · exact z
        · rw [z] at e; cases e
      · exact Hn b hb fun z => by rw [(isT b z).2] at e; cases e)
    have md : Mod K mg (hidT s1.heap H) := ⟨kinB, nsK gns, ⟨mb, nsK bns, bb⟩, by obtain ⟨mc, h1, h2⟩ := lim; exact ⟨mc, nsK h1, h2⟩⟩
    have LB : LamB K (hidT s1.heap H) mg := fun c Q ht => by
      obtain ⟨hTp, _, C⟩ := hT c Q ht
      refine ⟨?_, ?_, fun z => ?_⟩
      · obtain ⟨ob, us, file, tf, flags, tg, inF, text, tt, e1, r1, r2, r3, r4, r5, r6, r7, r8, hne⟩ := C
        refine ⟨ob, us, file, tf, flags, tg, inF, text, tt, keep e1 (noD e1 (fun vs n z => ?_) fun z => ?_), r1, r2, r3, r4, r5, r6, r7, r8, hne⟩
        · rw [r2] at z; cases z
        · rw [r2] at z; cases z
          simp at r3
      · obtain ⟨bm, ob, b1, b2, b3, b4, b5, b6⟩ := hbm
        have nG : bm ≠ mainGlobals := fun q => by
          obtain ⟨o, es, ep, e, hd, _⟩ := gns
          rw [q, e] at b3; cases b3
          rw [hd] at b6; cases b6
        have nP : bm ≠ Q := fun q => by
          rw [q, hTp] at b3; cases b3
          cases b6
        refine ⟨bm, ob, b1, b2, nG, nP, keep b3 (noD b3 (fun vs n z => ?_) fun z => ?_), b4, b5, b6⟩
        · rw [b6] at z; cases z
        · rw [b6] at z; cases z
      · obtain ⟨o, es, ep, e, hd, _⟩ := gns
        rw [z, hTp] at e; cases e
        cases hd
    have e0 : Env0 P w K mg (hidT s1.heap H) callerA [] s1 H :=
      ⟨rfl, md, fun b u e => of_hidT e, Nat.le_of_eq (hidT_size _ _), trivial, fun b hb => (by cases hb), hok, .of_eq nog⟩
    have sp : spOf K spLaw [.ref a] H (fun v _ => v = .bl true) := by
      refine ⟨[], [], [], [.scr (ns.map D.int)], fun d _ => d = .bl true, ⟨rfl, List.nodup_nil, fun n c e => by simp at e, fun b hb => (by cases hb), fun Q hQ => ⟨(by simp), (by simp), #[], Ht Q hQ, True.intro, fun pos cv hc => by
        have z : codeAmong pos [] = some cv := hc
        simp [codeAmong] at z⟩⟩, .cons (.scr hscr (rvs_ints ns)) .nil, ⟨ns, rfl, len, fun _ => rfl⟩, ?_⟩
      rintro v H' ⟨d, S', μ', g, r, rv, rfl⟩
      cases rv
      rfl
    refine codeAny_mono ((F _ kinB (nsK gns) LB).run callerA [] s1 H ⟨[.ref a], []⟩ [.ref a] [.ref a] _ rfl room e0 (binds s1 (.ref a)) (.cons rfl .nil) sp) fun res s' out => ?_
    match res, out with
    | .error er, out => exact out.elim
    | .ok .next, out => exact out.elim
    | .ok .brk, out => exact out.elim
    | .ok .cont, out => exact out.elim
    | .ok (.ret u), ⟨v, H', os, bare, un, hok', rv, q⟩ =>
      obtain rfl : v = .bl true := q
      obtain rfl : u = Value.bool true := rv
      have key : ∀ b u, b ∉ tbs K → s1.heap.get? b = some u → s'.heap.get? b = some u := fun b u hb2 e => by
        by_cases hb : H b = none
        · exact un.keep b u e hb (fun z => by cases z) (fun z => by cases z)
        · have hba : b = a := Classical.byContradiction fun z => hb (Hn b z hb2)
          subst hba
          rcases Ha with z | ⟨z, _⟩
          · exact absurd z hb
          · obtain ⟨e1, _⟩ := hok' b _ (un.frzs b o _ z)
            rw [obj] at e; cases e
            exact e1
      have grown : ∀ b ∈ tbs K, ∃ more : Array Value, s'.heap.get? b = some { cls := .none, data := .fields more } := fun b hb => by
        obtain ⟨more, z⟩ := un.tbls b #[] (Ht b hb)
        exact ⟨_, hok' b _ z⟩
      refine ⟨rfl, ⟨fun b u e => ?_, fun b u e => ?_⟩, os, bare⟩
      · by_cases hb : b ∈ tbs K
        · obtain ⟨more, hm⟩ := grown b hb
          obtain ⟨c, ht⟩ := tbs_mem hb
          obtain ⟨h1, _, C⟩ := hT c b ht
          rw [h1] at e
          cases e
          exact .inr (.inl ⟨(C.tab h1).isCodeTable, rfl, #[], more, rfl, by rw [Array.empty_append]; exact hm⟩)
        · exact .inl (key b u hb e)
      · by_cases hb : b ∈ tbs K
        · obtain ⟨more, hm⟩ := grown b hb
          exact ⟨_, hm⟩
        · exact ⟨u, key b u hb e⟩
  cases hk : K.lookup a with
  | none => exact go (fun b => if b = a then some (.frz o (.lst (ns.map V.int))) else if b ∈ tbs K then some (.tbl #[]) else none) (fun b hb => by
      have : b ≠ a := fun z => aT (by rw [← z]; exact hb)
      simp only [if_neg this, if_pos hb]) (fun b hb hb2 => by simp only [if_neg hb, if_neg hb2]) (.inr ⟨if_pos rfl, hk⟩) (.inl ⟨o, if_pos rfl⟩)
  | some ob =>
    have e := kin a ob hk
    rw [obj] at e
    cases e
    refine go (fun b => if b ∈ tbs K then some (.tbl #[]) else none) (fun b hb => by simp only [if_pos hb]) (fun b _ hb => by simp only [if_neg hb]) (.inl (by simp only [if_neg aT])) (.inr fun H' => .inr ⟨_, vs.toArray, _, hk, rfl, rfl, rfl, ?_, by simpa using rel⟩)
    rw [List.size_toArray, hlen]; exact hz
/-- what is to be known of the table -/
noncomputable def TabKn (K : PySem.W.Frag) (h : Heap) : Prop := ∀ c P, PySem.W.tabIn K "next_pace" = some (c, P) → h.get? P = some { cls := .none, data := .fields #[] } ∧ K.lookup P = none ∧ PySem.W.CodeHd h c P
theorem tabKn_none {K : PySem.W.Frag} {h : Heap} (e : (PySem.W.tabIn K "next_pace").isNone = true) : TabKn K h := fun c P z => by rw [z] at e; cases e
/-- the goal that the head leaves, from the law's promise -/
theorem walk_law {l : PySem.W.OpenLaw} {k : Nat} {q : Program} {loose : List Str} {XP : (Str → Option Value) → Heap → Prop} {YP : World → Heap → Prop} {d : DefRec} {K : Params → PySem.W.Frag} {x : Str}
    (hn : l.most = some 63) (hdf : d.params.defaults = []) (room : Room k callerA) (hY : ∀ (w : World) (h : Heap), YP w h → (K w.params).In h ∧ TabKn (K w.params) h)
    (F : ∀ (w : World) (mg : Str → Option Value) (fa : Addr) (h : Heap), (K w.params).In h → h.Ns mainGlobals mg → mg d.name = some (.ref fa) →
      ∃ fd : FuncData, (∀ (s : Shared) (u : Value), BindsTo s fd ⟨[u], []⟩ [(x, u)]) ∧ ∀ base : Heap, (K w.params).In base → base.Ns mainGlobals mg → LamB (K w.params) base mg → FnG l.prog w (K w.params) mg base k fa fd [x] (spOf (K w.params) spLaw)) :
    PySem.W.WalkO q loose XP YP l.row.toRowW d [] (fun f vs => PySem.call f vs) := by
  refine Att.attach_call hn hdf ?_
  intro w s0 s1 mg mb fa o pm cd doc a vs ns Gr Yp ho hd hcd hmg hobj hints hlen hg
  obtain ⟨fd, hb, hF⟩ := F w mg fa _ (hY w _ Yp).1 Gr.T.g hmg
  exact law_end (hY w _ Yp).1 Gr.T.g Gr.T.b Gr.T.builtins Gr.T.nolimit hg (hY w _ Yp).2 Gr.T.bmain hobj hints hlen room hF hb
end DL
namespace DL
open PySem PySem.Spec PyProof.Rows L2
theorem walk_range {lo hi : Int} {I : DStore → Prop} {ρ : DEnv} {S : DStore} {turn : D → DEnv → DStore → (DEnv → DStore → Prop) → Prop} {Q : DEnv → DStore → Prop} (Pv : Nat → DEnv → DStore → Prop) (h0 : Pv 0 ρ S) (hI : ∀ i ρ S, Pv i ρ S → I S)
    (hs : ∀ (i : Nat) ρ S, lo + i < hi → Pv i ρ S → turn (.int (lo + i)) ρ S (Pv (i + 1))) (hd : ∀ ρ S, Pv (hi - lo).toNat ρ S → Q ρ S) : wpWalk (rangeD lo hi) I ρ S turn Q := by
  refine ⟨Pv, h0, hI, fun i x ρ S h e => ?_, fun ρ S h => hd ρ S (by simpa [rangeD] using h)⟩
  have hi' : i < (hi - lo).toNat := by
    have := (List.getElem?_eq_some_iff.mp e).1
    simpa [rangeD] using this
  unfold rangeD at e
  rw [List.getElem?_map, List.getElem?_range hi'] at e
  cases e
  exact hs i ρ S (by omega) h
theorem walk_list {items : List D} {I : DStore → Prop} {ρ : DEnv} {S : DStore} {turn : D → DEnv → DStore → (DEnv → DStore → Prop) → Prop} {Q : DEnv → DStore → Prop} (Pv : Nat → DEnv → DStore → Prop) (h0 : Pv 0 ρ S) (hI : ∀ i ρ S, Pv i ρ S → I S)
    (hs : ∀ (i : Nat) (x : D) ρ S, items[i]? = some x → Pv i ρ S → turn x ρ S (Pv (i + 1))) (hd : ∀ ρ S, Pv items.length ρ S → Q ρ S) : wpWalk items I ρ S turn Q :=
  ⟨Pv, h0, hI, fun i x ρ S h e => hs i x ρ S e h, hd⟩
/-- a comprehension that changes nothing: a map -/
theorem gather_map {α : Type} {xs : List α} (mk : α → D) (f : α → D) {I : DStore → Prop} {S : DStore} {turn : D → DStore → (Option D → DStore → Prop) → Prop} {Q : List D → DStore → Prop} (hl : xs.length ≤ sizeLine) (hI : I S)
    (hs : ∀ x ∈ xs, ∀ N : Option D → DStore → Prop, N (some (f x)) S → turn (mk x) S N) (hQ : Q (xs.map f) S) : wpGather (xs.map mk) I S turn Q := by
  refine ⟨fun i acc S' => S' = S ∧ i ≤ xs.length ∧ acc = (xs.take i).map f, ⟨rfl, Nat.zero_le _, by simp⟩, ?_, by simpa using hl, ?_, ?_⟩
  · rintro i acc S' ⟨rfl, hi, rfl⟩
    exact ⟨hI, by simp; omega, by simpa using hi⟩
  · rintro i x acc S' ⟨rfl, hi, rfl⟩ e
    rw [List.getElem?_map] at e
    obtain ⟨y, ey, rfl⟩ := Option.map_eq_some_iff.mp e
    have hlt : i < xs.length := (List.getElem?_eq_some_iff.mp ey).1
    refine hs y (List.mem_of_getElem? ey) _ ⟨rfl, hlt, ?_⟩
    rw [List.take_add_one, ey, List.map_append]; rfl
  · rintro acc S' ⟨rfl, hi, rfl⟩
    rw [List.length_map, List.take_length]; exact hQ
/-- a comprehension by an invariant -/
theorem gather_inv {items : List D} {I : DStore → Prop} {S : DStore} {turn : D → DStore → (Option D → DStore → Prop) → Prop} {Q : List D → DStore → Prop} (Pv : Nat → List D → DStore → Prop) (hl : items.length ≤ sizeLine) (h0 : Pv 0 [] S) (hI : ∀ i acc S, Pv i acc S → I S ∧ acc.length ≤ i)
    (hs : ∀ (i : Nat) x acc S, items[i]? = some x → Pv i acc S → ∀ N : Option D → DStore → Prop, (∀ y S', Pv (i + 1) (acc ++ [y]) S' → N (some y) S') → (∀ S', Pv (i + 1) acc S' → N none S') → turn x S N) (hQ : ∀ acc S, Pv items.length acc S → Q acc S) : wpGather items I S turn Q := by
  refine ⟨fun i acc S' => Pv i acc S' ∧ i ≤ items.length, ⟨h0, Nat.zero_le _⟩, fun i acc S' ⟨h, hi⟩ => ⟨(hI i acc S' h).1, (hI i acc S' h).2, hi⟩, hl, fun i x acc S' ⟨h, hi⟩ e => ?_, fun acc S' ⟨h, _⟩ => hQ acc S' h⟩
  have hlt := (List.getElem?_eq_some_iff.mp e).1
  exact hs i x acc S' e h _ (fun y S'' hP => ⟨hP, hlt⟩) fun S'' hP => ⟨hP, hlt⟩
theorem atI_nat' {α : Type} {xs : List α} {i : Int} {x : α} (h0 : 0 ≤ i) (h : xs[i.toNat]? = some x) : atI xs i = some x := by
  have hl := (List.getElem?_eq_some_iff.mp h).1
  unfold atI ixN
  rw [if_pos h0, if_pos (by omega)]
  exact h
theorem mapM_bl (bs : List Bool) : (bs.map D.bl).mapM blOf = some bs := by
  induction bs with
  | nil => rfl
  | cons b bs ih => simp [List.mapM_cons, blOf, ih]
theorem mul_small_left {i j : Int} (h1 : -(2 ^ 64) < i) (h2 : i < 2 ^ 64) : MulOk i j := .inl (.inl ⟨h1, h2⟩)
theorem mul_small_right {i j : Int} (h1 : -(2 ^ 64) < j) (h2 : j < 2 ^ 64) : MulOk i j := .inl (.inr ⟨h1, h2⟩)
theorem div_small {j : Int} (h0 : j ≠ 0) (h : j.natAbs < 2 ^ 9000) : DivOk j := ⟨h0, PySem.Flt.log2_lt_of (by decide) h⟩
theorem pow_ok {i j : Int} (h0 : 0 ≤ j) (h1 : j ≤ 1000000) (h2 : i.natAbs < 2 ^ 64) : PowOk i j := ⟨h0, bits_mul_le h2 h0 h1⟩
theorem log2_small {i : Int} (h : i.natAbs < 10 ^ 12) : i.natAbs.log2 < 1920 := by
  have h40 : i.natAbs < 2 ^ 40 := Nat.lt_of_lt_of_le h (by decide)
  have := PySem.Flt.log2_lt_of (by decide) h40
  omega
mutual
/-- all numbers small -/
noncomputable def okP : PyData → Bool
  | .none => true
  | .bool _ => true
  | .int i => decide (i.natAbs < 10 ^ 12)
  | .str x => decide ((reprText x).length ≤ 1000)
  | .list xs => okPs xs
  | .tuple xs => okPs xs
  | .dict _ => false
noncomputable def okPs : List PyData → Bool
  | [] => true
  | x :: xs => okP x && okPs xs
/-- how many signs at most -/
noncomputable def szP : PyData → Nat
  | .none => 8
  | .bool _ => 8
  | .int _ => 16
  | .str _ => 1000
  | .list xs => szPs xs + 8
  | .tuple xs => szPs xs + 8
  | .dict _ => 0
noncomputable def szPs : List PyData → Nat
  | [] => 0
  | x :: xs => szP x + 2 + szPs xs
end
mutual
theorem szP_ok : ∀ p : PyData, okP p = true → p.showable = true ∧ p.hasDict = false ∧ p.shown.length ≤ szP p
  | .none, h => ⟨rfl, rfl, by decide⟩
  | .bool b, h => ⟨rfl, rfl, by cases b <;> decide⟩
  | .int i, h => by
    simp only [okP, decide_eq_true_eq] at h
    exact ⟨by simp [PyData.showable, log2_small h], rfl, Nat.le_trans (PyData.shown_int_le h) (show 13 ≤ 16 by decide)⟩
  | .str x, h => by simp only [okP, decide_eq_true_eq] at h; exact ⟨rfl, rfl, h⟩
  | .list xs, h => by
    simp only [okP] at h
    obtain ⟨a, b, d⟩ := szPs_ok xs h
    refine ⟨a, b, ?_⟩
    have := listText_len_le (PyData.shownAll xs)
    show (listText (PyData.shownAll xs)).length ≤ szPs xs + 8
    omega
  | .tuple xs, h => by
    simp only [okP] at h
    obtain ⟨a, b, d⟩ := szPs_ok xs h
    refine ⟨a, b, ?_⟩
    have := tupleText_len_le (PyData.shownAll xs)
    show (tupleText (PyData.shownAll xs)).length ≤ szPs xs + 8
    omega
  | .dict _, h => by simp [okP] at h
theorem szPs_ok : ∀ xs : List PyData, okPs xs = true → PyData.showableAll xs = true ∧ PyData.hasDictAll xs = false ∧ ((PyData.shownAll xs).map (·.length)).sum + 2 * (PyData.shownAll xs).length ≤ szPs xs
  | [], h => ⟨rfl, rfl, by simp [PyData.shownAll]⟩
  | x :: xs, h => by
    simp only [okPs, Bool.and_eq_true] at h
    obtain ⟨a, b, d⟩ := szP_ok x h.1
    obtain ⟨a', b', d'⟩ := szPs_ok xs h.2
    refine ⟨by simp [PyData.showableAll, a, a'], by simp [PyData.hasDictAll, b, b'], ?_⟩
    simp only [PyData.shownAll, List.map_cons, List.sum_cons, List.length_cons, szPs]
    omega
end
theorem rep_ok2 {p : PyData} (h : okP p = true) (hs : szP p ≤ 16000000) (hd : p.depth ≤ 50) : RepOk p := by
  obtain ⟨a, b, d⟩ := szP_ok p h
  exact ⟨a, hd, b, Nat.le_trans d (Nat.le_trans hs (by decide))⟩
end DL
namespace DL
open PySem PySem.Spec PyProof.Rows L2
noncomputable def lcTurn (G : Fns) (elt : CE) (tg : CT) (ifs : List CB) (ρ : DEnv) : D → DStore → (Option D → DStore → Prop) → Prop := fun x S' N => wpG G tg x ρ S' fun ρ2 S2 => wpBs G ifs ρ2 S2 fun r S3 => if r = true then wpE G elt ρ2 S3 fun y S4 => N (some y) S4 else N none S3
noncomputable def forTurn (G : Fns) (t : CT) (b : List CS) (rt : QE) (nx : DEnv → DStore → Prop) : D → DEnv → DStore → (DEnv → DStore → Prop) → Prop := fun x ρ' S' N => wpG G t x ρ' S' fun ρ2 S2 => wpSs G b ρ2 S2 ⟨N, rt, nx, N⟩
noncomputable def whileTest (G : Fns) (c : CB) : DEnv → DStore → (Bool → DStore → Prop) → Prop := fun ρ S Q => wpB G c ρ S Q
noncomputable def whileTurn (G : Fns) (b : List CS) (rt : QE) (nx : DEnv → DStore → Prop) : DEnv → DStore → (DEnv → DStore → Prop) → Prop := fun ρ S N => wpSs G b ρ S ⟨N, rt, nx, N⟩
section
variable {G : Fns} {a b c : CE} {r : Option D} {ρ : DEnv} {S : DStore} {Q : QE} {op op' : Operator} {i j : Nat} {K : DEnds}
theorem e_var : wpE G (.var i) (r :: ρ) S Q = ∃ d, (r :: ρ)[i]? = some (some d) ∧ Q d S := by simp only [wpE]
theorem e_con {k : CC} : wpE G (.con k) (r :: ρ) S Q = Q k.d S := by simp only [wpE]
theorem e_glo : wpE G (.glo j) (r :: ρ) S Q = Q (G.gl j) S := by simp only [wpE]
theorem e_bin {m : Bool} : wpE G (.bin op m a b) (r :: ρ) S Q = wpE G a (r :: ρ) S fun x S1 => wpE G b (r :: ρ) S1 fun y S2 => binD op m x y S2 Q := by simp only [wpE]
theorem e_neg : wpE G (.neg a) (r :: ρ) S Q = wpE G a (r :: ρ) S fun x S1 => ∃ i, x = .int i ∧ Q (.int (-i)) S1 := by simp only [wpE]
theorem e_cmp {op : CmpOp} : wpE G (.cmp op a b) (r :: ρ) S Q = wpE G a (r :: ρ) S fun x S1 => wpE G b (r :: ρ) S1 fun y S2 => cmpD op S2 x y fun r => Q (.bl r) S2 := by simp only [wpE]
theorem e_chain {op op' : CmpOp} : wpE G (.chain op op' a b c) (r :: ρ) S Q = wpE G a (r :: ρ) S fun x S1 => wpE G b (r :: ρ) S1 fun y S2 => cmpD op S2 x y fun t => if t = true then wpE G c (r :: ρ) S2 fun z S3 => cmpD op' S3 y z fun r' => Q (.bl r') S3 else Q (.bl false) S2 := by simp only [wpE]
theorem e_and : wpE G (.and_ a b) (r :: ρ) S Q = wpE G a (r :: ρ) S fun x S1 => ∃ c, x = .bl c ∧ if c = true then wpE G b (r :: ρ) S1 Q else Q (.bl false) S1 := by simp only [wpE]
theorem e_not : wpE G (.not_ a) (r :: ρ) S Q = wpE G a (r :: ρ) S fun x S1 => ∃ c, x = .bl c ∧ Q (.bl (!c)) S1 := by simp only [wpE]
theorem e_ite {t : CB} : wpE G (.ite t a b) (r :: ρ) S Q = wpB G t (r :: ρ) S fun c S1 => if c = true then wpE G a (r :: ρ) S1 Q else wpE G b (r :: ρ) S1 Q := by simp only [wpE]
theorem e_tup {es : List CE} : wpE G (.tup es) (r :: ρ) S Q = wpEs G es (r :: ρ) S fun ds S1 => Q (.tup ds) S1 := by simp only [wpE]
theorem e_lst {m : Bool} {es : List CE} : wpE G (.lst m es) (r :: ρ) S Q = wpEs G es (r :: ρ) S fun ds S1 => newL m ds S1 Q := by simp only [wpE]
theorem e_ix : wpE G (.ix a b) (r :: ρ) S Q = wpE G a (r :: ρ) S fun x S1 => wpE G b (r :: ρ) S1 fun y S2 => ixD S2 x y fun d => Q d S2 := by simp only [wpE]
theorem e_sl {m : Bool} {lo hi : CO} : wpE G (.sl m a lo hi) (r :: ρ) S Q = wpE G a (r :: ρ) S fun x S1 => wpO G lo (r :: ρ) S1 fun l S2 => wpO G hi (r :: ρ) S2 fun h S3 => slD m S3 x l h Q := by simp only [wpE]
theorem e_call {es : List CE} : wpE G (.call j es) (r :: ρ) S Q = wpEs G es (r :: ρ) S fun ds S1 => G.fn j ds S1 Q := by simp only [wpE]
theorem e_bi {k : BI} {m : Bool} {es : List CE} : wpE G (.bi k m es) (r :: ρ) S Q = wpEs G es (r :: ρ) S fun ds S1 => biD k m ds S1 Q := by simp only [wpE]
theorem e_dnew : wpE G .dnew (r :: ρ) S Q = Q (.ref S.length) (S ++ [.dct []]) := by simp only [wpE]
theorem e_dnew1 {es : List CE} {v : CE} : wpE G (.dnew1 es v) (r :: ρ) S Q = wpEs G es (r :: ρ) (S ++ [.dct []]) fun ys S1 => wpE G v (r :: ρ) S1 fun z S2 => ∃ ks, keysOf ys = some ks ∧ S2[S.length]? = some (.dct []) ∧ Q (.ref S.length) (S2.set S.length (.dct [(ks, z)])) := by simp only [wpE]
theorem e_ptup : wpE G (.ptup a) (r :: ρ) S Q = wpE G a (r :: ρ) S fun x S1 => ∃ xs, lstOf S1 x = some xs ∧ Q (.ptup xs) S1 := by simp only [wpE]
theorem e_dnewS : wpE G .dnewS (r :: ρ) S Q = Q (.ref S.length) (S ++ [.sts []]) := by simp only [wpE]
theorem e_dnew1S : wpE G (.dnew1S a b) (r :: ρ) S Q = wpE G a (r :: ρ) (S ++ [.sts []]) fun x S1 => wpE G b (r :: ρ) S1 fun y S2 => ∃ st, x = k3D st ∧ y = .bl true ∧ S2[S.length]? = some (.sts []) ∧ Q (.ref S.length) (S2.set S.length (.sts [st])) := by simp only [wpE]
theorem e_lenS : wpE G (.lenS a) (r :: ρ) S Q = wpE G a (r :: ρ) S fun x S1 => ∃ n ks, x = .ref n ∧ stsOf S1 n = some ks ∧ Q (.int ks.length) S1 := by simp only [wpE]
theorem e_inS : wpE G (.inS a b) (r :: ρ) S Q = wpE G a (r :: ρ) S fun x S1 => wpE G b (r :: ρ) S1 fun y S2 => ∃ st n ks, x = k3D st ∧ y = .ref n ∧ stsOf S2 n = some ks ∧ Q (.bl (decide (st ∈ ks))) S2 := by simp only [wpE]
theorem e_scS {m : Bool} {elt : CE} {tg : CT} {it : CI} {ifs : List CB} {own : List Nat} : wpE G (.scS m elt tg it ifs own) (r :: ρ) S Q = wpI G it (r :: ρ) S fun items I S1 => items.length < 64 ∧ wpGather items I S1
      (fun x S' N => wpG G tg x (wipeD (r :: ρ) own) S' fun ρ2 S2 => wpBs G ifs ρ2 S2 fun r S3 => if r = true then wpE G elt ρ2 S3 fun y S4 => ∃ k : Int, y = .int k ∧ N (some y) S4 else N none S3)
      fun acc S' => ∀ ns ns' : List Int, acc = ns.map D.int → ns'.Pairwise (· < ·) → (∀ k, k ∈ ns' ↔ k ∈ ns) → newL m (ns'.map D.int) S' Q := by simp only [wpE]
theorem e_dcS {key val : CE} {tg : CT} {it : CI} {ifs : List CB} {own : List Nat} : wpE G (.dcS key val tg it ifs own) (r :: ρ) S Q = wpI G it (r :: ρ) S fun items I S1 => wpGather items I S1
      (fun x S' N => wpG G tg x (wipeD (r :: ρ) own) S' fun ρ2 S2 => wpBs G ifs ρ2 S2 fun r S3 => if r = true then wpE G key ρ2 S3 fun y S4 => wpE G val ρ2 S4 fun z S5 => z = .bl true ∧ ∃ st, y = k3D st ∧ N (some y) S5 else N none S3)
      fun acc S' => ∀ ks : List K3, acc = ks.map k3D → Q (.ref S'.length) (S' ++ [.sts (ks.foldl put3D [])]) := by simp only [wpE]
theorem e_revL {m : Bool} : wpE G (.revL m a) (r :: ρ) S Q = wpE G a (r :: ρ) S fun x S1 => ∃ xs, lstOf S1 x = some xs ∧ newL m xs.reverse S1 Q := by simp only [wpE]
theorem e_sSet {m : Bool} : wpE G (.sSet m a) (r :: ρ) S Q = wpE G a (r :: ρ) S fun x S1 => ∃ ns M : List Int, lstOf S1 x = some (ns.map D.int) ∧ ns.length < 4000 ∧ M.length < 64 ∧ (∀ k ∈ ns, k ∈ M) ∧ ∀ ns' : List Int, ns'.Pairwise (· < ·) → (∀ k, k ∈ ns' ↔ k ∈ ns) → newL m (ns'.map D.int) S1 Q := by simp only [wpE]
theorem e_fld {cn f : Str} : wpE G (.fld cn a f) (r :: ρ) S Q = wpE G a (r :: ρ) S fun x S1 => ∃ n fs v, x = .ref n ∧ S1[n]? = some (.ins cn fs) ∧ fs.lookup f = some v ∧ Q v S1 := by simp only [wpE]
theorem e_meth {cn m : Str} {j : Nat} {es : List CE} : wpE G (.meth cn a m j es) (r :: ρ) S Q = wpE G a (r :: ρ) S fun x S1 => ∃ n fs, x = .ref n ∧ S1[n]? = some (.ins cn fs) ∧ fs.lookup m = none ∧ wpEs G es (r :: ρ) S1 fun ds S2 => G.fn j (x :: ds) S2 Q := by simp only [wpE]
theorem e_mk {cn : Str} {j : Nat} {es : List CE} : wpE G (.mk cn j es) (r :: ρ) S Q = wpEs G es (r :: ρ) S fun ds S1 => G.fn j (.ref S1.length :: ds) (S1 ++ [.ins cn []]) fun v S2 => v = .non ∧ Q (.ref S1.length) S2 := by simp only [wpE]
theorem e_isi {t : TyB} : wpE G (.isi t a) (r :: ρ) S Q = wpE G a (r :: ρ) S fun x S1 => isiP t x S1 Q := by simp only [wpE]
theorem e_lc {m : Bool} {tg : CT} {it : CI} {ifs : List CB} {own : List Nat} : wpE G (.lc m a tg it ifs own) (r :: ρ) S Q = wpI G it (r :: ρ) S fun items I S1 => wpGather items I S1 (lcTurn G a tg ifs (wipeD (r :: ρ) own)) fun acc S' => newL m acc S' Q := by simp only [wpE]; rfl
theorem es_nil {Q : List D → DStore → Prop} : wpEs G [] (r :: ρ) S Q = Q [] S := by simp only [wpEs]
theorem es_cons {es : List CE} {Q : List D → DStore → Prop} : wpEs G (a :: es) (r :: ρ) S Q = wpE G a (r :: ρ) S fun d S1 => wpEs G es (r :: ρ) S1 fun ds S2 => Q (d :: ds) S2 := by simp only [wpEs]
theorem o_no {Q : Option Int → DStore → Prop} : wpO G .no (r :: ρ) S Q = Q none S := by simp only [wpO]
theorem o_yes {Q : Option Int → DStore → Prop} : wpO G (.yes a) (r :: ρ) S Q = wpE G a (r :: ρ) S fun x S1 => ∃ i, x = .int i ∧ Q (some i) S1 := by simp only [wpO]
section
variable {x y : CB} {Q : Bool → DStore → Prop}
theorem b_and : wpB G (.cand x y) (r :: ρ) S Q = wpB G x (r :: ρ) S fun c S1 => if c = true then wpB G y (r :: ρ) S1 Q else Q false S1 := by simp only [wpB]
theorem b_or : wpB G (.cor x y) (r :: ρ) S Q = wpB G x (r :: ρ) S fun c S1 => if c = true then Q true S1 else wpB G y (r :: ρ) S1 Q := by simp only [wpB]
theorem b_not : wpB G (.cnot x) (r :: ρ) S Q = wpB G x (r :: ρ) S fun c S1 => Q (!c) S1 := by simp only [wpB]
theorem b_cmp {op : CmpOp} : wpB G (.ccmp op a b) (r :: ρ) S Q = wpE G a (r :: ρ) S fun x S1 => wpE G b (r :: ρ) S1 fun y S2 => cmpD op S2 x y fun t => Q t S2 := by simp only [wpB]
theorem b_inS : wpB G (.cinS a b) (r :: ρ) S Q = wpE G a (r :: ρ) S fun x S1 => wpE G b (r :: ρ) S1 fun y S2 => ∃ st n ks, x = k3D st ∧ y = .ref n ∧ stsOf S2 n = some ks ∧ Q (decide (st ∈ ks)) S2 := by simp only [wpB]
theorem b_cdnil : wpB G (.cdnil a b) (r :: ρ) S Q = wpE G a (r :: ρ) S fun x S1 => wpE G b (r :: ρ) S1 fun y S2 => ∃ n m kvs, x = .ref n ∧ y = .ref m ∧ dctOf S2 n = some kvs ∧ S2[m]? = some (.dct []) ∧ Q kvs.isEmpty S2 := by simp only [wpB]
theorem b_val : wpB G (.cval a) (r :: ρ) S Q = wpE G a (r :: ρ) S fun x S1 => truD S1 x fun t => Q t S1 := by simp only [wpB]
theorem bs_nil : wpBs G [] (r :: ρ) S Q = Q true S := by simp only [wpBs]
theorem bs_cons {bs : List CB} : wpBs G (x :: bs) (r :: ρ) S Q = wpB G x (r :: ρ) S fun t S1 => if t = true then wpBs G bs (r :: ρ) S1 Q else Q false S1 := by simp only [wpBs]
end
section
variable {d : D} {ts : List CT} {t : CT} {Q : DEnv → DStore → Prop}
theorem g_name : wpG G (.name i) d (r :: ρ) S Q = Q ((r :: ρ).set i (some d)) S := by simp only [wpG]
theorem g_tup : wpG G (.tup ts) d (r :: ρ) S Q = unpD S d fun xs => xs.length = ts.length ∧ wpGs G ts xs (r :: ρ) S Q := by simp only [wpG]
theorem u_tup {xs : List D} {k : List D → Prop} : unpD S (.tup xs) k = k xs := rfl
theorem u_lst {xs : List D} {k : List D → Prop} : unpD S (.lst xs) k = k xs := by simp [unpD, lstOf]
theorem g_sub : wpG G (.sub a b) d (r :: ρ) S Q = wpE G a (r :: ρ) S fun x S1 => wpE G b (r :: ρ) S1 fun y S2 => ∃ n xs k j, x = .ref n ∧ y = .int k ∧ S2[n]? = some (.lst xs) ∧ ixN xs.length k = some j ∧ Q (r :: ρ) (S2.set n (.lst (xs.set j d))) := by simp only [wpG]
theorem g_sput : wpG G (.sput a b) d (r :: ρ) S Q = wpE G a (r :: ρ) S fun x S1 => wpE G b (r :: ρ) S1 fun y S2 => ∃ n ks st, x = .ref n ∧ y = k3D st ∧ d = .bl true ∧ S2[n]? = some (.sts ks) ∧ ks.length < sizeLine ∧ Q (r :: ρ) (S2.set n (.sts (put3D ks st))) := by simp only [wpG]
theorem g_kput : wpG G (.kput a b) d (r :: ρ) S Q = wpE G a (r :: ρ) S fun x S1 => wpE G b (r :: ρ) S1 fun y S2 => ∃ n kvs k, x = .ref n ∧ S2[n]? = some (.dkk kvs) ∧ keyOf y = some k ∧ kvs.length < sizeLine ∧ Q (r :: ρ) (S2.set n (.dkk (putD kvs k d))) := by simp only [wpG]
theorem g_ksub : wpG G (.ksub a b) d (r :: ρ) S Q = wpE G a (r :: ρ) S fun x S1 => wpE G b (r :: ρ) S1 fun y S2 => ∃ n kvs ks, x = .ref n ∧ y = .key ks ∧ S2[n]? = some (.dct kvs) ∧ kvs.length < sizeLine ∧ Q (r :: ρ) (S2.set n (.dct (putD kvs ks d))) := by simp only [wpG]
theorem g_dsub {es : List CE} : wpG G (.dsub a es) d (r :: ρ) S Q = wpE G a (r :: ρ) S fun x S1 => wpEs G es (r :: ρ) S1 fun ys S2 => ∃ n kvs ks, x = .ref n ∧ S2[n]? = some (.dct kvs) ∧ keysOf ys = some ks ∧ kvs.length < sizeLine ∧ Q (r :: ρ) (S2.set n (.dct (putD kvs ks d))) := by simp only [wpG]
theorem gs_nil {ds : List D} : wpGs G [] ds (r :: ρ) S Q = Q (r :: ρ) S := by simp only [wpGs]
theorem gs_cons {ds : List D} : wpGs G (t :: ts) (d :: ds) (r :: ρ) S Q = wpG G t d (r :: ρ) S fun ρ1 S1 => wpGs G ts ds ρ1 S1 Q := by
  simp only [wpGs, List.cons.injEq]
  apply propext
  constructor
  · rintro ⟨_, _, ⟨rfl, rfl⟩, h⟩; exact h
  · intro h; exact ⟨_, _, ⟨rfl, rfl⟩, h⟩
end
section
variable {R : RI}
theorem i_keys : wpI G (.keys a) (r :: ρ) S R = wpE G a (r :: ρ) S fun x S1 => ∃ n kvs, x = .ref n ∧ S1[n]? = some (.dlk kvs) ∧ R (kvs.map fun p => D.tup (p.1.map keyD)) (fun _ => True) S1 := by simp only [wpI]
theorem i_skeys : wpI G (.skeys a) (r :: ρ) S R = wpE G a (r :: ρ) S fun x S1 => ∃ n ks, x = .ref n ∧ S1[n]? = some (.stl ks) ∧ R (ks.map k3D) (fun _ => True) S1 := by simp only [wpI]
theorem i_items : wpI G (.items a) (r :: ρ) S R = wpE G a (r :: ρ) S fun x S1 => ∃ n kvs, x = .ref n ∧ S1[n]? = some (.dlk kvs) ∧ R (kvs.map fun p => D.tup [D.tup (p.1.map keyD), p.2]) (fun _ => True) S1 := by simp only [wpI]
theorem i_seq : wpI G (.seq a) (r :: ρ) S R = wpE G a (r :: ρ) S fun x S1 => itD S1 x R := by simp only [wpI]
theorem i_range1 : wpI G (.range1 a) (r :: ρ) S R = wpE G a (r :: ρ) S fun x S1 => ∃ j, x = .int j ∧ Sm j ∧ R (rangeD 0 j) (fun _ => True) S1 := by simp only [wpI]
theorem i_range3 : wpI G (.range3 a b c) (r :: ρ) S R = wpE G a (r :: ρ) S fun x S1 => wpE G b (r :: ρ) S1 fun y S2 => wpE G c (r :: ρ) S2 fun z S3 => ∃ i j k n, x = .int i ∧ y = .int j ∧ z = .int k ∧ RgC i j k n ∧ R (range3D i k n) (fun _ => True) S3 := by simp only [wpI]
theorem i_keysF : wpI G (.keysF a) (r :: ρ) S R = wpE G a (r :: ρ) S fun x S1 => ∃ n kvs, x = .ref n ∧ ((S1[n]? = some (.dct kvs) ∧ R (kvs.map fun p => D.tup (p.1.map keyD)) (fun _ => True) (S1.set n (.dlk kvs))) ∨ (S1[n]? = some (.dlk kvs) ∧ R (kvs.map fun p => D.tup (p.1.map keyD)) (fun _ => True) S1)) := by simp only [wpI]
theorem i_alt {c1 c2 : CI} : wpI G (.alt c1 c2) (r :: ρ) S R = (wpI G c1 (r :: ρ) S R ∨ wpI G c2 (r :: ρ) S R) := by simp only [wpI]
theorem i_enum : wpI G (.enum a) (r :: ρ) S R = wpE G a (r :: ρ) S fun x S1 => enumP S1 x R := by simp only [wpI]
theorem i_zip : wpI G (.zip2 a b) (r :: ρ) S R = wpE G a (r :: ρ) S fun x S1 => wpE G b (r :: ρ) S1 fun y S2 => zipP S2 x y R := by simp only [wpI]
end
section
variable {e : CE} {t : CT} {ss s1 s2 : List CS} {s : CS} {k : Nat} {cb : CB} {it : CI} {nx : DEnv → DStore → Prop} {rt : QE} {bk ct : DEnv → DStore → Prop}
theorem s_nil : wpSs G [] (r :: ρ) S ⟨nx, rt, bk, ct⟩ = nx (r :: ρ) S := by simp only [wpSs]
theorem s_cons : wpSs G (s :: ss) (r :: ρ) S ⟨nx, rt, bk, ct⟩ = wpS G s (r :: ρ) S ⟨fun ρ1 S1 => wpSs G ss ρ1 S1 ⟨nx, rt, bk, ct⟩, rt, bk, ct⟩ := by simp only [wpSs]
theorem s_ret : wpS G (.ret e) (r :: ρ) S ⟨nx, rt, bk, ct⟩ = wpE G e (r :: ρ) S rt := by simp only [wpS]
theorem s_brk : wpS G .brk (r :: ρ) S ⟨nx, rt, bk, ct⟩ = bk (r :: ρ) S := by simp only [wpS]
theorem s_asg : wpS G (.asg t e) (r :: ρ) S ⟨nx, rt, bk, ct⟩ = wpE G e (r :: ρ) S fun d S1 => wpG G t d (r :: ρ) S1 nx := by simp only [wpS]
theorem s_par2 : wpS G (.par2 i j a b) (r :: ρ) S ⟨nx, rt, bk, ct⟩ = wpE G a (r :: ρ) S fun x S1 => wpE G b (r :: ρ) S1 fun y S2 => nx (((r :: ρ).set i (some x)).set j (some y)) S2 := by simp only [wpS]
theorem s_par3 : wpS G (.par3 i j k a b c) (r :: ρ) S ⟨nx, rt, bk, ct⟩ = wpE G a (r :: ρ) S fun x S1 => wpE G b (r :: ρ) S1 fun y S2 => wpE G c (r :: ρ) S2 fun z S3 => nx ((((r :: ρ).set i (some x)).set j (some y)).set k (some z)) S3 := by simp only [wpS]
theorem s_setLc : wpS G (.setLc i e) (r :: ρ) S ⟨nx, rt, bk, ct⟩ = wpE G e (r :: ρ) S fun d S1 => nx ((r :: ρ).set i (some d)) S1 := by rw [wpS]
theorem s_append : wpS G (.append a e) (r :: ρ) S ⟨nx, rt, bk, ct⟩ = wpE G a (r :: ρ) S fun x S1 => ∃ n, x = .ref n ∧ LAt S1 n ∧ wpE G e (r :: ρ) S1 fun y S2 => ∃ xs, S2[n]? = some (.lst xs) ∧ xs.length < sizeLine ∧ nx (r :: ρ) (S2.set n (.lst (xs ++ [y]))) := by simp only [wpS]
theorem s_extend {a e : CE} : wpS G (.extend a e) (r :: ρ) S ⟨nx, rt, bk, ct⟩ = wpE G a (r :: ρ) S fun x S1 => ∃ n, x = .ref n ∧ LAt S1 n ∧ wpE G e (r :: ρ) S1 fun y S2 => ∃ xs zs, S2[n]? = some (.lst xs) ∧ lstOf S2 y = some zs ∧ xs.length + zs.length ≤ sizeLine ∧ nx (r :: ρ) (S2.set n (.lst (xs ++ zs))) := by rw [wpS]
theorem s_if : wpS G (.if_ cb s1 s2) (r :: ρ) S ⟨nx, rt, bk, ct⟩ = wpB G cb (r :: ρ) S fun t S1 => if t = true then wpSs G s1 (r :: ρ) S1 ⟨nx, rt, bk, ct⟩ else wpSs G s2 (r :: ρ) S1 ⟨nx, rt, bk, ct⟩ := by simp only [wpS]
theorem s_while : wpS G (.while_ cb s1) (r :: ρ) S ⟨nx, rt, bk, ct⟩ = wpLoop (r :: ρ) S (whileTest G cb) (whileTurn G s1 rt nx) nx := by simp only [wpS]; rfl
theorem s_lockS {st : CS} : wpS G (.lockS st) (r :: ρ) S ⟨nx, rt, bk, ct⟩ = ∃ n ks, S[n]? = some (.sts ks) ∧ wpS G st (r :: ρ) (S.set n (.stl ks)) ⟨fun ρ' S' => nx ρ' (S'.set n (.sts ks)), fun d S' => rt d (S'.set n (.sts ks)), fun ρ' S' => bk ρ' (S'.set n (.sts ks)), fun ρ' S' => ct ρ' (S'.set n (.sts ks))⟩ := by simp only [wpS]
theorem s_fset {cn f : Str} {a e : CE} : wpS G (.fset cn a f e) (r :: ρ) S ⟨nx, rt, bk, ct⟩ = wpE G e (r :: ρ) S fun y S1 => wpE G a (r :: ρ) S1 fun x S2 => ∃ n fs, x = .ref n ∧ S2[n]? = some (.ins cn fs) ∧ fs.length < 1000 ∧ nx (r :: ρ) (S2.set n (.ins cn (putFD f y fs))) := by simp only [wpS]
theorem r_fn {es : List CE} {QD : QE} {qx : QX} : wpR G (.fn j es) (r :: ρ) S QD qx = wpEs G es (r :: ρ) S fun ds S1 => G.fx j ds S1 QD qx := by rw [wpR]
theorem r_mk {cn : Str} {es : List CE} {QD : QE} {qx : QX} : wpR G (.mk cn j es) (r :: ρ) S QD qx = wpEs G es (r :: ρ) S fun ds S1 => G.fx j (.ref S1.length :: ds) (S1 ++ [.ins cn []]) (fun v S2 => v = .non ∧ QD (.ref S1.length) S2) qx := by rw [wpR]
theorem s_for : wpS G (.for_ t it s1) (r :: ρ) S ⟨nx, rt, bk, ct⟩ = wpI G it (r :: ρ) S fun items I S1 => wpWalk items I (r :: ρ) S1 (forTurn G t s1 rt nx) nx := by simp only [wpS]; rfl
end
end
section
variable {S : DStore} {Q : QE} {m : Bool} {x y : Int} {QB : Bool → Prop}
theorem o_add : binD .Add m (.int x) (.int y) S Q = Q (.int (x + y)) S := rfl
theorem o_addT {a b : List D} : binD .Add m (.tup a) (.tup b) S Q = (a.length + b.length ≤ sizeLine ∧ Q (.tup (a ++ b)) S) := rfl
theorem o_addL {a b : List D} : binD .Add m (.lst a) (.lst b) S Q = (a.length + b.length ≤ sizeLine ∧ newL m (a ++ b) S Q) := by
  simp [binD, addD, lstOf]
theorem o_sub : binD .Sub m (.int x) (.int y) S Q = Q (.int (x - y)) S := rfl
theorem o_mul : binD .Mult m (.int x) (.int y) S Q = (MulOk x y ∧ Q (.int (x * y)) S) := rfl
theorem o_mulL {a : List D} : binD .Mult m (.lst a) (.int y) S Q = (-(2 ^ 63) ≤ y ∧ y < 2 ^ 63 ∧ a.length * y.toNat ≤ sizeLine ∧ newL m (List.replicate y.toNat a).flatten S Q) := by
  simp [binD, mulD, lstOf]
theorem o_mulT {a : List D} : binD .Mult m (.tup a) (.int y) S Q = (a ≠ [] ∧ 0 ≤ y ∧ y ≤ 1000 ∧ a.length ≤ 1000 ∧ Q (.tup (List.replicate y.toNat a).flatten) S) := rfl
theorem o_fdiv : binD .FloorDiv m (.int x) (.int y) S Q = (DivOk y ∧ Q (.int (x.fdiv y)) S) := rfl
theorem o_mod : binD .Mod m (.int x) (.int y) S Q = (y ≠ 0 ∧ Q (.int (x.fmod y)) S) := rfl
theorem o_pow : binD .Pow m (.int x) (.int y) S Q = (PowOk x y ∧ Q (.int (x ^ y.toNat)) S) := rfl
theorem o_shl : binD .LShift m (.int x) (.int y) S Q = (CShl x y ∧ Q (.int (x * 2 ^ y.toNat)) S) := rfl
theorem o_shr : binD .RShift m (.int x) (.int y) S Q = (0 ≤ y ∧ Q (.int (x / 2 ^ y.toNat)) S) := rfl
theorem q_lt : cmpD .Lt S (.int x) (.int y) QB = QB (decide (x < y)) := rfl
theorem q_le : cmpD .LtE S (.int x) (.int y) QB = QB (decide (x ≤ y)) := rfl
theorem q_gt : cmpD .Gt S (.int x) (.int y) QB = QB (decide (y < x)) := rfl
theorem q_ge : cmpD .GtE S (.int x) (.int y) QB = QB (decide (y ≤ x)) := rfl
theorem q_eqI : cmpD .Eq S (.int x) (.int y) QB = QB (decide (x = y)) := rfl
theorem q_neI : cmpD .NotEq S (.int x) (.int y) QB = QB (!decide (x = y)) := rfl
theorem q_eqS {x y : Str} : cmpD .Eq S (.str x) (.str y) QB = QB (decide (x = y)) := rfl
theorem q_neS {x y : Str} : cmpD .NotEq S (.str x) (.str y) QB = QB (!decide (x = y)) := rfl
theorem q_eqB {x y : Bool} : cmpD .Eq S (.bl x) (.bl y) QB = QB (decide (x = y)) := rfl
theorem q_neB {x y : Bool} : cmpD .NotEq S (.bl x) (.bl y) QB = QB (!decide (x = y)) := rfl
theorem q_isN {d : D} : cmpD .Is S d .non QB = QB (isNon d) := rfl
theorem q_notN {d : D} : cmpD .IsNot S d .non QB = QB (!isNon d) := rfl
theorem q_isB {x y : Bool} : cmpD .Is S (.bl x) (.bl y) QB = QB (decide (x = y)) := by simp [cmpD, isD]
theorem q_notB {x y : Bool} : cmpD .IsNot S (.bl x) (.bl y) QB = QB (!decide (x = y)) := by simp [cmpD, isD]
theorem t_bl {b : Bool} : truD S (.bl b) QB = QB b := rfl
theorem t_int {i : Int} : truD S (.int i) QB = QB (i != 0) := rfl
theorem x_tup {xs : List D} {QD : D → Prop} : ixD S (.tup xs) (.int x) QD = ∃ v, atI xs x = some v ∧ QD v := by simp [ixD, seqOf]
theorem x_lst {xs : List D} {QD : D → Prop} : ixD S (.lst xs) (.int x) QD = ∃ v, atI xs x = some v ∧ QD v := by simp [ixD, seqOf, lstOf]
theorem x_scr {xs : List D} {QD : D → Prop} : ixD S (.scr xs) (.int x) QD = ∃ v, atI xs x = some v ∧ QD v := by simp [ixD, seqOf]
noncomputable def cellL : Option Cell → Option (List D)
  | some (.lst xs) => some xs
  | _ => none
theorem lstOf_ref {n : Nat} : lstOf S (.ref n) = cellL S[n]? := by
  simp only [lstOf]
  cases S[n]? with
  | none => rfl
  | some c => cases c <;> rfl
theorem x_ref {n : Nat} {QD : D → Prop} : ixD S (.ref n) (.int x) QD = ∃ xs, cellL S[n]? = some xs ∧ ∃ v, atI xs x = some v ∧ QD v := by simp [ixD, seqOf, lstOf_ref]
theorem x_key {n : Nat} {ks : List L2.Key} {QD : D → Prop} : ixD S (.ref n) (.key ks) QD = ∃ kvs v, dctOf S n = some kvs ∧ valD kvs ks = some v ∧ QD v := by
  unfold ixD
  simp only [D.ref.injEq, eq_iff_iff]
  constructor
  · rintro ⟨n', kvs, v, rfl, h⟩; exact ⟨kvs, v, h⟩
  · rintro ⟨kvs, v, h⟩; exact ⟨n, kvs, v, rfl, h⟩
theorem x_dct {n : Nat} {ys : List D} {QD : D → Prop} : ixD S (.ref n) (.tup ys) QD = ∃ kvs ks v, dctOf S n = some kvs ∧ keysOf ys = some ks ∧ valD kvs ks = some v ∧ QD v := by
  simp only [ixD]
  apply propext
  constructor
  · rintro ⟨n', kvs, ks, v, e, h⟩
    cases e; exact ⟨kvs, ks, v, h⟩
  · rintro ⟨kvs, ks, v, h⟩
    exact ⟨n, kvs, ks, v, rfl, h⟩
theorem c_some {xs : List D} : cellL (some (.lst xs)) = some xs := rfl
theorem n_f {ds : List D} : newL false ds S Q = Q (.lst ds) S := rfl
theorem n_t {ds : List D} : newL true ds S Q = Q (.ref S.length) (S ++ [.lst ds]) := rfl
theorem f_lenT {xs : List D} : biD .len m [.tup xs] S Q = Q (.int xs.length) S := by simp [biD, seqOf]
theorem f_lenL {xs : List D} : biD .len m [.lst xs] S Q = Q (.int xs.length) S := by simp [biD, seqOf, lstOf]
theorem f_lenC {xs : List D} : biD .len m [.scr xs] S Q = Q (.int xs.length) S := by simp [biD, seqOf]
theorem f_lenR {n : Nat} : biD .len m [.ref n] S Q = ∃ xs, cellL S[n]? = some xs ∧ Q (.int xs.length) S := by simp [biD, seqOf, lstOf_ref]
theorem f_abs : biD .abs m [.int x] S Q = Q (.int (if x < 0 then -x else x)) S := rfl
theorem f_min : biD .min2 m [.int x, .int y] S Q = Q (.int (if y < x then y else x)) S := rfl
theorem f_max : biD .max2 m [.int x, .int y] S Q = Q (.int (if y > x then y else x)) S := rfl
theorem f_min3 {z : Int} : biD .min3 m [.int x, .int y, .int z] S Q = Q (.int (if z < (if y < x then y else x) then z else if y < x then y else x)) S := rfl
theorem f_max3 {z : Int} : biD .max3 m [.int x, .int y, .int z] S Q = Q (.int (if z > (if y > x then y else x) then z else if y > x then y else x)) S := rfl
theorem l_lst {xs : List D} : lstOf S (.lst xs) = some xs := rfl
theorem f_intI : biD .int1 m [.int x] S Q = Q (.int x) S := rfl
theorem f_intB {b : Bool} : biD .int1 m [.bl b] S Q = Q (.int (if b then 1 else 0)) S := rfl
theorem f_tupT {xs : List D} : biD .tuple1 m [.tup xs] S Q = Q (.tup xs) S := rfl
theorem f_tupL {xs : List D} : biD .tuple1 m [.lst xs] S Q = Q (.tup xs) S := by simp [biD, lstOf]
theorem f_tupR {n : Nat} : biD .tuple1 m [.ref n] S Q = ∃ xs, cellL S[n]? = some xs ∧ Q (.tup xs) S := by simp [biD, lstOf_ref]
theorem f_lstT {xs : List D} : biD .list1 m [.tup xs] S Q = newL m xs S Q := by simp [biD, seqOf]
theorem f_lstL {xs : List D} : biD .list1 m [.lst xs] S Q = newL m xs S Q := by simp [biD, seqOf, lstOf]
theorem f_allB {bs : List Bool} : biD .all1 m [.lst (bs.map D.bl)] S Q = Q (.bl (bs.all id)) S := by
  apply propext
  constructor
  · rintro ⟨xs, cs, e1, e2, q⟩
    cases e1
    rw [mapM_bl] at e2
    cases e2
    exact q
  · intro q; exact ⟨_, _, rfl, mapM_bl bs, q⟩
theorem f_anyB {bs : List Bool} : biD .any1 m [.lst (bs.map D.bl)] S Q = Q (.bl (bs.any id)) S := by
  apply propext
  constructor
  · rintro ⟨xs, cs, e1, e2, q⟩
    cases e1
    rw [mapM_bl] at e2
    cases e2
    exact q
  · intro q; exact ⟨_, _, rfl, mapM_bl bs, q⟩
theorem yN_int {ts : List TyB} {x : Int} : isiNP ts (.int x) S Q = Q (.bl (ts.any fun t => isiD t (.int x))) S := rfl
theorem yN_bl {ts : List TyB} {b : Bool} : isiNP ts (.bl b) S Q = Q (.bl (ts.any fun t => isiD t (.bl b))) S := rfl
theorem yN_str {ts : List TyB} {b : Str} : isiNP ts (.str b) S Q = Q (.bl (ts.any fun t => isiD t (.str b))) S := rfl
theorem yN_non {ts : List TyB}  : isiNP ts (.non) S Q = Q (.bl (ts.any fun t => isiD t (.non))) S := rfl
theorem yN_tup {ts : List TyB} {b : List D} : isiNP ts (.tup b) S Q = Q (.bl (ts.any fun t => isiD t (.tup b))) S := rfl
theorem yN_key {ts : List TyB} {ks : List L2.Key} : isiNP ts (.key ks) S Q = Q (.bl (ts.any fun t => isiD t (.key ks))) S := rfl
theorem yN_lst {ts : List TyB} {b : List D} : isiNP ts (.lst b) S Q = Q (.bl (ts.any fun t => isiD t (.lst b))) S := rfl
theorem y_int {t : TyB} : isiP t (.int x) S Q = Q (.bl (isiD t (.int x))) S := rfl
theorem y_bl {t : TyB} {b : Bool} : isiP t (.bl b) S Q = Q (.bl (isiD t (.bl b))) S := rfl
theorem y_str {t : TyB} {b : Str} : isiP t (.str b) S Q = Q (.bl (isiD t (.str b))) S := rfl
theorem y_non {t : TyB} : isiP t .non S Q = Q (.bl (isiD t .non)) S := rfl
theorem y_tup {t : TyB} {b : List D} : isiP t (.tup b) S Q = Q (.bl (isiD t (.tup b))) S := rfl
theorem y_key {t : TyB} {ks : List L2.Key} : isiP t (.key ks) S Q = Q (.bl (isiD t (.key ks))) S := rfl
theorem y_ref {t : TyB} {n : Nat} : isiP t (.ref n) S Q = ∃ c, S[n]? = some c ∧ match c with
    | .dlk _ => False
    | .dkl _ => False
    | .sts _ => False
    | .stl _ => False
    | .tks _ => False
    | .ins _ _ => False
    | .exn _ _ => False
    | c => Q (.bl (isiC t c)) S := rfl
theorem y_lst {t : TyB} {b : List D} : isiP t (.lst b) S Q = Q (.bl (isiD t (.lst b))) S := rfl
theorem z_tup {xs ys : List D} {R : RI} : zipP S (.tup xs) (.tup ys) R = R (zipD xs ys) (fun _ => True) S := rfl
theorem z_lst {xs ys : List D} {R : RI} : zipP S (.lst xs) (.lst ys) R = R (zipD xs ys) (fun _ => True) S := by simp [zipP, tlOf, lstOf]
theorem z_tl {xs ys : List D} {R : RI} : zipP S (.tup xs) (.lst ys) R = R (zipD xs ys) (fun _ => True) S := by simp [zipP, tlOf, lstOf]
theorem z_lt {xs ys : List D} {R : RI} : zipP S (.lst xs) (.tup ys) R = R (zipD xs ys) (fun _ => True) S := by simp [zipP, tlOf, lstOf]
theorem z_enumT {xs : List D} {R : RI} : enumP S (.tup xs) R = R (enumD xs) (fun _ => True) S := rfl
theorem z_enum {xs : List D} {R : RI} : enumP S (.lst xs) R = R (enumD xs) (fun _ => True) S := by simp [enumP, lstOf]
theorem t_tup {xs : List D} {R : RI} : itD S (.tup xs) R = R xs (fun _ => True) S := rfl
theorem t_ptup {xs : List D} {R : RI} : itD S (.ptup xs) R = R xs (fun _ => True) S := rfl
theorem t_lst {xs : List D} {R : RI} : itD S (.lst xs) R = R xs (fun _ => True) S := rfl
theorem a_0 {α : Type} {a : α} {l : List α} : atI (a :: l) 0 = some a := by simp [atI, ixN]
theorem a_1 {α : Type} {a b : α} {l : List α} : atI (a :: b :: l) 1 = some b := atI_nat' (by decide) rfl
theorem a_2 {α : Type} {a b c : α} {l : List α} : atI (a :: b :: c :: l) 2 = some c := atI_nat' (by decide) rfl
theorem a_3 {α : Type} {a b c d : α} {l : List α} : atI (a :: b :: c :: d :: l) 3 = some d := atI_nat' (by decide) rfl
theorem a_4 {α : Type} {a b c d e : α} {l : List α} : atI (a :: b :: c :: d :: e :: l) 4 = some e := atI_nat' (by decide) rfl
theorem a_5 {α : Type} {a b c d e f : α} {l : List α} : atI (a :: b :: c :: d :: e :: f :: l) 5 = some f := atI_nat' (by decide) rfl
theorem a_6 {α : Type} {a b c d e f g : α} {l : List α} : atI (a :: b :: c :: d :: e :: f :: g :: l) 6 = some g := atI_nat' (by decide) rfl
theorem ex_some {α : Type} {a : α} {P : α → Prop} : (∃ v, some a = some v ∧ P v) = P a := by simp
theorem ex_env {a : D} {P : D → Prop} : (∃ v, some (some a) = some (some v) ∧ P v) = P a := by simp
theorem ex_int {i : Int} {P : Int → Prop} : (∃ j, D.int i = D.int j ∧ P j) = P i := by simp
theorem ex_bl {i : Bool} {P : Bool → Prop} : (∃ j, D.bl i = D.bl j ∧ P j) = P i := by simp
theorem ex_ref {i : Nat} {P : Nat → Prop} : (∃ j, D.ref i = D.ref j ∧ P j) = P i := by simp
theorem ex_tup {xs : List D} {P : List D → Prop} : (∃ ys, D.tup xs = D.tup ys ∧ P ys) = P xs := by simp
theorem ex_int2 {i j : Int} {P : Int → Int → Prop} : (∃ a b, D.int i = D.int a ∧ D.int j = D.int b ∧ P a b) = P i j := by simp
theorem ex_sub {n : Nat} {x : Int} {A : Nat → List D → Prop} {B : List D → Int → Nat → Prop} {P : Nat → List D → Int → Nat → Prop} : (∃ n' xs k j, D.ref n = D.ref n' ∧ D.int x = D.int k ∧ A n' xs ∧ B xs k j ∧ P n' xs k j) = ∃ xs, A n xs ∧ ∃ j, B xs x j ∧ P n xs x j := by
  apply propext
  constructor
  · rintro ⟨_, xs, _, j, e1, e2, h1, h2, h3⟩
    cases e1; cases e2
    exact ⟨xs, h1, j, h2, h3⟩
  · rintro ⟨xs, h1, j, h2, h3⟩
    exact ⟨n, xs, x, j, rfl, rfl, h1, h2, h3⟩
theorem ex_cell {L : List D} {P : List D → Prop} : (∃ xs, some (Cell.lst L) = some (Cell.lst xs) ∧ P xs) = P L := by simp
theorem ix_30 : ixN 3 0 = some 0 := rfl
theorem ix_31 : ixN 3 1 = some 1 := rfl
theorem ix_32 : ixN 3 2 = some 2 := rfl
theorem ix_n {n : Nat} {k : Int} (h0 : 0 ≤ k) (h1 : k < (n : Int)) : ixN n k = some k.toNat := by
  unfold ixN
  rw [if_pos h0, if_pos h1]
end
end DL
local macro_rules | `(tactic| simp_arith only [$xs,*]) => `(tactic| simp only [DL.e_var, DL.e_con, DL.e_glo, DL.e_bin, DL.e_neg, DL.e_cmp, DL.e_chain, DL.e_and, DL.e_not, DL.e_ite, DL.e_tup, DL.e_lst, DL.e_ix, DL.e_sl, DL.e_call, DL.e_bi, DL.e_isi, DL.e_dnewS, DL.e_dnew1S, DL.e_lenS, DL.e_inS, DL.e_scS, DL.e_dcS, DL.e_revL, DL.e_sSet, DL.e_fld, DL.e_meth, DL.e_mk, DL.g_sput, DL.i_skeys, DL.s_lockS, DL.s_fset, DL.r_fn, DL.r_mk, DL.e_dnew, DL.e_ptup, DL.b_inS, DL.b_cdnil, DL.e_lc, DL.es_nil, DL.es_cons, DL.o_no, DL.o_yes, DL.b_and, DL.b_or, DL.b_not, DL.b_cmp, DL.b_val, DL.bs_nil, DL.bs_cons, DL.g_name, DL.g_tup, DL.u_tup, DL.u_lst, DL.g_sub, DL.g_dsub, DL.g_ksub, DL.g_kput, DL.gs_nil, DL.gs_cons, DL.i_seq, DL.i_range1, DL.i_range3, DL.i_enum, DL.i_keysF, DL.i_alt, DL.i_zip, DL.i_keys, DL.i_items, DL.s_nil, DL.s_cons, DL.s_ret, DL.s_brk, DL.s_asg, DL.s_par2, DL.s_par3, DL.s_setLc, DL.s_append, DL.s_extend, DL.s_if, DL.s_while, DL.s_for, DL.o_add, DL.o_addT, DL.o_addL, DL.o_sub, DL.o_mul, DL.o_mulL, DL.o_mulT, DL.o_fdiv, DL.o_mod, DL.o_pow, DL.o_shl, DL.o_shr, DL.q_lt, DL.q_le, DL.q_gt, DL.q_ge, DL.q_eqI, DL.q_neI, DL.q_eqS, DL.q_neS, DL.q_eqB, DL.q_neB, DL.q_isN, DL.q_notN, DL.q_isB, DL.q_notB, DL.t_bl, DL.t_int, DL.x_tup, DL.x_lst, DL.x_scr, DL.x_ref, DL.x_dct, DL.x_key, DL.c_some, DL.n_f, DL.n_t, DL.f_lenT, DL.f_lenL, DL.f_lenC, DL.f_lenR, DL.f_abs, DL.f_min, DL.f_max, DL.f_min3, DL.f_max3, DL.l_lst, DL.f_intI, DL.f_intB, DL.f_tupT, DL.f_tupL, DL.f_tupR, DL.f_lstT, DL.f_lstL, DL.yN_int, DL.yN_bl, DL.yN_str, DL.yN_non, DL.yN_tup, DL.yN_lst, DL.yN_key, DL.y_int, DL.y_bl, DL.y_str, DL.y_non, DL.y_tup, DL.y_lst, DL.y_key, DL.y_ref, DL.z_tup, DL.z_lst, DL.z_tl, DL.z_lt, DL.z_enum, DL.z_enumT, DL.isiD, DL.isiC, DL.t_tup, DL.t_ptup, DL.t_lst, DL.a_0, DL.a_1, DL.a_2, DL.a_3, DL.a_4, DL.a_5, DL.a_6, DL.ex_some, DL.ex_env, DL.ex_int, DL.ex_bl, DL.ex_ref, DL.ex_tup, DL.ex_int2, DL.ex_sub, DL.ex_cell, DL.ix_30, DL.ix_31, DL.ix_32, DL.CC.d, DL.startD, DL.wipeD, DL.i2, List.map_cons, List.map_nil, List.length_cons, List.length_nil, List.replicate, List.cons_append, List.nil_append, List.getElem?_cons_zero, List.getElem?_cons_succ, List.set_cons_zero, List.set_cons_succ, Nat.zero_add, Nat.reduceAdd, Nat.reduceSub, decide_eq_true_eq, Bool.not_eq_true', decide_eq_false_iff_not, if_true, Bool.false_eq_true, if_false, ite_true, ite_false, List.getD_cons_zero, List.getD_cons_succ, List.take_succ_cons, List.take_zero, List.drop_succ_cons, List.drop_zero, eq_self, not_true_eq_false, not_false_eq_true, Bool.true_eq_false, Bool.not_true, Bool.not_false, $xs,*])
namespace DL
open PySem PySem.Spec PyProof.Rows L2
noncomputable def takeC : List CS := [.if_ (.ccmp .Gt (.ix (.var 0) (.con (.int 0))) (.con (.int 0))) [.asg (.name 7) (.bin .Mod false (.ix (.var 0) (.con (.int 0))) (.var 1)),
    .asg (.sub (.var 0) (.con (.int 0))) (.bin .FloorDiv false (.ix (.var 0) (.con (.int 0))) (.var 1)),
    .ret (.var 7)] [],
  .asg (.name 2) (.bin .Add false (.ix (.var 0) (.con (.int 2))) (.con (.int 1))),
  .asg (.sub (.var 0) (.con (.int 2))) (.var 2),
  .asg (.name 3) (.bin .Add false (.ix (.var 0) (.con (.int 1))) (.bin .Mult false (.con (.int 15485867)) (.var 2))),
  .asg (.name 4) (.bin .Add false (.bin .Add false (.bin .Mod false (.ix (.var 0) (.con (.int 1))) (.con (.int 7907))) (.bin .Mult false (.con (.int 32452867)) (.var 2))) (.con (.int 19))),
  .asg (.name 5) (.bin .Mod false (.bin .Mult false (.var 3) (.var 4)) (.con (.int 2305843009213693951))),
  .asg (.name 6) (.bin .Add false (.bin .Add false (.bin .Mod false (.var 5) (.con (.int 1000003))) (.bin .Mult false (.con (.int 6700441)) (.var 2))) (.con (.int 7))),
  .ret (.bin .Mod false (.bin .FloorDiv false (.bin .Mod false (.bin .Mult false (.bin .Add false (.var 5) (.con (.int 11))) (.var 6)) (.con (.int 2305843009213693907))) (.con (.int 64))) (.var 1))]
noncomputable def potC (g m t : Int) : Cell := .lst [.int g, .int m, .int t]
structure POk (g m t : Int) : Prop where
  g0 : 0 ≤ g
  gb : g < 10 ^ 540
  m0 : 0 ≤ m
  mb : m < 2 ^ 61
  t0 : 0 ≤ t
  tb : t ≤ 1000000000
noncomputable def spTake (ds : List D) (S : DStore) (Q : QE) : Prop := ∃ n many g m t, ds = [.ref n, .int many] ∧ S[n]? = some (potC g m t) ∧ POk g m t ∧ t < 1000000000 ∧ 0 < many ∧ many < 2 ^ 60 ∧
  ∀ v g' t', 0 ≤ v → v < many → POk g' m t' → t ≤ t' → t' ≤ t + 1 → Q (.int v) (S.set n (potC g' m t'))
theorem spTake_len : ∀ ds S Q, spTake ds S Q → ds.length = 2 := by
  rintro ds S Q ⟨n, many, g, m, t, rfl, _⟩; rfl
theorem set_get {S : DStore} {n : Nat} {c d : Cell} (h : S[n]? = some c) : (S.set n d)[n]? = some d := by
  rw [List.getElem?_set_self (List.getElem?_eq_some_iff.mp h).1]
theorem if_i {c : Prop} [Decidable c] {A B : Prop} (h1 : c → A) (h2 : ¬ c → B) : if c then A else B := by split <;> simp_all
theorem fmod_pos {a b : Int} (h : 0 < b) : 0 ≤ a.fmod b ∧ a.fmod b < b := ⟨Int.fmod_nonneg_of_pos a h, Int.fmod_lt_of_pos a h⟩
theorem take_ok {G : Fns} : ∀ ds S Q, spTake ds S Q → wpSs G takeC (startD 8 ds) S { nx := fun _ S' => Q .non S', rt := Q } := by
  rintro ds S Q ⟨n, many, g, m, t, rfl, hS, ok, htb, hm0, hmb, hQ⟩
  have hS' : S[n]? = some (.lst [.int g, .int m, .int t]) := hS
  have hmk : ∀ c : Cell, (S.set n c)[n]? = some c := fun c => set_get hS
  unfold takeC
  simp_arith only [hS', hmk]
  have h64 : (2305843009213693951 : Int) < 2 ^ 64 := by decide
  have m0 := ok.m0
  have mb := ok.mb
  have t0 := ok.t0
  have g0 := ok.g0
  split
  · rename_i hg
    have hd := fmod_pos (a := g) hm0
    refine ⟨by omega, div_small (by omega) ?_, hQ _ _ t hd.1 hd.2 ⟨?_, ?_, m0, mb, t0, ok.tb⟩ (Int.le_refl _) (by omega)⟩
    · have : many.natAbs < 2 ^ 60 := by omega
      exact Nat.lt_of_lt_of_le this (Nat.pow_le_pow_right (by decide) (by decide))
    · rw [Int.fdiv_eq_ediv_of_nonneg _ (by omega)]; exact Int.ediv_nonneg g0 (by omega)
    · rw [Int.fdiv_eq_ediv_of_nonneg _ (by omega)]
      exact Int.lt_of_le_of_lt (Int.ediv_le_self _ g0) ok.gb
  · refine ⟨mul_small_left (by decide) (by decide), by decide, mul_small_left (by decide) (by decide), ?_⟩
    have hd := fmod_pos (a := m) (b := 7907) (by decide)
    refine ⟨mul_small_left (by omega) (by omega), by decide, by decide, mul_small_left (by decide) (by decide), ?_⟩
    generalize (m + 15485867 * (t + 1)) * (m.fmod 7907 + 32452867 * (t + 1) + 19) = A
    have hA := fmod_pos (a := A) (b := 2305843009213693951) (by decide)
    refine ⟨mul_small_left (by omega) (by omega), by decide, div_small (by decide) ?_, by omega, ?_⟩
    · exact Nat.lt_of_lt_of_le (show (64 : Int).natAbs < 2 ^ 7 by decide) (Nat.pow_le_pow_right (by decide) (by decide))
    · have hv := fmod_pos (a := (((A.fmod 2305843009213693951 + 11) * ((A.fmod 2305843009213693951).fmod 1000003 + 6700441 * (t + 1) + 7)).fmod 2305843009213693907).fdiv 64) hm0
      exact hQ _ g (t + 1) hv.1 hv.2 ⟨g0, ok.gb, m0, mb, by omega, by omega⟩ (by omega) (Int.le_refl _)
/-- what a draw is: one of some -/
noncomputable def pickC (j : Nat) : List CS := [.ret (.ix (.var 1) (.call j [(.var 0), (.bi .len false [(.var 1)])]))]
noncomputable def spPick (ds : List D) (S : DStore) (Q : QE) : Prop := ∃ n d xs g m t, ds = [.ref n, d] ∧ (d = .lst xs ∨ d = .tup xs) ∧ S[n]? = some (potC g m t) ∧ POk g m t ∧ t < 1000000000 ∧ xs ≠ [] ∧ xs.length < 2 ^ 50 ∧
  ∀ y g' t', y ∈ xs → POk g' m t' → t ≤ t' → t' ≤ t + 1 → Q y (S.set n (potC g' m t'))
theorem spPick_len : ∀ ds S Q, spPick ds S Q → ds.length = 2 := by
  rintro ds S Q ⟨n, d, xs, g, m, t, rfl, _⟩; rfl
theorem pick_ok {G : Fns} {j : Nat} (hG : G.fn j = spTake) : ∀ ds S Q, spPick ds S Q → wpSs G (pickC j) (startD 2 ds) S { nx := fun _ S' => Q .non S', rt := Q } := by
  rintro ds S Q ⟨n, d, xs, g, m, t, rfl, hd, hS, ok, htb, hx, hxl, hQ⟩
  have hl : 0 < xs.length := List.length_pos_iff.mpr hx
  unfold pickC
  have fin : ∀ v g' t', 0 ≤ v → v < (xs.length : Int) → POk g' m t' → t ≤ t' → t' ≤ t + 1 → ∃ y, atI xs v = some y ∧ Q y (S.set n (potC g' m t')) := by
    intro v g' t' h0 h1 ok' h2 h3
    have hi : v.toNat < xs.length := by omega
    exact ⟨xs[v.toNat], atI_nat' h0 (List.getElem?_eq_getElem hi), hQ _ _ _ (List.getElem_mem hi) ok' h2 h3⟩
  rcases hd with rfl | rfl
  · simp_arith only [hG]
    refine ⟨n, _, g, m, t, rfl, hS, ok, htb, by omega, by omega, fun v g' t' h0 h1 ok' h2 h3 => ?_⟩
    simp_arith only []
    exact fin v g' t' h0 h1 ok' h2 h3
  · simp_arith only [hG]
    refine ⟨n, _, g, m, t, rfl, hS, ok, htb, by omega, by omega, fun v g' t' h0 h1 ok' h2 h3 => ?_⟩
    simp_arith only []
    exact fin v g' t' h0 h1 ok' h2 h3
theorem repr4 {S : DStore} {m : Bool} {d : D} {p : PyData} {Q : QE} (e : purS S d = some p) (h : okP p = true) (q : Q (.str p.shown) S) (hs : (szP p).ble 16000000 = true := by rfl) (hd : p.depth.ble 50 = true := by rfl) : biD .repr1 m [d] S Q :=
  ⟨p, e, rep_ok2 h (Nat.le_of_ble_eq_true hs) (Nat.le_of_ble_eq_true hd), q⟩
noncomputable def handC : List CS := [.asg (.name 2) (.ite (.ccmp .Lt (.var 1) (.bi .len false [(.var 0)])) (.ix (.var 0) (.var 1)) (.con (.int 0))),
  .asg (.name 3) (.ite (.ccmp .GtE (.bi .abs false [(.var 2)]) (.bin .Pow false (.con (.int 10)) (.con (.int 18)))) (.bin .Mod false (.bi .abs false [(.var 2)]) (.bin .Mult false (.bin .Mult false (.bin .Pow false (.con (.int 10)) (.con (.int 60))) (.bin .Pow false (.con (.int 10)) (.con (.int 60)))) (.bin .Pow false (.con (.int 10)) (.con (.int 60))))) (.con (.int 0))),
  .ret (.lst true [(.var 3), (.bin .Mod false (.bin .Add false (.bin .Add false (.bin .Mult false (.bin .Mod false (.var 2) (.con (.int 2305843009213693951))) (.con (.int 1000033))) (.bin .Mult false (.con (.int 6857)) (.var 1))) (.con (.int 41))) (.con (.int 2305843009213693921))), (.con (.int 0))])]
noncomputable def spHand (ds : List D) (S : DStore) (Q : QE) : Prop := ∃ (ns : List Int) (k : Int), ds = [.scr (ns.map D.int), .int k] ∧ 0 ≤ k ∧ k ≤ 1000 ∧ ∀ g m, POk g m 0 → Q (.ref S.length) (S ++ [potC g m 0])
theorem spHand_len : ∀ ds S Q, spHand ds S Q → ds.length = 2 := by
  rintro ds S Q ⟨ns, k, rfl, _⟩; rfl
theorem hand_ok {G : Fns} : ∀ ds S Q, spHand ds S Q → wpSs G handC (startD 4 ds) S { nx := fun _ S' => Q .non S', rt := Q } := by
  rintro ds S Q ⟨ns, k, rfl, hk0, hk, hQ⟩
  unfold handC
  simp_arith only [List.length_map]
  have e60 : ((10 : Int) ^ (60 : Int).toNat) = 10 ^ 60 := rfl
  have p1 : PowOk 10 18 := pow_ok (by decide) (by decide) (by decide)
  have p2 : PowOk 10 60 := pow_ok (by decide) (by decide) (by decide)
  have m1 : MulOk ((10 : Int) ^ (60 : Int).toNat) ((10 : Int) ^ (60 : Int).toNat) := .inr (wide_mul (a := 200) (b := 200) (by decide) (by decide) (by decide) (by decide) (by decide))
  have m2 : MulOk ((10 : Int) ^ (60 : Int).toNat * (10 : Int) ^ (60 : Int).toNat) ((10 : Int) ^ (60 : Int).toNat) := .inr (wide_mul (a := 400) (b := 200) (by decide) (by decide) (by decide) (by decide) (by decide))
  have n1 : ((10 : Int) ^ (60 : Int).toNat * (10 : Int) ^ (60 : Int).toNat * (10 : Int) ^ (60 : Int).toNat) ≠ 0 := by decide
  have b1 : ((10 : Int) ^ (60 : Int).toNat * (10 : Int) ^ (60 : Int).toNat * (10 : Int) ^ (60 : Int).toNat) = 10 ^ 180 := by decide
  have fin : ∀ x y : Int, POk (x.fmod ((10 : Int) ^ (60 : Int).toNat * (10 : Int) ^ (60 : Int).toNat * (10 : Int) ^ (60 : Int).toNat)) (y.fmod 2305843009213693921) 0 := fun x y => by
    have h1 := fmod_pos (a := x) (b := 10 ^ 180) (by decide)
    have h2 := fmod_pos (a := y) (b := 2305843009213693921) (by decide)
    rw [b1]
    exact ⟨h1.1, Int.lt_trans h1.2 (by decide +kernel), h2.1, Int.lt_trans h2.2 (by decide), Int.le_refl _, by decide⟩
  have fin0 : ∀ y : Int, POk 0 (y.fmod 2305843009213693921) 0 := fun y => by
    have h2 := fmod_pos (a := y) (b := 2305843009213693921) (by decide)
    exact ⟨Int.le_refl _, by decide +kernel, h2.1, Int.lt_trans h2.2 (by decide), Int.le_refl _, by decide⟩
  refine if_i (fun hlt => ?_) fun _ => ?_
  · have hi : k.toNat < ns.length := by omega
    refine ⟨.int ns[k.toNat], atI_nat' hk0 (by rw [List.getElem?_map, List.getElem?_eq_getElem hi]; rfl), ?_⟩
    simp_arith only []
    refine ⟨p1, if_i (fun _ => ?_) fun _ => ?_⟩
    · exact ⟨p2, p2, m1, p2, m2, n1, by decide, mul_small_right (by decide) (by decide), mul_small_left (by decide) (by decide), by decide, hQ _ _ (fin _ _)⟩
    · exact ⟨by decide, mul_small_right (by decide) (by decide), mul_small_left (by decide) (by decide), by decide, hQ _ _ (fin0 _)⟩
  · refine ⟨p1, if_i (fun _ => ?_) fun _ => ?_⟩
    · exact ⟨p2, p2, m1, p2, m2, n1, by decide, mul_small_right (by decide) (by decide), mul_small_left (by decide) (by decide), by decide, hQ _ _ (fin _ _)⟩
    · exact ⟨by decide, mul_small_right (by decide) (by decide), mul_small_left (by decide) (by decide), by decide, hQ _ _ (fin0 _)⟩
end DL
namespace DL
open PySem PySem.Spec PyProof.Rows L2
theorem pow_lt_9000 {x : Nat} {k : Nat} (h : x < 2 ^ k) (hk : k ≤ 9000) : x < 2 ^ 9000 := Nat.lt_of_lt_of_le h (Nat.pow_le_pow_right (by decide) hk)
theorem bits_one : Builtin.Int.intBits 1 = 1 := by decide +kernel
theorem cpow1 {f : Int} (h0 : 0 ≤ f) (h1 : f ≤ 1000000) : CShl 1 f := ⟨h0, by rw [bits_one]; omega⟩
noncomputable def gI (gs : List Int) (i : Int) : Int := gs.getD i.toNat 0
theorem at_g {gs : List Int} {i : Int} (h0 : 0 ≤ i) (h1 : i < gs.length) : atI (gs.map D.int) i = some (.int (gI gs i)) := by
  refine atI_nat' h0 ?_
  have : i.toNat < gs.length := by omega
  rw [List.getElem?_map, List.getElem?_eq_getElem this]
  simp [gI, List.getD_eq_getElem?_getD, List.getElem?_eq_getElem this]
theorem at_m1 {gs : List Int} (h : 0 < gs.length) : atI (gs.map D.int) (-1) = some (.int (gI gs (gs.length - 1))) := by
  have := at_g (gs := gs) (i := gs.length - 1) (by omega) (by omega)
  unfold atI at this ⊢
  unfold ixN at this ⊢
  rw [List.length_map] at this ⊢
  rw [if_pos (by omega), if_pos (by omega)] at this
  rw [if_neg (by omega), if_pos (by omega)]
  rw [← this]
  congr 1
noncomputable def Pot (n : Nat) (T : Int) (S : DStore) : Prop := ∃ g m t, S[n]? = some (potC g m t) ∧ POk g m t ∧ t ≤ T
/-- all other things in the store stay -/
structure Fr (n : Nat) (S S' : DStore) : Prop where
  len : S.length ≤ S'.length
  keep : ∀ j, j ≠ n → j < S.length → S'[j]? = S[j]?
theorem Fr.refl {n : Nat} {S : DStore} : Fr n S S := ⟨Nat.le_refl _, fun _ _ _ => rfl⟩
theorem Fr.trans {n : Nat} {S S1 S2 : DStore} (a : Fr n S S1) (b : Fr n S1 S2) : Fr n S S2 :=
  ⟨Nat.le_trans a.len b.len, fun j h1 h2 => (b.keep j h1 (Nat.lt_of_lt_of_le h2 a.len)).trans (a.keep j h1 h2)⟩
theorem Fr.app {n : Nat} {S : DStore} {cs : List Cell} : Fr n S (S ++ cs) := ⟨by simp, fun j _ h => List.getElem?_append_left h⟩
theorem Fr.set {n i : Nat} {S S' : DStore} {c : Cell} (h : Fr n S S') (hi : S.length ≤ i) : Fr n S (S'.set i c) :=
  ⟨by simpa using h.len, fun j h1 h2 => by rw [List.getElem?_set_ne (by omega)]; exact h.keep j h1 h2⟩
theorem Fr.get {n i : Nat} {S S' : DStore} {c : Cell} (h : Fr n S S') (hi : i ≠ n) (e : S[i]? = some c) : S'[i]? = some c :=
  (h.keep i hi (List.getElem?_eq_some_iff.mp e).1).trans e
/-- all things stay -/
noncomputable def Kp (S S' : DStore) : Prop := ∀ (j : Nat) (c : Cell), S[j]? = some c → S'[j]? = some c
theorem Kp.len {S S' : DStore} (h : Kp S S') : S.length ≤ S'.length := by
  rcases Nat.lt_or_ge S'.length S.length with hl | hl
  · have := h S'.length S[S'.length] (List.getElem?_eq_getElem hl)
    have := (List.getElem?_eq_some_iff.mp this).1
    omega
  · exact hl
theorem Pot.keep {n : Nat} {T : Int} {S S' : DStore} (h : Pot n T S) (k : Kp S S') : Pot n T S' := let ⟨g, m, t, a, b, c⟩ := h; ⟨g, m, t, k _ _ a, b, c⟩
theorem Pot.mono {n : Nat} {T T' : Int} {S : DStore} (h : Pot n T S) (hT : T ≤ T') : Pot n T' S := let ⟨g, m, t, a, b, c⟩ := h; ⟨g, m, t, a, b, Int.le_trans c hT⟩
theorem Pot.lt {n : Nat} {T : Int} {S : DStore} (h : Pot n T S) : n < S.length := let ⟨_, _, _, a, _⟩ := h; (List.getElem?_eq_some_iff.mp a).1
theorem Pot.app {n : Nat} {T : Int} {S : DStore} {cs : List Cell} (h : Pot n T S) : Pot n T (S ++ cs) := let ⟨g, m, t, a, b, d⟩ := h; ⟨g, m, t, by rw [List.getElem?_append_left (List.getElem?_eq_some_iff.mp a).1]; exact a, b, d⟩
theorem Pot.set {n q : Nat} {T : Int} {S : DStore} {c : Cell} (h : Pot n T S) (hq : q ≠ n) : Pot n T (S.set q c) := let ⟨g, m, t, a, b, d⟩ := h; ⟨g, m, t, by rw [List.getElem?_set_ne hq]; exact a, b, d⟩
theorem takeP {n : Nat} {many T : Int} {S : DStore} {Q : QE} (hP : Pot n T S) (ht : T < 1000000000) (h0 : 0 < many) (hb : many < 2 ^ 60)
    (h : ∀ v S', 0 ≤ v → v < many → Pot n (T + 1) S' → Fr n S S' → S'.length = S.length → Q (.int v) S') : spTake [.ref n, .int many] S Q := by
  obtain ⟨g, m, t0, hS, ok, hl⟩ := hP
  exact ⟨n, many, g, m, t0, rfl, hS, ok, by omega, h0, hb, fun v g' t' a b c _ d => h v _ a b ⟨g', m, t', set_get hS, c, by omega⟩ ⟨by simp, fun j hj _ => List.getElem?_set_ne (fun z => hj z.symm)⟩ (by simp)⟩
theorem pickP {n : Nat} {xs : List D} {T : Int} {S : DStore} {Q : QE} (hP : Pot n T S) (ht : T < 1000000000)
    (h : ∀ y S', y ∈ xs → Pot n (T + 1) S' → Fr n S S' → S'.length = S.length → Q y S') (hx : xs ≠ [] := by simp) (hl : xs.length ≤ 1000000 := by simp) : spPick [.ref n, .lst xs] S Q := by
  obtain ⟨g, m, t0, hS, ok, hle⟩ := hP
  exact ⟨n, _, xs, g, m, t0, rfl, .inl rfl, hS, ok, by omega, hx, Nat.lt_of_le_of_lt hl (by decide), fun y g' t' a b _ c => h y _ a ⟨g', m, t', set_get hS, b, by omega⟩ ⟨by simp, fun j hj _ => List.getElem?_set_ne (fun z => hj z.symm)⟩ (by simp)⟩
/-- whole numbers from lo to hi -/
noncomputable def allI (lo hi : Int) : List D → Prop
  | [] => True
  | .int k :: r => (lo ≤ k ∧ k ≤ hi) ∧ allI lo hi r
  | _ => False
theorem allI_mem {lo hi : Int} : ∀ {xs : List D}, allI lo hi xs → ∀ y ∈ xs, ∃ k : Int, y = .int k ∧ lo ≤ k ∧ k ≤ hi
  | [], _, y, hy => by cases hy
  | .int k :: r, h, y, hy => by
    rcases List.mem_cons.mp hy with rfl | hy
    · exact ⟨k, rfl, h.1.1, h.1.2⟩
    · exact allI_mem h.2 y hy
theorem pickI {lo hi : Int} {n : Nat} {xs : List D} {T : Int} {S : DStore} {Q : QE} (hP : Pot n T S) (ht : T < 1000000000) (ha : allI lo hi xs)
    (h : ∀ v S', lo ≤ v → v ≤ hi → Pot n (T + 1) S' → Fr n S S' → S'.length = S.length → Q (.int v) S') (hx : xs ≠ [] := by simp) (hl : xs.length ≤ 1000000 := by simp) : spPick [.ref n, .lst xs] S Q :=
  pickP hP ht (fun y S' hy hP' hF hL => by
    obtain ⟨k, rfl, h0, h1⟩ := allI_mem ha y hy
    exact h k S' h0 h1 hP' hF hL) hx hl
theorem handP {ns : List Int} {k : Int} {S : DStore} {Q : QE} (h0 : 0 ≤ k) (h1 : k ≤ 1000) (h : ∀ n S', Pot n 0 S' → Fr n S S' → S'.length = n + 1 → Q (.ref n) S') : spHand [.scr (ns.map D.int), .int k] S Q :=
  ⟨ns, k, rfl, h0, h1, fun g m ok => h _ _ ⟨g, m, 0, by simp, ok, Int.le_refl _⟩ Fr.app (by simp)⟩
theorem len_le {n : Nat} (h : n ≤ 1000000) : n ≤ sizeLine := Nat.le_trans h (by decide)
theorem len_lt {n : Nat} (h : n < 1000000) : n < sizeLine := Nat.lt_of_lt_of_le h (by decide)
theorem div_om {j : Int} (h0 : j ≠ 0) (h1 : -4611686018427387904 < j) (h2 : j < 4611686018427387904) : DivOk j := div_small h0 (pow_lt_9000 (k := 62) (by omega) (by decide))
theorem fdiv_e {a b : Int} (h : 0 ≤ b) : a.fdiv b = a / b := Int.fdiv_eq_ediv_of_nonneg _ h
theorem fmod_e {a b : Int} (h : 0 ≤ b) : a.fmod b = a % b := Int.fmod_eq_emod_of_nonneg _ h
theorem cut_to {xs : List D} {k : Nat} : cutD xs none (some (k : Int)) = xs.take k := by
  unfold cutD
  rw [HT.sIx_none, HT.sIx_nat, List.drop_zero, Nat.sub_zero]
  rcases Nat.le_total k xs.length with h | h
  · rw [Nat.min_eq_left h]
  · rw [Nat.min_eq_right h, List.take_length, List.take_of_length_le h]
theorem cut_from {xs : List D} {k : Nat} : cutD xs (some (k : Int)) none = xs.drop k := by
  unfold cutD
  rw [HT.sIx_none, HT.sIx_nat]
  rcases Nat.le_total k xs.length with h | h
  · rw [Nat.min_eq_left h, List.take_of_length_le (by simp)]
  · rw [Nat.min_eq_right h, List.drop_length, List.drop_of_length_le h]; simp
theorem ss_take {G : Fns} : ∀ (k : Nat) (l : List CS) (ρ : DEnv) (S : DStore) (K : DEnds), wpSs G l ρ S K = wpSs G (l.take k) ρ S { K with nx := fun ρ' S' => wpSs G (l.drop k) ρ' S' K }
  | 0, l, ρ, S, K => by simp only [List.take_zero, List.drop_zero, wpSs]
  | k + 1, [], ρ, S, K => by simp only [List.take_nil, List.drop_nil, wpSs]
  | k + 1, s :: l, ρ, S, K => by
    simp only [List.take_succ_cons, List.drop_succ_cons, wpSs]
    congr 2
    funext ρ' S'
    exact ss_take k l ρ' S' K
theorem ss_split {G : Fns} (k : Nat) {l : List CS} {ρ : DEnv} {S : DStore} {nx : DEnv → DStore → Prop} {rt : QE} {bk ct : DEnv → DStore → Prop} (P : DEnv → DStore → Prop)
    (h1 : ∀ N : DEnv → DStore → Prop, (∀ ρ' S', P ρ' S' → N ρ' S') → wpSs G (l.take k) ρ S ⟨N, rt, bk, ct⟩) (h2 : ∀ ρ' S', P ρ' S' → wpSs G (l.drop k) ρ' S' ⟨nx, rt, bk, ct⟩) : wpSs G l ρ S ⟨nx, rt, bk, ct⟩ := by
  rw [ss_take k]
  exact h1 _ h2
theorem Kp.trans {S S' S'' : DStore} (a : Kp S S') (b : Kp S' S'') : Kp S S'' := fun j c h => b j c (a j c h)
theorem kp_set {S S' : DStore} {n : Nat} {c : Cell} (h : Kp S S') (hn : S.length ≤ n) : Kp S (S'.set n c) := fun j d hj => by
  have := (List.getElem?_eq_some_iff.mp hj).1
  rw [List.getElem?_set_ne (by omega)]; exact h j d hj
theorem kp_app {S : DStore} {cs : List Cell} : Kp S (S ++ cs) := fun j c hj => by rw [List.getElem?_append_left (List.getElem?_eq_some_iff.mp hj).1]; exact hj
theorem eq_same {S : DStore} {x : D} {p : PyData} {QB : Bool → Prop} (hx : ∀ i, x ≠ .int i) (hb : ∀ i, x ≠ .bl i) (hst : ∀ i, x ≠ .str i) (e : purS S x = some p) (sh : SeqAt.shaped p = true) (q : QB true) : cmpD .Eq S x x QB := by
  show eqD S x x QB
  unfold eqD
  split
  · exact absurd rfl (hx _)
  · exact absurd rfl (hb _)
  · exact absurd rfl (hst _)
  · have lay : p.canLay0 = true := by
      unfold SeqAt.shaped at sh
      exact (Bool.and_eq_true_iff.mp sh).1
    exact ⟨p, p, e, e, sh, sh, by rw [SeqAt.eqv_refl p lay]; exact q⟩
end DL
namespace DL
open PySem PySem.Spec PyProof.Rows L2
noncomputable abbrev R3 := Int × Int × Int
noncomputable def r3D (r : R3) : D := .tup [.int r.1, .int r.2.1, .int r.2.2]
noncomputable def stepsD : D := .tup [.int (-1), .int 0, .int 1]
noncomputable def phasesD : D := .tup [.tup [.int 0, .int 0], .tup [.int 0, .int 1], .tup [.int 1, .int 1], .tup [.int 1, .int 0]]
noncomputable def phT (i : Int) : Int × Int := if i = 0 then (0, 0) else if i = 1 then (0, 1) else if i = 2 then (1, 1) else (1, 0)
noncomputable def rdT (m p o : Int) : R3 := ((phT ((p + o) % 4)).1, (phT ((p + o) % 4)).2, if p.fmod m = 0 then 1 else 0)
noncomputable def inS (i : Int) : Bool := i == -1 || i == 0 || i == 1
noncomputable def onw (s : K3) (p o : Int) : Option K3 :=
  if inS (p - s.1) = false ∨ inS o = false then none else
  if (p - s.1 ≠ 0 ∧ s.2.1 = true) ∨ (o ≠ 0 ∧ s.2.2 < 2) then none else
  some (p, decide (p - s.1 ≠ 0), if o ≠ 0 then 0 else if s.2.2 + 1 < 2 then s.2.2 + 1 else 2)
noncomputable def st3 : List Int := [-1, 0, 1]
noncomputable def prt1 (m : Int) (s : K3) (r : R3) (a o : Int) : Option ((Int × Int) × K3) :=
  match onw s (s.1 + a) o with
  | some t => if rdT m (s.1 + a) o = r then some ((s.1 + a, o), t) else none
  | none => none
noncomputable def prt (m : Int) (s : K3) (r : R3) : List ((Int × Int) × K3) := st3.flatMap fun a => st3.filterMap fun o => prt1 m s r a o
noncomputable def prD (q : (Int × Int) × K3) : D := .tup [.tup [.int q.1.1, .int q.1.2], k3D q.2]
noncomputable def firstC (g : Nat) : List CS := [.ret (.tup [(.var 0), (.con (.bl false)), (.glo g)])]
noncomputable def spFirst (ds : List D) (S : DStore) (Q : QE) : Prop := ∃ b : Int, ds = [.int b] ∧ Q (k3D (b, false, 2)) S
theorem spFirst_len : ∀ ds S Q, spFirst ds S Q → ds.length = 1 := by rintro _ _ _ ⟨_, rfl, _⟩; rfl
theorem first_ok {G : Fns} {g : Nat} (hg : G.gl g = .int 2) : ∀ ds S Q, spFirst ds S Q → wpSs G (firstC g) (startD 1 ds) S { nx := fun _ S' => Q .non S', rt := Q } := by
  rintro ds S Q ⟨b, rfl, h⟩
  show wpSs _ _ [some (.int b)] _ _
  unfold firstC
  simp_arith only [hg]
  exact h
noncomputable def rdC (g : Nat) : List CS := [.asg (.tup [(.name 3), (.name 4)]) (.ix (.glo g) (.bin .Mod false (.bin .Add false (.var 1) (.var 2)) (.bi .len false [(.glo g)]))),
  .ret (.tup [(.var 3), (.var 4), (.bi .int1 false [(.cmp .Eq (.bin .Mod false (.var 1) (.var 0)) (.con (.int 0)))])])]
noncomputable def spRd (ds : List D) (S : DStore) (Q : QE) : Prop := ∃ m p o : Int, ds = [.int m, .int p, .int o] ∧ m ≠ 0 ∧ Q (r3D (rdT m p o)) S
theorem spRd_len : ∀ ds S Q, spRd ds S Q → ds.length = 3 := by rintro _ _ _ ⟨_, _, _, rfl, _⟩; rfl
theorem ph_at (i : Int) (h0 : 0 ≤ i) (h4 : i < 4) : atI [D.tup [.int 0, .int 0], .tup [.int 0, .int 1], .tup [.int 1, .int 1], .tup [.int 1, .int 0]] i = some (.tup [.int (phT i).1, .int (phT i).2]) := by
  have : i = 0 ∨ i = 1 ∨ i = 2 ∨ i = 3 := by omega
  rcases this with rfl | rfl | rfl | rfl <;> rfl
theorem rd_ok {G : Fns} {g : Nat} (hg : G.gl g = phasesD) : ∀ ds S Q, spRd ds S Q → wpSs G (rdC g) (startD 5 ds) S { nx := fun _ S' => Q .non S', rt := Q } := by
  rintro ds S Q ⟨m, p, o, rfl, hm, h⟩
  show wpSs _ _ [some (.int m), some (.int p), some (.int o), none, none] _ _
  have e : (p + o).fmod 4 = (p + o) % 4 := fmod_e (by decide)
  have hx := ph_at ((p + o) % 4) (by omega) (by omega)
  have h01 : (if decide (p.fmod m = 0) = true then (1 : Int) else 0) = if p.fmod m = 0 then 1 else 0 := by simp
  unfold rdC
  simp_arith only [hg, phasesD]
  refine ⟨by decide, _, by rw [show (p + o).fmod ((4 : Nat) : Int) = (p + o) % 4 from e]; exact hx, ?_⟩
  simp_arith only [h01]
  exact ⟨trivial, hm, h⟩
noncomputable def onwC (ga gs : Nat) : List CS := [.asg (.tup [(.name 4), (.name 5), (.name 6)]) (.var 0),
  .asg (.name 3) (.bin .Sub false (.var 1) (.var 4)),
  .if_ (.cor (.ccmp .NotIn (.var 3) (.glo gs)) (.ccmp .NotIn (.var 2) (.glo gs))) [.ret (.con .non)] [],
  .if_ (.cor (.cand (.ccmp .NotEq (.var 3) (.con (.int 0))) (.cval (.var 5))) (.cand (.ccmp .NotEq (.var 2) (.con (.int 0))) (.ccmp .Lt (.var 6) (.glo ga)))) [.ret (.con .non)] [],
  .ret (.tup [(.var 1), (.cmp .NotEq (.var 3) (.con (.int 0))), (.ite (.ccmp .NotEq (.var 2) (.con (.int 0))) (.con (.int 0)) (.bi .min2 false [(.glo ga), (.bin .Add false (.var 6) (.con (.int 1)))]))])]
noncomputable def onD : Option K3 → D
  | some t => k3D t
  | none => .non
noncomputable def spOnw (ds : List D) (S : DStore) (Q : QE) : Prop := ∃ (s : K3) (p o : Int), ds = [k3D s, .int p, .int o] ∧ Q (onD (onw s p o)) S
theorem spOnw_len : ∀ ds S Q, spOnw ds S Q → ds.length = 3 := by rintro _ _ _ ⟨_, _, _, rfl, _⟩; rfl
theorem eqV_int (a b : Int) : eqV (.int a) (.int b) = (b == a) := by
  show (a == b) = (b == a)
  exact Bool.beq_comm
theorem in_steps {S : DStore} {i : Int} {Q : Bool → Prop} (h : Q (!inS i)) : cmpD .NotIn S (.int i) stepsD Q := by
  refine ⟨_, rfl, rfl, rfl, ?_⟩
  have e : inV (toV (.int i)) ([D.int (-1), .int 0, .int 1].map toV) = inS i := by
    show ((([V.int (-1), .int 0, .int 1]).any fun y => eqV y (.int i)) = _)
    simp only [List.any_cons, List.any_nil, Bool.or_false, eqV_int, inS, Bool.or_assoc]
  rw [e]
  exact h
theorem onw_ok {G : Fns} {ga gs : Nat} (ha : G.gl ga = .int 2) (hs : G.gl gs = stepsD) : ∀ ds S Q, spOnw ds S Q → wpSs G (onwC ga gs) (startD 7 ds) S { nx := fun _ S' => Q .non S', rt := Q } := by
  rintro ds S Q ⟨⟨s, b, c⟩, p, o, rfl, h⟩
  show wpSs _ _ [some (k3D (s, b, c)), some (.int p), some (.int o), none, none, none, none] _ _
  unfold onwC k3D
  simp_arith only [ha, hs]
  unfold onw at h
  refine ⟨trivial, in_steps ?_⟩
  simp only at h ⊢
  cases h1 : inS (p - s) with
  | false =>
    rw [if_pos (.inl h1)] at h
    exact h
  | true =>
    simp only [Bool.not_true, Bool.false_eq_true, if_false]
    refine in_steps ?_
    cases h2 : inS o with
    | false =>
      rw [if_pos (.inr h2)] at h
      exact h
    | true =>
      rw [if_neg (by rw [h1, h2]; simp)] at h
      simp only [Bool.not_true, Bool.false_eq_true, if_false]
      generalize p - s = z at *
      by_cases e1 : z = 0 <;> cases b <;> by_cases e2 : o = 0 <;> by_cases e3 : c < 2 <;> simp_all [onD, k3D]
      all_goals (intro z; exact absurd z (by omega))
noncomputable def prtC (gs jo jr : Nat) : List CS := [.asg (.name 3) (.lst true []),
  .for_ (.name 4) (.seq (.glo gs)) [.for_ (.name 5) (.seq (.glo gs)) [.asg (.name 6) (.bin .Add false (.ix (.var 1) (.con (.int 0))) (.var 4)),
    .asg (.name 7) (.call jo [(.var 1), (.var 6), (.var 5)]),
    .if_ (.cand (.ccmp .IsNot (.var 7) (.con .non)) (.ccmp .Eq (.call jr [(.var 0), (.var 6), (.var 5)]) (.var 2))) [.append (.var 3) (.tup [(.tup [(.var 6), (.var 5)]), (.var 7)])] []]],
  .ret (.var 3)]
/-- what is read may be any tuple of three numbers -/
noncomputable def spPrt (ds : List D) (S : DStore) (Q : QE) : Prop := ∃ (m : Int) (s : K3) (r : R3), ds = [.int m, k3D s, r3D r] ∧ m ≠ 0 ∧ ∀ S', Kp S S' → S'.length = S.length + 1 → S'[S.length]? = some (.lst ((prt m s r).map prD)) → Q (.ref S.length) S'
theorem spPrt_len : ∀ ds S Q, spPrt ds S Q → ds.length = 3 := by rintro _ _ _ ⟨_, _, _, rfl, _⟩; rfl
theorem eqv_r3 (a b : R3) : PyData.eqv (.tuple [.int a.1, .int a.2.1, .int a.2.2]) (.tuple [.int b.1, .int b.2.1, .int b.2.2]) = decide (a = b) := by
  obtain ⟨a1, a2, a3⟩ := a
  obtain ⟨b1, b2, b3⟩ := b
  simp [PyData.eqv, PyData.eqvAll, Bool.beq_eq_decide_eq]
  all_goals rfl
theorem eq_r3 {S : DStore} {a b : R3} {Q : Bool → Prop} (h : Q (decide (a = b))) : cmpD .Eq S (r3D a) (r3D b) Q := by
  show eqD S (r3D a) (r3D b) Q
  refine ⟨_, _, rfl, rfl, rfl, rfl, ?_⟩
  rw [eqv_r3]
  exact h
theorem prt_turn {G : Fns} {jo jr : Nat} (ho : G.fn jo = spOnw) (hr : G.fn jr = spRd) {m : Int} (hm : m ≠ 0) {s : K3} {r : R3} {a o : Int} {d6 d7 : Option D} {q : Nat} {acc : List D} {S : DStore} {N : DEnv → DStore → Prop} {rt : QE} {bk ct : DEnv → DStore → Prop}
    (hq : S[q]? = some (.lst acc)) (hl : acc.length < 1000)
    (hN : ∀ d6' d7' S', (∀ j c, j ≠ q → S[j]? = some c → S'[j]? = some c) → S'.length = S.length → S'[q]? = some (.lst (acc ++ ((prt1 m s r a o).map prD).toList)) → N [some (.int m), some (k3D s), some (r3D r), some (.ref q), some (.int a), some (.int o), d6', d7'] S') :
    wpSs G [.asg (.name 6) (.bin .Add false (.ix (.var 1) (.con (.int 0))) (.var 4)), .asg (.name 7) (.call jo [(.var 1), (.var 6), (.var 5)]),
      .if_ (.cand (.ccmp .IsNot (.var 7) (.con .non)) (.ccmp .Eq (.call jr [(.var 0), (.var 6), (.var 5)]) (.var 2))) [.append (.var 3) (.tup [(.tup [(.var 6), (.var 5)]), (.var 7)])] []]
      [some (.int m), some (k3D s), some (r3D r), some (.ref q), some (.int a), some (.int o), d6, d7] S ⟨N, rt, bk, ct⟩ := by
  simp_arith only [ho, hr, k3D]
  refine ⟨s, _, o, rfl, ?_⟩
  unfold prt1 at hN
  cases e : onw s (s.1 + a) o with
  | none =>
    simp only [e] at hN
    exact hN _ _ S (fun _ _ _ h => h) rfl (by simpa using hq)
  | some t =>
    simp only [e] at hN
    show if isNon (k3D t) = false then _ else _
    rw [if_pos (show isNon (k3D t) = false from rfl)]
    refine ⟨m, _, o, rfl, hm, eq_r3 ?_⟩
    by_cases er : rdT m (s.1 + a) o = r
    · rw [decide_eq_true er, if_pos rfl]
      rw [if_pos er] at hN
      exact ⟨lat hq, acc, hq, Nat.lt_of_lt_of_le hl (by decide), hN _ _ _ (fun j c hj h => by rw [List.getElem?_set_ne (Ne.symm hj)]; exact h) (by simp) (set_get hq)⟩
    · rw [decide_eq_false er]
      rw [if_neg er] at hN
      simp only [Bool.false_eq_true, if_false]
      exact hN _ _ S (fun _ _ _ h => h) rfl (by simpa using hq)
theorem steps_at {i : Nat} {x : D} (h : [D.int (-1), .int 0, .int 1][i]? = some x) : ∃ a, st3[i]? = some a ∧ x = .int a := by
  match i, h with
  | 0, h => exact ⟨_, rfl, (Option.some.inj h).symm⟩
  | 1, h => exact ⟨_, rfl, (Option.some.inj h).symm⟩
  | 2, h => exact ⟨_, rfl, (Option.some.inj h).symm⟩
  | i + 3, h => simp at h
theorem fm_le (m : Int) (s : K3) (r : R3) (a : Int) (l : List Int) : (l.filterMap fun o => prt1 m s r a o).length ≤ l.length := List.length_filterMap_le _ _
theorem fl_le (m : Int) (s : K3) (r : R3) : ∀ l : List Int, (l.flatMap fun a => st3.filterMap fun o => prt1 m s r a o).length ≤ 3 * l.length
  | [] => by simp
  | a :: l => by
    rw [List.flatMap_cons, List.length_append, List.length_cons]
    have h1 := fm_le m s r a st3
    have h2 := fl_le m s r l
    have : st3.length = 3 := rfl
    omega
theorem fm_one {α β γ : Type} (f : α → Option β) (g : β → γ) (x : α) : ([x].filterMap f).map g = ((f x).map g).toList := by
  cases h : f x <;> simp [h]
theorem prt_ok {G : Fns} {gs jo jr : Nat} (hs : G.gl gs = stepsD) (ho : G.fn jo = spOnw) (hr : G.fn jr = spRd) : ∀ ds S Q, spPrt ds S Q → wpSs G (prtC gs jo jr) (startD 8 ds) S { nx := fun _ S' => Q .non S', rt := Q } := by
  rintro ds S Q ⟨m, s, r, rfl, hm, h⟩
  show wpSs _ _ [some (.int m), some (k3D s), some (r3D r), none, none, none, none, none] _ _
  unfold prtC
  simp_arith only [hs, stepsD]
  have hn : (S ++ [Cell.lst []])[S.length]? = some (.lst []) := by simp
  refine walk_list (fun i ρ S' => ∃ d4 d5 d6 d7, ρ = [some (.int m), some (k3D s), some (r3D r), some (.ref S.length), d4, d5, d6, d7] ∧ Kp S S' ∧ S'.length = S.length + 1 ∧ S'[S.length]? = some (.lst (((st3.take i).flatMap fun a => st3.filterMap fun o => prt1 m s r a o).map prD)))
    ⟨_, _, _, _, rfl, kp_app, by simp, by simpa using hn⟩ (fun _ _ _ _ => trivial) ?_ ?_
  · rintro i x ρ S1 hx ⟨d4, d5, d6, d7, rfl, hk, hl, hc⟩
    obtain ⟨a, ha, rfl⟩ := steps_at hx
    unfold DL.forTurn
    simp_arith only [hs, stepsD]
    have hle := fl_le m s r (st3.take i)
    have hi3 : (st3.take i).length ≤ 3 := List.length_take_le' ..
    refine walk_list (fun k ρ S' => ∃ d5 d6 d7, ρ = [some (.int m), some (k3D s), some (r3D r), some (.ref S.length), some (.int a), d5, d6, d7] ∧ Kp S S' ∧ S'.length = S.length + 1 ∧ S'[S.length]? = some (.lst (((st3.take i).flatMap fun a => st3.filterMap fun o => prt1 m s r a o).map prD ++ ((st3.take k).filterMap fun o => prt1 m s r a o).map prD)))
      ⟨_, _, _, rfl, hk, hl, by simpa using hc⟩ (fun _ _ _ _ => trivial) ?_ ?_
    · rintro k y ρ S2 hy ⟨e5, e6, e7, rfl, hk2, hl2, hc2⟩
      obtain ⟨o, hb, rfl⟩ := steps_at hy
      have hle2 := fm_le m s r a (st3.take k)
      have hk3 : (st3.take k).length ≤ 3 := List.length_take_le' ..
      unfold DL.forTurn
      rw [g_name]
      refine prt_turn ho hr hm hc2 (by simp only [List.length_append, List.length_map]; omega) fun d6' d7' S3 hf hl3 hc3 => ?_
      refine ⟨_, _, _, rfl, fun j c hj => hf j c (fun z => by rw [z] at hj; simp at hj) (hk2 j c hj), by omega, ?_⟩
      rw [hc3, List.take_succ, hb, List.filterMap_append, List.map_append, List.append_assoc, show (some o).toList = [o] from rfl, fm_one]
    · rintro ρ S2 ⟨e5, e6, e7, rfl, hk2, hl2, hc2⟩
      refine ⟨_, _, _, _, rfl, hk2, hl2, ?_⟩
      rw [hc2, List.take_succ, ha, List.flatMap_append, List.map_append]
      simp [st3]
  · rintro ρ S1 ⟨d4, d5, d6, d7, rfl, hk, hl, hc⟩
    simp_arith only []
    exact h _ hk hl (by simpa [st3, prt] using hc)
end DL
namespace DL
open PySem PySem.Spec PyProof.Rows L2
theorem sn_begin_marks : (("teller_begin" : Str) == "teller_marks") = false := by decide +kernel
theorem sn_reads_marks : (("teller_reads" : Str) == "teller_marks") = false := by decide +kernel
theorem sn_reads_begin : (("teller_reads" : Str) == "teller_begin") = false := by decide +kernel
theorem sn_layers_marks : (("teller_layers" : Str) == "teller_marks") = false := by decide +kernel
theorem sn_layers_begin : (("teller_layers" : Str) == "teller_begin") = false := by decide +kernel
theorem sn_layers_reads : (("teller_layers" : Str) == "teller_reads") = false := by decide +kernel
theorem sn_fits_marks : (("fits" : Str) == "teller_marks") = false := by decide +kernel
theorem sn_fits_begin : (("fits" : Str) == "teller_begin") = false := by decide +kernel
theorem sn_fits_reads : (("fits" : Str) == "teller_reads") = false := by decide +kernel
theorem sn_fits_layers : (("fits" : Str) == "teller_layers") = false := by decide +kernel
theorem sn_place_marks : (("place" : Str) == "teller_marks") = false := by decide +kernel
theorem sn_place_begin : (("place" : Str) == "teller_begin") = false := by decide +kernel
theorem sn_place_reads : (("place" : Str) == "teller_reads") = false := by decide +kernel
theorem sn_place_layers : (("place" : Str) == "teller_layers") = false := by decide +kernel
theorem sn_take_marks : (("take" : Str) == "teller_marks") = false := by decide +kernel
theorem sn_take_begin : (("take" : Str) == "teller_begin") = false := by decide +kernel
theorem sn_take_reads : (("take" : Str) == "teller_reads") = false := by decide +kernel
theorem sn_take_layers : (("take" : Str) == "teller_layers") = false := by decide +kernel
theorem sn_tale_marks : (("tale" : Str) == "teller_marks") = false := by decide +kernel
theorem sn_tale_begin : (("tale" : Str) == "teller_begin") = false := by decide +kernel
theorem sn_tale_reads : (("tale" : Str) == "teller_reads") = false := by decide +kernel
theorem sn_tale_layers : (("tale" : Str) == "teller_layers") = false := by decide +kernel
theorem sn_alive_marks : (("alive" : Str) == "teller_marks") = false := by decide +kernel
theorem sn_alive_begin : (("alive" : Str) == "teller_begin") = false := by decide +kernel
theorem sn_alive_reads : (("alive" : Str) == "teller_reads") = false := by decide +kernel
theorem sn_alive_layers : (("alive" : Str) == "teller_layers") = false := by decide +kernel
noncomputable def tF (m b : Int) (r l : Nat) : List (Str × D) := [("teller_marks", .int m), ("teller_begin", .int b), ("teller_reads", .ref r), ("teller_layers", .ref l)]
section
variable {m b : Int} {r l : Nat}
theorem tF_marks : (tF m b r l).lookup ("teller_marks" : Str) = some (D.int m) := by
  unfold tF
  simp only [List.lookup_cons, beq_self_eq_true]
theorem tF_begin : (tF m b r l).lookup ("teller_begin" : Str) = some (D.int b) := by
  unfold tF
  simp only [List.lookup_cons, beq_self_eq_true, sn_begin_marks]
theorem tF_reads : (tF m b r l).lookup ("teller_reads" : Str) = some (D.ref r) := by
  unfold tF
  simp only [List.lookup_cons, beq_self_eq_true, sn_reads_marks, sn_reads_begin]
theorem tF_layers : (tF m b r l).lookup ("teller_layers" : Str) = some (D.ref l) := by
  unfold tF
  simp only [List.lookup_cons, beq_self_eq_true, sn_layers_marks, sn_layers_begin, sn_layers_reads]
theorem tF_fits : (tF m b r l).lookup ("fits" : Str) = none := by
  unfold tF
  simp only [List.lookup_cons, List.lookup_nil, sn_fits_marks, sn_fits_begin, sn_fits_reads, sn_fits_layers]
theorem tF_place : (tF m b r l).lookup ("place" : Str) = none := by
  unfold tF
  simp only [List.lookup_cons, List.lookup_nil, sn_place_marks, sn_place_begin, sn_place_reads, sn_place_layers]
theorem tF_take : (tF m b r l).lookup ("take" : Str) = none := by
  unfold tF
  simp only [List.lookup_cons, List.lookup_nil, sn_take_marks, sn_take_begin, sn_take_reads, sn_take_layers]
theorem tF_tale : (tF m b r l).lookup ("tale" : Str) = none := by
  unfold tF
  simp only [List.lookup_cons, List.lookup_nil, sn_tale_marks, sn_tale_begin, sn_tale_reads, sn_tale_layers]
theorem tF_alive : (tF m b r l).lookup ("alive" : Str) = none := by
  unfold tF
  simp only [List.lookup_cons, List.lookup_nil, sn_alive_marks, sn_alive_begin, sn_alive_reads, sn_alive_layers]
theorem put_marks : putFD ("teller_marks" : Str) (D.int m) [] = [(("teller_marks" : Str), D.int m)] := rfl
theorem put_begin : putFD ("teller_begin" : Str) (D.int b) [(("teller_marks" : Str), D.int m)] = [(("teller_marks" : Str), D.int m), (("teller_begin" : Str), D.int b)] := by
  simp only [putFD, show ¬ (("teller_marks" : Str) = "teller_begin") from by decide +kernel, if_false]
theorem put_reads : putFD ("teller_reads" : Str) (D.ref r) [(("teller_marks" : Str), D.int m), (("teller_begin" : Str), D.int b)] = [(("teller_marks" : Str), D.int m), (("teller_begin" : Str), D.int b), (("teller_reads" : Str), D.ref r)] := by
  simp only [putFD, show ¬ (("teller_marks" : Str) = "teller_reads") from by decide +kernel, show ¬ (("teller_begin" : Str) = "teller_reads") from by decide +kernel, if_false]
theorem put_layers : putFD ("teller_layers" : Str) (D.ref l) [(("teller_marks" : Str), D.int m), (("teller_begin" : Str), D.int b), (("teller_reads" : Str), D.ref r)] = [(("teller_marks" : Str), D.int m), (("teller_begin" : Str), D.int b), (("teller_reads" : Str), D.ref r), (("teller_layers" : Str), D.ref l)] := by
  simp only [putFD, show ¬ (("teller_marks" : Str) = "teller_layers") from by decide +kernel, show ¬ (("teller_begin" : Str) = "teller_layers") from by decide +kernel, show ¬ (("teller_reads" : Str) = "teller_layers") from by decide +kernel, if_false]
end
noncomputable def nxt (m : Int) (ks : List K3) (r : R3) : List K3 := (ks.flatMap fun s => (prt m s r).map (·.2)).foldl put3D []
noncomputable def lay (m b : Int) (rs : List R3) : List K3 := rs.foldl (nxt m) [(b, false, 2)]
theorem lay_snoc (m b : Int) (rs : List R3) (r : R3) : lay m b (rs ++ [r]) = nxt m (lay m b rs) r := by simp [lay, List.foldl_append]
structure TelA (S : DStore) (n r l : Nat) (m b : Int) (rs : List R3) : Prop where
  o : S[n]? = some (.ins "Teller" (tF m b r l))
  rd : S[r]? = some (.lst (rs.map r3D))
  ly : ∃ ls : List Nat, S[l]? = some (.lst (ls.map D.ref)) ∧ ls.length = rs.length + 1 ∧ ∀ (i k : Nat), ls[i]? = some k → S[k]? = some (.sts (lay m b (rs.take i)))
  ne : r ≠ l
theorem TelA.keep {S S' : DStore} {n r l : Nat} {m b : Int} {rs : List R3} (t : TelA S n r l m b rs) (k : ∀ j c, (j = n ∨ j = r ∨ j = l ∨ ∃ ks, c = .sts ks) → S[j]? = some c → S'[j]? = some c) : TelA S' n r l m b rs :=
  ⟨k _ _ (.inl rfl) t.o, k _ _ (.inr (.inl rfl)) t.rd, let ⟨ls, a, b, c⟩ := t.ly; ⟨ls, k _ _ (.inr (.inr (.inl rfl))) a, b, fun i j h => k _ _ (.inr (.inr (.inr ⟨_, rfl⟩))) (c i j h)⟩, t.ne⟩
theorem app_get {S cs : DStore} {n : Nat} {c : Cell} (h : S[n]? = some c) : (S ++ cs)[n]? = some c := by rw [List.getElem?_append_left (List.getElem?_eq_some_iff.mp h).1]; exact h
noncomputable def tlInitC (jf : Nat) : List CS := [.fset "Teller" (.var 0) "teller_marks" (.var 1),
  .fset "Teller" (.var 0) "teller_begin" (.var 2),
  .fset "Teller" (.var 0) "teller_reads" (.lst true []),
  .fset "Teller" (.var 0) "teller_layers" (.lst true [(.dnew1S (.call jf [(.var 2)]) (.con (.bl true)))])]
/-- what stands there stays, the new one apart; the teller's own parts are new -/
noncomputable def spTlI (ds : List D) (S : DStore) (Q : QE) : Prop := ∃ (n : Nat) (m b : Int), ds = [.ref n, .int m, .int b] ∧ S[n]? = some (.ins "Teller" []) ∧
  ∀ r l S', (∀ j c, j ≠ n → S[j]? = some c → S'[j]? = some c) → TelA S' n r l m b [] → S.length ≤ r → S.length ≤ l → Q .non S'
theorem spTlI_len : ∀ ds S Q, spTlI ds S Q → ds.length = 3 := by rintro _ _ _ ⟨_, _, _, rfl, _⟩; rfl
theorem tlInit_ok {G : Fns} {jf : Nat} (hf : G.fn jf = spFirst) : ∀ ds S Q, spTlI ds S Q → wpSs G (tlInitC jf) (startD 3 ds) S { nx := fun _ S' => Q .non S', rt := Q } := by
  rintro ds S Q ⟨n, m, b, rfl, hn, h⟩
  show wpSs _ _ [some (.ref n), some (.int m), some (.int b)] _ _
  unfold tlInitC
  refine ss_split 3 (fun ρ' S' => ρ' = [some (.ref n), some (.int m), some (.int b)] ∧ S'.length = S.length + 1 ∧ S'[n]? = some (.ins "Teller" [("teller_marks", .int m), ("teller_begin", .int b), ("teller_reads", .ref S.length)]) ∧ S'[S.length]? = some (.lst []) ∧ ∀ j c, j ≠ n → S[j]? = some c → S'[j]? = some c) (fun N hN => ?_) ?_
  · have hlt : n < S.length := (List.getElem?_eq_some_iff.mp hn).1
    simp_arith only []
    refine ⟨n, [], rfl, hn, by decide, n, _, rfl, set_get hn, by rw [put_marks]; show (1 : Nat) < 1000; decide, n, _, rfl, app_get (set_get (set_get hn)), ?_, ?_⟩
    · rw [put_marks, put_begin]
      show (2 : Nat) < 1000
      decide
    · rw [put_marks, put_begin]
      simp only [List.length_set]
      rw [put_reads]
      refine hN _ _ ⟨rfl, by simp, set_get (app_get (set_get (set_get hn))), ?_, fun j c hj h => ?_⟩
      · rw [List.getElem?_set_ne (by omega)]
        simp
      · rw [List.getElem?_set_ne (Ne.symm hj)]
        refine app_get ?_
        rw [List.getElem?_set_ne (Ne.symm hj), List.getElem?_set_ne (Ne.symm hj)]
        exact h
  · rintro ρ' S1 ⟨rfl, hl, h1, h2, h3⟩
    have hlt : n < S.length := (List.getElem?_eq_some_iff.mp hn).1
    simp_arith only [hf]
    refine ⟨b, rfl, (b, false, 2), rfl, trivial, by simp, n, _, rfl, app_get (by rw [List.getElem?_set_ne (by omega)]; exact app_get h1), by show (3 : Nat) < 1000; decide, ?_⟩
    rw [put_layers]
    simp only [List.length_set, List.length_append, List.length_singleton, hl]
    refine h S.length (S.length + 1 + 1) _ (fun j c hj hjc => ?_) ⟨set_get (app_get (by rw [List.getElem?_set_ne (by omega)]; exact app_get h1)), ?_, ⟨[S.length + 1], ?_, rfl, fun i k hi => ?_⟩, by omega⟩ (Nat.le_refl _) (by omega)
    · have hj2 := (List.getElem?_eq_some_iff.mp hjc).1
      rw [List.getElem?_set_ne (Ne.symm hj)]
      refine app_get ?_
      rw [List.getElem?_set_ne (by omega)]
      exact app_get (h3 j c hj hjc)
    · rw [List.getElem?_set_ne (by omega)]
      refine app_get ?_
      rw [List.getElem?_set_ne (by omega)]
      exact app_get h2
    · rw [List.getElem?_set_ne (by omega), List.getElem?_append_right (by simp [hl])]
      simp [hl]
    · have hi0 : i = 0 := by
        rcases i with _ | i
        · rfl
        · simp at hi
      subst hi0
      simp at hi
      subst hi
      rw [List.getElem?_set_ne (by omega)]
      refine app_get ?_
      rw [List.getElem?_set_self (by simp [hl])]
      rfl
/-- the places that fit, rising -/
noncomputable def FitsOf (ks : List K3) (ns : List Int) : Prop := ns.Pairwise (· < ·) ∧ ∀ k, k ∈ ns ↔ ∃ s ∈ ks, s.1 = k
theorem sorted_uniq : ∀ {a b : List Int}, a.Pairwise (· < ·) → b.Pairwise (· < ·) → (∀ k, k ∈ a ↔ k ∈ b) → a = b
  | [], [], _, _, _ => rfl
  | [], y :: b, _, _, h => by have := (h y).mpr (by simp); simp at this
  | x :: a, [], _, _, h => by have := (h x).mp (by simp); simp at this
  | x :: a, y :: b, ha, hb, h => by
    rw [List.pairwise_cons] at ha hb
    have e : x = y := by
      have h1 := (h x).mp (by simp)
      have h2 := (h y).mpr (by simp)
      rcases List.mem_cons.mp h1 with z | z
      · exact z
      · rcases List.mem_cons.mp h2 with w | w
        · exact w.symm
        · have := hb.1 x z
          have := ha.1 y w
          omega
    subst e
    congr 1
    refine sorted_uniq ha.2 hb.2 fun k => ⟨fun hk => ?_, fun hk => ?_⟩
    · rcases List.mem_cons.mp ((h k).mp (List.mem_cons_of_mem _ hk)) with z | z
      · have := ha.1 k hk; omega
      · exact z
    · rcases List.mem_cons.mp ((h k).mpr (List.mem_cons_of_mem _ hk)) with z | z
      · have := hb.1 k hk; omega
      · exact z
theorem FitsOf.uniq {ks : List K3} {a b : List Int} (h : FitsOf ks a) (h' : FitsOf ks b) : a = b := sorted_uniq h.1 h'.1 fun k => (h.2 k).trans (h'.2 k).symm
theorem TelA.last {S : DStore} {n r l : Nat} {m b : Int} {rs : List R3} (t : TelA S n r l m b rs) : ∃ (ls : List Nat) (k : Nat), S[l]? = some (.lst (ls.map D.ref)) ∧ ls.length = rs.length + 1 ∧ atI (ls.map D.ref) (-1) = some (.ref k) ∧ S[k]? = some (.sts (lay m b rs)) := by
  obtain ⟨ls, h1, h2, h3⟩ := t.ly
  have hlt : rs.length < ls.length := by omega
  refine ⟨ls, ls[rs.length], h1, h2, ?_, ?_⟩
  · unfold atI ixN
    rw [if_neg (by omega), if_pos (by rw [List.length_map]; omega)]
    simp only [List.length_map, h2]
    rw [show (-1 + ((rs.length + 1 : Nat) : Int)).toNat = rs.length by omega]
    show (ls.map D.ref)[rs.length]? = _
    rw [List.getElem?_map, List.getElem?_eq_getElem hlt]
    rfl
  · have := h3 rs.length _ (List.getElem?_eq_getElem hlt)
    rwa [List.take_length] at this
theorem set_back {S : DStore} {n : Nat} {c d : Cell} (h : S[n]? = some c) : (S.set n d).set n c = S := by
  apply List.ext_getElem?
  intro j
  by_cases hj : n = j
  · subst hj
    rw [set_get (set_get h), h]
  · rw [List.getElem?_set_ne hj, List.getElem?_set_ne hj]
noncomputable def tlFitsC : List CS := [.lockS (.ret (.bi .tuple1 false [(.scS false (.ix (.var 1) (.con (.int 0))) (.name 1) (.skeys (.ix (.fld "Teller" (.var 0) "teller_layers") (.neg (.con (.int 1))))) [] [1])]))]
noncomputable def spFits (ds : List D) (S : DStore) (Q : QE) : Prop := ∃ (n r l : Nat) (m b : Int) (rs : List R3), ds = [.ref n] ∧ TelA S n r l m b rs ∧ (lay m b rs).length < 64 ∧ ∀ ns, FitsOf (lay m b rs) ns → Q (.tup (ns.map D.int)) S
theorem spFits_len : ∀ ds S Q, spFits ds S Q → ds.length = 1 := by rintro _ _ _ ⟨_, _, _, _, _, _, rfl, _⟩; rfl
theorem fits_ok {G : Fns} : ∀ ds S Q, spFits ds S Q → wpSs G tlFitsC (startD 2 ds) S { nx := fun _ S' => Q .non S', rt := Q } := by
  rintro ds S Q ⟨n, r, l, m, b, rs, rfl, T, h64, h⟩
  obtain ⟨ls, k, h1, h2, h3, h4⟩ := T.last
  show wpSs _ _ [some (.ref n), none] _ _
  unfold tlFitsC
  have nk : n ≠ k := fun z => by
    subst z
    cases T.o.symm.trans h4
  have lk : l ≠ k := fun z => by
    subst z
    cases h1.symm.trans h4
  simp_arith only []
  refine ⟨k, _, h4, n, _, .ref l, rfl, by rw [List.getElem?_set_ne (Ne.symm nk)]; exact T.o, tF_layers, ls.map D.ref, .ref k, ?_, h3, k, _, rfl, set_get h4, by simpa using h64, ?_⟩
  · simp only [seqOf, lstOf, List.getElem?_set_ne (Ne.symm lk), h1]
  refine gather_map k3D (fun s => D.int s.1) (Nat.le_trans (Nat.le_of_lt h64) (by decide)) trivial (fun s hs N hN => ⟨_, _, rfl, rfl, s.1, rfl, hN⟩) fun ns ns' e hp hm => ?_
  rw [set_back h4]
  have en : ns = (lay m b rs).map (·.1) := by
    have := congrArg (List.filterMap inOf) e
    simpa [List.filterMap_map, Function.comp_def, inOf, List.filterMap_some, List.filterMap_eq_map] using this.symm
  refine h ns' ⟨hp, fun k => ?_⟩
  rw [hm k, en, List.mem_map]
noncomputable def tlPlaceC (jf : Nat) : List CS := [.asg (.name 1) (.meth "Teller" (.var 0) "fits" jf []),
  .ret (.ite (.ccmp .NotEq (.var 1) (.tup [])) (.bin .FloorDiv false (.bin .Add false (.ix (.var 1) (.con (.int 0))) (.ix (.var 1) (.neg (.con (.int 1))))) (.con (.int 2))) (.con .non))]
noncomputable def midD (ns : List Int) : D := if ns = [] then .non else .int ((ns.headD 0 + ns.getLastD 0) / 2)
noncomputable def spPlace (ds : List D) (S : DStore) (Q : QE) : Prop := ∃ (n r l : Nat) (m b : Int) (rs : List R3), ds = [.ref n] ∧ TelA S n r l m b rs ∧ (lay m b rs).length < 64 ∧ ∀ ns, FitsOf (lay m b rs) ns → Q (midD ns) S
theorem spPlace_len : ∀ ds S Q, spPlace ds S Q → ds.length = 1 := by rintro _ _ _ ⟨_, _, _, _, _, _, rfl, _⟩; rfl
theorem purs_intsT : ∀ ns : List Int, purs (ns.map D.int) = some (ns.map PyData.int)
  | [] => rfl
  | n :: ns => by
    show ((pur (D.int n)).bind fun p => (purs (ns.map D.int)).map (p :: ·)) = _
    rw [purs_intsT ns]
    rfl
theorem lay_intsT : ∀ xs : List Int, PyData.canLayAll0 (xs.map PyData.int) = true
  | [] => rfl
  | x :: xs => by simp only [List.map_cons, PyData.canLayAll0, PyData.canLay0, lay_intsT xs, Bool.and_self]
theorem dep_intsT : ∀ xs : List Int, PyData.depthAll (xs.map PyData.int) = 0
  | [] => rfl
  | x :: xs => by simp only [List.map_cons, PyData.depthAll, PyData.depth, dep_intsT xs, Nat.max_self]
theorem shaped_ints (ns : List Int) : SeqAt.shaped (.tuple (ns.map PyData.int)) = true := by
  simp only [SeqAt.shaped, PyData.canLay0, PyData.depth, lay_intsT, dep_intsT, Bool.true_and]
  decide
theorem ne_nilT {S : DStore} {ns : List Int} {Q : Bool → Prop} (h : Q (!ns.isEmpty)) : cmpD .NotEq S (.tup (ns.map D.int)) (.tup []) Q := by
  refine ⟨.tuple (ns.map PyData.int), .tuple [], ?_, rfl, shaped_ints ns, rfl, ?_⟩
  · show ((purs (ns.map D.int)).map PyData.tuple) = _
    rw [purs_intsT]
    rfl
  · cases ns <;> exact h
theorem head_last {ns : List Int} (h : ns ≠ []) : atI (ns.map D.int) 0 = some (.int (ns.headD 0)) ∧ atI (ns.map D.int) (-1) = some (.int (ns.getLastD 0)) := by
  cases ns with
  | nil => exact absurd rfl h
  | cons x ns =>
    refine ⟨by simp [a_0], ?_⟩
    have := at_m1 (gs := x :: ns) (by simp)
    rw [this]
    congr 2
    unfold gI
    rw [List.getD_eq_getElem?_getD, show (((x :: ns).length : Int) - 1).toNat = ns.length by simp, List.getLastD_eq_getLast?, List.getLast?_eq_getElem?]
    simp
theorem place_ok {G : Fns} {jf : Nat} (hf : G.fn jf = spFits) : ∀ ds S Q, spPlace ds S Q → wpSs G (tlPlaceC jf) (startD 2 ds) S { nx := fun _ S' => Q .non S', rt := Q } := by
  rintro ds S Q ⟨n, r, l, m, b, rs, rfl, T, h64, h⟩
  show wpSs _ _ [some (.ref n), none] _ _
  unfold tlPlaceC
  simp_arith only [hf]
  refine ⟨n, _, rfl, T.o, tF_fits, n, r, l, m, b, rs, rfl, T, h64, fun ns hF => ?_⟩
  have hh := h ns hF
  refine ne_nilT ?_
  unfold midD at hh
  by_cases e : ns = []
  · subst e
    exact hh
  · rw [if_neg e] at hh
    have e2 : (!ns.isEmpty) = true := by cases ns <;> simp_all
    rw [if_pos e2]
    obtain ⟨a1, a2⟩ := head_last e
    refine ⟨_, _, rfl, a1, _, _, rfl, a2, ⟨by decide, by decide⟩, ?_⟩
    show Q (.int ((ns.headD 0 + ns.getLastD 0).fdiv 2)) S
    rw [fdiv_e (by decide)]
    exact hh
noncomputable def tlTakeC (jp : Nat) : List CS := [.asg (.name 2) .dnewS,
  .lockS (.for_ (.name 3) (.skeys (.ix (.fld "Teller" (.var 0) "teller_layers") (.neg (.con (.int 1))))) [.for_ (.tup [(.name 4), (.name 5)]) (.seq (.call jp [(.fld "Teller" (.var 0) "teller_marks"), (.var 3), (.var 1)])) [.asg (.sput (.var 2) (.var 5)) (.con (.bl true))]]),
  .append (.fld "Teller" (.var 0) "teller_reads") (.var 1),
  .append (.fld "Teller" (.var 0) "teller_layers") (.var 2),
  .ret (.cmp .Gt (.lenS (.var 2)) (.con (.int 0)))]
/-- all but the teller's two lists stays -/
noncomputable def Kq (r l : Nat) (S S' : DStore) : Prop := ∀ j c, j ≠ r → j ≠ l → S[j]? = some c → S'[j]? = some c
noncomputable def spTk (ds : List D) (S : DStore) (Q : QE) : Prop := ∃ (n r l : Nat) (m b : Int) (rs : List R3) (x : R3), ds = [.ref n, r3D x] ∧ TelA S n r l m b rs ∧ m ≠ 0 ∧ rs.length ≤ 100000 ∧ (lay m b (rs ++ [x])).length ≤ 100000 ∧
  ∀ S', Kq r l S S' → S.length ≤ S'.length → TelA S' n r l m b (rs ++ [x]) → Q (.bl (!(lay m b (rs ++ [x])).isEmpty)) S'
theorem spTk_len : ∀ ds S Q, spTk ds S Q → ds.length = 2 := by rintro _ _ _ ⟨_, _, _, _, _, _, _, rfl, _⟩; rfl
theorem put3D_len (ks : List K3) (k : K3) : ks.length ≤ (put3D ks k).length := by
  unfold put3D
  split
  · exact Nat.le_refl _
  · simp
theorem fold_len : ∀ (l ks : List K3), ks.length ≤ (l.foldl put3D ks).length
  | [], ks => Nat.le_refl _
  | k :: l, ks => Nat.le_trans (put3D_len ks k) (fold_len l _)
/-- the turn over the parts of a state -/
theorem tk_inner {G : Fns} {qs : List ((Int × Int) × K3)} {n d q : Nat} {x : R3} {s : K3} {ks : List K3} {d4 d5 : Option D} {S1 : DStore} {rt : QE} {nx N : DEnv → DStore → Prop}
    (hq : S1[q]? = some (.lst (qs.map prD))) (hdq : q ≠ d) (hd : S1[d]? = some (.sts ks)) (hl : ((qs.map (·.2)).foldl put3D ks).length ≤ 100000)
    (hN : ∀ d4 d5 S', (∀ j c, j ≠ d → S1[j]? = some c → S'[j]? = some c) → S'.length = S1.length → S'[d]? = some (.sts ((qs.map (·.2)).foldl put3D ks)) → N [some (.ref n), some (r3D x), some (.ref d), some (k3D s), d4, d5] S') :
    wpWalk (qs.map prD) (fun S' => S'[q]? = some (.lst (qs.map prD))) [some (.ref n), some (r3D x), some (.ref d), some (k3D s), d4, d5] S1
      (forTurn G (.tup [(.name 4), (.name 5)]) [.asg (.sput (.var 2) (.var 5)) (.con (.bl true))] rt nx) N := by
  refine walk_list (fun i ρ S' => ∃ d4 d5, ρ = [some (.ref n), some (r3D x), some (.ref d), some (k3D s), d4, d5] ∧ (∀ j c, j ≠ d → S1[j]? = some c → S'[j]? = some c) ∧ S'.length = S1.length ∧ S'[d]? = some (.sts ((((qs.take i)).map (·.2)).foldl put3D ks)))
    ⟨_, _, rfl, fun _ _ _ h => h, rfl, by simpa using hd⟩ (fun i ρ S' ⟨_, _, _, hf, _⟩ => hf q _ hdq hq) ?_ ?_
  · rintro i y ρ S2 hy ⟨e4, e5, rfl, hf, hlen, hc⟩
    rw [List.getElem?_map, Option.map_eq_some_iff] at hy
    obtain ⟨z, hz, rfl⟩ := hy
    unfold DL.forTurn prD
    simp_arith only []
    refine ⟨trivial, d, _, z.2, rfl, rfl, trivial, hc, ?_, _, _, rfl, fun j c hj h => by rw [List.getElem?_set_ne (Ne.symm hj)]; exact hf j c hj h, by simpa using hlen, ?_⟩
    · refine Nat.lt_of_le_of_lt (Nat.le_trans ?_ hl) (by decide)
      conv => rhs; rw [← List.take_append_drop i qs, List.map_append, List.foldl_append]
      exact fold_len _ _
    · rw [set_get hc, List.take_succ, hz]
      simp [List.foldl_append]
  · rintro ρ S2 ⟨e4, e5, rfl, hf, hlen, hc⟩
    rw [List.length_map, List.take_length] at hc
    exact hN _ _ _ hf hlen hc
noncomputable def nxtOf (m : Int) (x : R3) (l : List K3) : List K3 := (l.flatMap fun s => (prt m s x).map (·.2)).foldl put3D []
theorem nxt_eq (m : Int) (x : R3) (l : List K3) : nxt m l x = nxtOf m x l := rfl
theorem nxtOf_snoc (m : Int) (x : R3) (l : List K3) (s : K3) : nxtOf m x (l ++ [s]) = ((prt m s x).map (·.2)).foldl put3D (nxtOf m x l) := by
  simp [nxtOf, List.foldl_append]
theorem nxtOf_le (m : Int) (x : R3) (l : List K3) (i : Nat) : (nxtOf m x (l.take i)).length ≤ (nxtOf m x l).length := by
  conv => rhs; rw [← List.take_append_drop i l]
  unfold nxtOf
  rw [List.flatMap_append, List.foldl_append]
  exact fold_len _ _
theorem refs_inj : ∀ {a b : List Nat}, a.map D.ref = b.map D.ref → a = b
  | [], [], _ => rfl
  | [], _ :: _, h => by simp at h
  | _ :: _, [], h => by simp at h
  | x :: a, y :: b, h => by
    simp only [List.map_cons, List.cons.injEq, D.ref.injEq] at h
    rw [h.1, refs_inj h.2]
theorem pos_len {α : Type} (l : List α) : decide (0 < (l.length : Int)) = !l.isEmpty := by
  cases l with
  | nil => rfl
  | cons x l => exact decide_eq_true (by simp only [List.length_cons]; omega)
theorem take_ok' {G : Fns} {jp : Nat} (hp : G.fn jp = spPrt) : ∀ ds S Q, spTk ds S Q → wpSs G (tlTakeC jp) (startD 6 ds) S { nx := fun _ S' => Q .non S', rt := Q } := by
  rintro ds S Q ⟨n, r, l, m, b, rs, x, rfl, T, hm, hrs, hlen, h⟩
  obtain ⟨ls, k, h1, h2, h3, h4⟩ := T.last
  have nk : n ≠ k := fun z => by
    subst z
    cases T.o.symm.trans h4
  have lk : l ≠ k := fun z => by
    subst z
    cases h1.symm.trans h4
  have rk : r ≠ k := fun z => by
    subst z
    cases T.rd.symm.trans h4
  have ltn : n < S.length := (List.getElem?_eq_some_iff.mp T.o).1
  have ltk : k < S.length := (List.getElem?_eq_some_iff.mp h4).1
  have ltl : l < S.length := (List.getElem?_eq_some_iff.mp h1).1
  have ltr : r < S.length := (List.getElem?_eq_some_iff.mp T.rd).1
  rw [lay_snoc, nxt_eq] at hlen
  show wpSs _ _ [some (.ref n), some (r3D x), none, none, none, none] _ _
  unfold tlTakeC
  simp_arith only [hp]
  have nl : n ≠ l := fun z => by
    subst z
    cases T.o.symm.trans h1
  refine ⟨k, _, app_get h4, n, _, .ref l, rfl, by rw [List.getElem?_set_ne (Ne.symm nk)]; exact app_get T.o, tF_layers, ls.map D.ref, .ref k, ?_, h3, k, _, rfl, set_get (app_get h4), ?_⟩
  · simp only [seqOf, lstOf, List.getElem?_set_ne (Ne.symm lk), app_get h1]
  have hd0 : ((S ++ [Cell.sts []]).set k (.stl (lay m b rs)))[S.length]? = some (.sts []) := by
    rw [List.getElem?_set_ne (by omega)]
    simp
  have hn0 : ((S ++ [Cell.sts []]).set k (.stl (lay m b rs)))[n]? = some (.ins "Teller" (tF m b r l)) := by
    rw [List.getElem?_set_ne (Ne.symm nk)]
    exact app_get T.o
  have hln : ((S ++ [Cell.sts []]).set k (.stl (lay m b rs))).length = S.length + 1 := by simp
  have hfr : ∀ j c, j ≠ k → S[j]? = some c → ((S ++ [Cell.sts []]).set k (.stl (lay m b rs)))[j]? = some c := fun j c hj hc => by
    rw [List.getElem?_set_ne (Ne.symm hj)]
    exact app_get hc
  have hk0 : ((S ++ [Cell.sts []]).set k (.stl (lay m b rs)))[k]? = some (.stl (lay m b rs)) := set_get (app_get h4)
  generalize (S ++ [Cell.sts []]).set k (.stl (lay m b rs)) = S1 at *
  refine walk_list (fun i ρ S' => ∃ d3 d4 d5, ρ = [some (.ref n), some (r3D x), some (.ref S.length), d3, d4, d5] ∧ (∀ j c, j ≠ S.length → S1[j]? = some c → S'[j]? = some c) ∧ S1.length ≤ S'.length ∧ S'[S.length]? = some (.sts (nxtOf m x ((lay m b rs).take i))))
    ⟨_, _, _, rfl, fun _ _ _ h => h, Nat.le_refl _, by simpa [nxtOf] using hd0⟩ (fun _ _ _ _ => trivial) ?_ ?_
  · rintro i y ρ S2 hy ⟨d3, d4, d5, rfl, hf, hl2, hc⟩
    rw [List.getElem?_map, Option.map_eq_some_iff] at hy
    obtain ⟨s, hs, rfl⟩ := hy
    unfold DL.forTurn
    simp_arith only [hp]
    refine ⟨n, _, .int m, rfl, hf n _ (by omega) hn0, tF_marks, m, s, x, rfl, hm, fun S3 hk3 hl3 hq3 => ⟨_, hq3, ?_⟩⟩
    refine tk_inner hq3 (by omega) (hk3 _ _ hc) ?_ fun e4 e5 S4 hf4 hl4 hd4 => ⟨_, _, _, rfl, fun j c hj hjc => hf4 j c hj (hk3 _ _ (hf j c hj hjc)), by omega, ?_⟩
    · rw [← nxtOf_snoc]
      refine Nat.le_trans ?_ hlen
      have := nxtOf_le m x (lay m b rs) (i + 1)
      rwa [List.take_succ, hs] at this
    · rw [hd4, ← nxtOf_snoc, List.take_succ, hs]
      rfl
  · rintro ρ S2 ⟨d3, d4, d5, rfl, hf, hl2, hc⟩
    rw [List.length_map, List.take_length] at hc
    have g : ∀ j c, S[j]? = some c → (S2.set k (.sts (lay m b rs)))[j]? = some c := fun j c hj => by
      have hjl := (List.getElem?_eq_some_iff.mp hj).1
      by_cases e : j = k
      · subst e
        rw [set_get (hf j _ (by omega) hk0), ← h4, hj]
      · rw [List.getElem?_set_ne (Ne.symm e)]
        exact hf j c (by omega) (hfr j c e hj)
    have gd : (S2.set k (.sts (lay m b rs)))[S.length]? = some (.sts (nxtOf m x (lay m b rs))) := by
      rw [List.getElem?_set_ne (by omega)]
      exact hc
    have gl : S.length < (S2.set k (.sts (lay m b rs))).length := by
      rw [List.length_set]
      omega
    simp_arith only []
    generalize S2.set k (.sts (lay m b rs)) = S3 at *
    have rn : r ≠ n := fun z => by
      subst z
      cases T.o.symm.trans T.rd
    have ln : l ≠ n := fun z => nl z.symm
    refine ⟨n, _, .ref r, rfl, g _ _ T.o, tF_reads, r, rfl, lat (g _ _ T.rd), _, g _ _ T.rd, ?_, n, _, .ref l, rfl, by rw [List.getElem?_set_ne rn]; exact g _ _ T.o, tF_layers, l, rfl, ⟨_, by rw [List.getElem?_set_ne T.ne]; exact g _ _ h1⟩, _, by rw [List.getElem?_set_ne T.ne]; exact g _ _ h1, ?_, S.length, nxtOf m x (lay m b rs), rfl, ?_, ?_⟩
    · rw [List.length_map]
      exact Nat.lt_of_le_of_lt hrs (by decide)
    · rw [List.length_map, h2]
      exact Nat.lt_of_le_of_lt (Nat.succ_le_succ hrs) (by decide)
    · unfold stsOf
      rw [List.getElem?_set_ne (by omega), List.getElem?_set_ne (by omega), gd]
    · have hh := h ((S3.set r (.lst (rs.map r3D ++ [r3D x]))).set l (.lst (ls.map D.ref ++ [.ref S.length]))) (fun j c hjr hjl hj => ?_) (by simp; omega) ⟨?_, ?_, ⟨ls ++ [S.length], ?_, by simp [h2], fun i q hi => ?_⟩, T.ne⟩
      · rw [lay_snoc, nxt_eq] at hh
        rw [pos_len]
        exact hh
      · rw [List.getElem?_set_ne (Ne.symm hjl), List.getElem?_set_ne (Ne.symm hjr)]
        exact g j c hj
      · rw [List.getElem?_set_ne ln, List.getElem?_set_ne rn]
        exact g _ _ T.o
      · rw [List.getElem?_set_ne (Ne.symm T.ne), set_get (g _ _ T.rd), List.map_append]
        rfl
      · rw [set_get (by rw [List.getElem?_set_ne T.ne]; exact g _ _ h1), List.map_append]
        rfl
      · obtain ⟨ls', q1, q2, q3⟩ := T.ly
        have els : ls' = ls := by
          have := q1.symm.trans h1
          simp only [Option.some.injEq, Cell.lst.injEq] at this
          exact refs_inj this
        subst els
        by_cases hi2 : i < ls'.length
        · rw [List.getElem?_append_left hi2] at hi
          have hc2 := q3 i q hi
          have e1 : (rs ++ [x]).take i = rs.take i := by rw [List.take_append_of_le_length (by omega)]
          rw [e1, List.getElem?_set_ne (fun z => by rw [← z, h1] at hc2; cases hc2), List.getElem?_set_ne (fun z => by rw [← z, T.rd] at hc2; cases hc2)]
          exact g _ _ hc2
        · rw [List.getElem?_append_right (by omega)] at hi
          have hi3 : i - ls'.length = 0 := by
            rcases e : i - ls'.length with _ | z
            · rfl
            · rw [e] at hi; simp at hi
          rw [hi3] at hi
          simp at hi
          subst hi
          have e1 : (rs ++ [x]).take i = rs ++ [x] := List.take_of_length_le (by simp; omega)
          rw [e1, lay_snoc, nxt_eq, List.getElem?_set_ne (by omega), List.getElem?_set_ne (by omega)]
          exact gd
end DL
namespace DL
open PySem PySem.Spec PyProof.Rows L2
noncomputable abbrev PS := Int × (Bool × Int) × (Bool × Int)
noncomputable def onwR (q : Bool × Int) (a o : Int) : Option (Bool × Int) := if (a ≠ 0 ∧ q.1 = true) ∨ (o ≠ 0 ∧ q.2 < 2) then none else some (decide (a ≠ 0), if o ≠ 0 then 0 else if q.2 + 1 < 2 then q.2 + 1 else 2)
noncomputable def pr0 : List PS := [(0, (false, 0), (false, 0)), (0, (false, 1), (false, 1)), (0, (false, 1), (true, 2)), (0, (false, 2), (false, 2)), (0, (false, 2), (true, 1)), (0, (true, 0), (true, 0)), (0, (true, 1), (false, 2)), (0, (true, 1), (true, 1)), (0, (true, 2), (false, 1)), (0, (true, 2), (true, 2))]
noncomputable def pr1 : List PS := [(1, (false, 0), (false, 1)), (1, (false, 0), (true, 2)), (1, (false, 1), (false, 0)), (1, (false, 2), (true, 0)), (1, (true, 0), (false, 2)), (1, (true, 2), (false, 0))]
noncomputable def pr2 : List PS := [(2, (true, 0), (true, 0))]
noncomputable def turnP (p : PS) : PS := (0 - p.1, p.2.2, p.2.1)
noncomputable def PRs : List PS := pr0 ++ pr1 ++ pr2 ++ pr1.map turnP ++ pr2.map turnP
noncomputable def stepP (p : PS) (a o a' o' : Int) : Bool := match onwR p.2.1 a o, onwR p.2.2 a' o' with
  | some q, some q' => if (p.1 + a' - a + o' - o) % 4 = 0 then PRs.contains (p.1 + a' - a, q, q') else true
  | _, _ => true
theorem step_all : (PRs.all fun p => st3.all fun a => st3.all fun o => st3.all fun a' => st3.all fun o' => stepP p a o a' o') = true := by decide +kernel
noncomputable def PRel (s t : K3) : Prop := (t.1 - s.1, s.2, t.2) ∈ PRs
theorem inS_mem {i : Int} (h : inS i = true) : i ∈ st3 := by
  unfold inS at h
  simp only [Bool.or_eq_true, beq_iff_eq] at h
  rcases h with (h | h) | h <;> simp [st3, h]
theorem onw_R {s s' : K3} {a o : Int} (h : onw s (s.1 + a) o = some s') : a ∈ st3 ∧ o ∈ st3 ∧ s'.1 = s.1 + a ∧ onwR s.2 a o = some s'.2 := by
  have e : s.1 + a - s.1 = a := by omega
  unfold onw at h
  rw [e] at h
  split at h
  · cases h
  · rename_i h1
    split at h
    · cases h
    · rename_i h2
      cases h
      have h3 : inS a = true := by cases z : inS a <;> simp_all
      have h4 : inS o = true := by cases z : inS o <;> simp_all
      refine ⟨inS_mem h3, inS_mem h4, rfl, ?_⟩
      unfold onwR
      rw [if_neg h2]
theorem ph_inj {i j : Int} (hi : 0 ≤ i ∧ i < 4) (hj : 0 ≤ j ∧ j < 4) (h1 : (phT i).1 = (phT j).1) (h2 : (phT i).2 = (phT j).2) : i = j := by
  have e1 : i = 0 ∨ i = 1 ∨ i = 2 ∨ i = 3 := by omega
  have e2 : j = 0 ∨ j = 1 ∨ j = 2 ∨ j = 3 := by omega
  rcases e1 with rfl | rfl | rfl | rfl <;> rcases e2 with rfl | rfl | rfl | rfl <;> first | rfl | (exfalso; revert h1 h2; decide)
theorem rd_mod {m m' p o p' o' : Int} (h : rdT m p o = rdT m' p' o') : (p + o) % 4 = (p' + o') % 4 := by
  unfold rdT at h
  simp only [Prod.mk.injEq] at h
  exact ph_inj (by omega) (by omega) h.1 h.2.1
theorem prel_step {s t s' t' : K3} {a o a' o' : Int} (h : PRel s t) (h1 : onw s (s.1 + a) o = some s') (h2 : onw t (t.1 + a') o' = some t') (h3 : (s.1 + a + o) % 4 = (t.1 + a' + o') % 4) : PRel s' t' := by
  obtain ⟨ha, ho, e1, r1⟩ := onw_R h1
  obtain ⟨ha', ho', e2, r2⟩ := onw_R h2
  have z := List.all_eq_true.mp (List.all_eq_true.mp (List.all_eq_true.mp (List.all_eq_true.mp (List.all_eq_true.mp step_all _ h) a ha) o ho) a' ha') o' ho'
  unfold stepP at z
  simp only [r1, r2] at z
  rw [if_pos (by omega)] at z
  unfold PRel
  rw [e1, e2, show t.1 + a' - (s.1 + a) = t.1 - s.1 + a' - a by omega]
  simpa using z
theorem mem_prt {m : Int} {s : K3} {r : R3} {q : (Int × Int) × K3} : q ∈ prt m s r ↔ ∃ a ∈ st3, ∃ o ∈ st3, onw s (s.1 + a) o = some q.2 ∧ rdT m (s.1 + a) o = r ∧ q.1 = (s.1 + a, o) := by
  unfold prt
  simp only [List.mem_flatMap, List.mem_filterMap]
  constructor
  · rintro ⟨a, ha, o, ho, h⟩
    unfold prt1 at h
    split at h
    · rename_i t ht
      split at h
      · rename_i hr
        cases h
        exact ⟨a, ha, o, ho, ht, hr, rfl⟩
      · cases h
    · cases h
  · rintro ⟨a, ha, o, ho, h1, h2, h3⟩
    refine ⟨a, ha, o, ho, ?_⟩
    unfold prt1
    rw [h1]
    simp only
    rw [if_pos h2, ← h3]
theorem mem_put3 (ks : List K3) (k x : K3) : x ∈ put3D ks k ↔ x ∈ ks ∨ x = k := by
  unfold put3D
  split
  · rename_i h
    constructor
    · exact .inl
    · rintro (h1 | rfl)
      · exact h1
      · exact h
  · simp
theorem mem_fold : ∀ (l ks : List K3) (x : K3), x ∈ l.foldl put3D ks ↔ x ∈ ks ∨ x ∈ l
  | [], ks, x => by simp
  | k :: l, ks, x => by
    rw [List.foldl_cons, mem_fold l, mem_put3]
    simp only [List.mem_cons, or_assoc]
theorem mem_nxt {m : Int} {ks : List K3} {r : R3} {t : K3} : t ∈ nxt m ks r ↔ ∃ s ∈ ks, ∃ q ∈ prt m s r, q.2 = t := by
  unfold nxt
  rw [mem_fold]
  simp only [List.not_mem_nil, false_or, List.mem_flatMap, List.mem_map]
theorem put_nd {ks : List K3} (h : ks.Nodup) (k : K3) : (put3D ks k).Nodup := by
  unfold put3D
  split
  · exact h
  · rename_i hn
    rw [List.nodup_append]
    refine ⟨h, by simp, fun a ha c hc => ?_⟩
    simp at hc
    subst hc
    exact fun z => hn (z ▸ ha)
theorem fold_nd : ∀ (l ks : List K3), ks.Nodup → (l.foldl put3D ks).Nodup
  | [], _, h => h
  | k :: l, ks, h => fold_nd l _ (put_nd h k)
theorem fold_self : ∀ (l ks : List K3), (ks ++ l).Nodup → l.foldl put3D ks = ks ++ l
  | [], ks, _ => by simp
  | k :: l, ks, h => by
    have h1 : k ∉ ks := fun z => by
      rw [List.nodup_append] at h
      exact h.2.2 k z k (by simp) rfl
    rw [List.foldl_cons, show put3D ks k = ks ++ [k] by unfold put3D; rw [if_neg h1], fold_self l _ (by simpa using h)]
    simp
theorem lay_nd (m b : Int) (rs : List R3) : (lay m b rs).Nodup := by
  rcases List.eq_nil_or_concat rs with rfl | ⟨rs', r, rfl⟩
  · simp [lay]
  · rw [List.concat_eq_append, lay_snoc]
    exact fold_nd _ _ List.nodup_nil
theorem lay_nil (m b : Int) : lay m b [] = [(b, false, 2)] := rfl
theorem lay_pair (m b : Int) : ∀ (k : Nat) (rs : List R3), rs.length = k → ∀ s ∈ lay m b rs, ∀ t ∈ lay m b rs, PRel s t := by
  intro k
  induction k with
  | zero =>
    intro rs h s hs t ht
    rw [List.eq_nil_of_length_eq_zero h, lay_nil, List.mem_singleton] at hs ht
    subst hs ht
    unfold PRel
    rw [show b - b = 0 by omega]
    show ((0 : Int), (false, (2 : Int)), (false, (2 : Int))) ∈ PRs
    decide +kernel
  | succ k ih =>
    intro rs h s hs t ht
    rcases List.eq_nil_or_concat rs with rfl | ⟨rs', r, rfl⟩
    · simp at h
    · rw [List.concat_eq_append] at h hs ht
      rw [lay_snoc, mem_nxt] at hs ht
      obtain ⟨s0, hs0, q, hq, rfl⟩ := hs
      obtain ⟨t0, ht0, p, hp, rfl⟩ := ht
      obtain ⟨a, _, o, _, h1, h2, _⟩ := mem_prt.mp hq
      obtain ⟨a', _, o', _, h3, h4, _⟩ := mem_prt.mp hp
      exact prel_step (ih rs' (by simpa using h) s0 hs0 t0 ht0) h1 h3 (rd_mod (h2.trans h4.symm))
theorem pr_all : (PRs.all fun p => decide (-2 ≤ p.1 ∧ p.1 ≤ 2) && (p.2.2.2 == 0 || p.2.2.2 == 1 || p.2.2.2 == 2)) = true := by decide +kernel
theorem prel_near {s t : K3} (h : PRel s t) : -2 ≤ t.1 - s.1 ∧ t.1 - s.1 ≤ 2 ∧ (t.2.2 = 0 ∨ t.2.2 = 1 ∨ t.2.2 = 2) := by
  have z := List.all_eq_true.mp pr_all _ h
  simp only [Bool.and_eq_true, decide_eq_true_eq, Bool.or_eq_true, beq_iff_eq] at z
  exact ⟨z.1.1, z.1.2, by omega⟩
noncomputable def box5 (p : Int) : List K3 := [p - 2, p - 1, p, p + 1, p + 2].flatMap fun x => [false, true].flatMap fun c => [(x, c, (0 : Int)), (x, c, 1), (x, c, 2)]
theorem mem_box5 {p : Int} {s : K3} (h1 : -2 ≤ s.1 - p) (h2 : s.1 - p ≤ 2) (h3 : s.2.2 = 0 ∨ s.2.2 = 1 ∨ s.2.2 = 2) : s ∈ box5 p := by
  obtain ⟨x, c, j⟩ := s
  unfold box5
  refine List.mem_flatMap.mpr ⟨x, ?_, List.mem_flatMap.mpr ⟨c, by cases c <;> simp, ?_⟩⟩
  · simp only at h1 h2
    simp only [List.mem_cons, List.not_mem_nil, or_false]
    omega
  · simp only at h3
    rcases h3 with rfl | rfl | rfl <;> simp
theorem lay_len (m b : Int) (rs : List R3) : (lay m b rs).length ≤ 30 := by
  cases e : lay m b rs with
  | nil => simp
  | cons s0 l =>
    have h0 : s0 ∈ lay m b rs := by rw [e]; simp
    rw [← e]
    exact nodup_len (M := box5 s0.1) (lay_nd m b rs) fun t ht => by
      obtain ⟨i1, i2, i3⟩ := prel_near (lay_pair m b _ rs rfl s0 h0 t ht)
      exact mem_box5 i1 i2 i3
theorem lay64 (m b : Int) (rs : List R3) : (lay m b rs).length < 64 := Nat.lt_of_le_of_lt (lay_len m b rs) (by decide)
theorem lay100k (m b : Int) (rs : List R3) : (lay m b rs).length ≤ 100000 := Nat.le_trans (lay_len m b rs) (by decide)
end DL
namespace DL
open PySem PySem.Spec PyProof.Rows L2
noncomputable def liveF (m e : Int) : List R3 → K3 → Bool
  | [], s => s.1 == e
  | r :: rs, s => (prt m s r).any fun q => liveF m e rs q.2
noncomputable def alv (m b e : Int) (rs : List R3) (i : Nat) : List K3 := (lay m b (rs.take i)).filter (liveF m e (rs.drop i))
theorem gath_f {α : Type} {xs : List α} (mk : α → D) (keep : α → Bool) (f : α → D) {I : DStore → Prop} {S : DStore} {turn : D → DStore → (Option D → DStore → Prop) → Prop} {Q : List D → DStore → Prop} (hl : xs.length ≤ sizeLine) (hI : I S)
    (hs : ∀ x ∈ xs, ∀ N : Option D → DStore → Prop, (keep x = true → N (some (f x)) S) → (keep x = false → N none S) → turn (mk x) S N) (hQ : Q ((xs.filter keep).map f) S) : wpGather (xs.map mk) I S turn Q := by
  refine gather_inv (fun i acc S' => S' = S ∧ acc = ((xs.take i).filter keep).map f) (by simpa using hl) ⟨rfl, by simp⟩ (fun i acc S' h => ⟨h.1 ▸ hI, by rw [h.2, List.length_map]; exact Nat.le_trans (List.length_filter_le _ _) (by simp; omega)⟩) (fun i x acc S' hx hp N h1 h2 => ?_) (fun acc S' hp => ?_)
  · obtain ⟨rfl, rfl⟩ := hp
    rw [List.getElem?_map] at hx
    obtain ⟨y, hy, rfl⟩ := Option.map_eq_some_iff.mp hx
    refine hs y (List.mem_of_getElem? hy) N (fun k => h1 _ _ ⟨rfl, ?_⟩) (fun k => h2 _ ⟨rfl, ?_⟩)
    · rw [List.take_add_one, hy, List.filter_append, List.map_append]; simp [k]
    · rw [List.take_add_one, hy, List.filter_append, List.map_append]; simp [k]
  · obtain ⟨rfl, rfl⟩ := hp
    rw [List.length_map, List.take_length]; exact hQ
theorem nd_take {α : Type} {l : List α} {i : Nat} {x : α} (nd : l.Nodup) (h : l[i]? = some x) : x ∉ l.take i := by
  obtain ⟨h1, h2⟩ := List.getElem?_eq_some_iff.mp h
  have e : l = l.take i ++ l.drop i := (List.take_append_drop i l).symm
  rw [List.drop_eq_getElem_cons h1, h2] at e
  rw [e, List.nodup_append] at nd
  exact fun z => nd.2.2 x z x (by simp) rfl
theorem k3s_inj : ∀ {a b : List K3}, a.map k3D = b.map k3D → a = b
  | [], [], _ => rfl
  | [], _ :: _, h => by simp at h
  | _ :: _, [], h => by simp at h
  | (x1, x2, x3) :: a, (y1, y2, y3) :: b, h => by
    simp only [List.map_cons, List.cons.injEq, k3D, D.tup.injEq, D.int.injEq, D.bl.injEq] at h
    obtain ⟨⟨rfl, rfl, rfl, _⟩, h2⟩ := h
    rw [k3s_inj h2]
theorem prt_len (m : Int) (s : K3) (r : R3) : (prt m s r).length ≤ 9 := fl_le m s r st3
theorem alv_live {m b e : Int} {rs : List R3} {i : Nat} {r : R3} (hr : rs[i]? = some r) {s : K3} (hs : s ∈ lay m b (rs.take i)) : ((prt m s r).map fun q => decide (q.2 ∈ alv m b e rs (i + 1))).any id = liveF m e (rs.drop i) s := by
  have hd : rs.drop i = r :: rs.drop (i + 1) := by
    obtain ⟨h1, h2⟩ := List.getElem?_eq_some_iff.mp hr
    rw [← h2]
    exact List.drop_eq_getElem_cons h1
  have ht : rs.take (i + 1) = rs.take i ++ [r] := by rw [List.take_add_one, hr]; rfl
  rw [hd]
  show _ = (prt m s r).any fun q => liveF m e (rs.drop (i + 1)) q.2
  rw [List.any_map, Bool.eq_iff_iff, List.any_eq_true, List.any_eq_true]
  refine exists_congr fun q => and_congr_right fun hq => ?_
  simp only [Function.comp, id, decide_eq_true_eq, alv, List.mem_filter]
  refine ⟨fun h => h.2, fun h => ⟨?_, h⟩⟩
  rw [ht, lay_snoc]
  exact mem_nxt.mpr ⟨s, hs, q, hq, rfl⟩
noncomputable def tlAliveC (jp : Nat) : List CS := [.lockS (.asg (.name 2) (.dcS (.var 5) (.con (.bl true)) (.name 5) (.skeys (.ix (.fld "Teller" (.var 0) "teller_layers") (.neg (.con (.int 1))))) [(.ccmp .Eq (.ix (.var 5) (.con (.int 0))) (.var 1))] [5])),
  .asg (.name 3) (.lst true [(.var 2)]),
  .for_ (.name 4) (.range3 (.bin .Sub false (.bi .len false [(.fld "Teller" (.var 0) "teller_reads")]) (.con (.int 1))) (.neg (.con (.int 1))) (.neg (.con (.int 1)))) [.par2 6 7 (.ix (.fld "Teller" (.var 0) "teller_reads") (.var 4)) .dnewS,
    .lockS (.for_ (.name 5) (.skeys (.ix (.fld "Teller" (.var 0) "teller_layers") (.var 4))) [.if_ (.cval (.bi .any1 false [(.lc false (.inS (.var 9) (.var 2)) (.tup [(.name 8), (.name 9)]) (.seq (.call jp [(.fld "Teller" (.var 0) "teller_marks"), (.var 5), (.var 6)])) [] [8, 9])])) [.asg (.sput (.var 7) (.var 5)) (.con (.bl true))] []]),
    .asg (.name 2) (.var 7),
    .append (.var 3) (.var 2)],
  .ret (.revL false (.var 3))]
noncomputable def spAlv (ds : List D) (S : DStore) (Q : QE) : Prop := ∃ (n r l : Nat) (m b : Int) (rs : List R3) (e : Int), ds = [.ref n, .int e] ∧ TelA S n r l m b rs ∧ m ≠ 0 ∧ rs.length ≤ 1000 ∧
  ∀ (ks : List Nat) S', Kp S S' → S.length ≤ S'.length → ks.length = rs.length + 1 → (∀ i k, ks[i]? = some k → S'[k]? = some (Cell.sts (alv m b e rs i))) → Q (.lst (ks.map D.ref)) S'
theorem spAlv_len : ∀ ds S Q, spAlv ds S Q → ds.length = 2 := by rintro _ _ _ ⟨_, _, _, _, _, _, _, rfl, _⟩; rfl
/-- the walk over a layer -/
theorem alv_inner {G : Fns} {jp : Nat} (hp : G.fn jp = spPrt) {m b e : Int} {rs : List R3} {tick : Nat} {r : R3} (hr : rs[tick]? = some r) (hm : m ≠ 0) {n kl f q rr ll : Nat} {d4 d5 d8 d9 : Option D} {S1 : DStore} {rt : QE} {N : DEnv → DStore → Prop} {ks : List K3}
    (hn : S1[n]? = some (.ins "Teller" (tF m b rr ll))) (hk : S1[kl]? = some (Cell.sts (alv m b e rs (tick + 1)))) (hq : S1[q]? = some (Cell.sts [])) (nq : q ≠ n) (kq : q ≠ kl) (eks : ks = lay m b (rs.take tick))
    (hN : ∀ d5 S', (∀ j c, j ≠ q → S1[j]? = some c → S'[j]? = some c) → S1.length ≤ S'.length → S'[q]? = some (Cell.sts (alv m b e rs tick)) → N [some (.ref n), some (.int e), some (.ref kl), some (.ref f), d4, d5, some (r3D r), some (.ref q), d8, d9] S') :
    wpWalk (ks.map k3D) (fun _ => True) [some (.ref n), some (.int e), some (.ref kl), some (.ref f), d4, d5, some (r3D r), some (.ref q), d8, d9] S1
      (forTurn G (.name 5) [.if_ (.cval (.bi .any1 false [(.lc false (.inS (.var 9) (.var 2)) (.tup [(.name 8), (.name 9)]) (.seq (.call jp [(.fld "Teller" (.var 0) "teller_marks"), (.var 5), (.var 6)])) [] [8, 9])])) [.asg (.sput (.var 7) (.var 5)) (.con (.bl true))] []] rt N) N := by
  have hle := lay_len m b (rs.take tick)
  refine walk_list (fun i ρ S' => ∃ d5, ρ = [some (.ref n), some (.int e), some (.ref kl), some (.ref f), d4, d5, some (r3D r), some (.ref q), d8, d9] ∧ (∀ j c, j ≠ q → S1[j]? = some c → S'[j]? = some c) ∧ S1.length ≤ S'.length ∧ S'[q]? = some (Cell.sts ((ks.take i).filter (liveF m e (rs.drop tick)))))
    ⟨_, rfl, fun _ _ _ h => h, Nat.le_refl _, by simpa using hq⟩ (fun _ _ _ _ => trivial) ?_ ?_
  · rintro i y ρ S2 hy ⟨e5, rfl, hf, hlen, hc⟩
    rw [List.getElem?_map, Option.map_eq_some_iff] at hy
    obtain ⟨s, hs, rfl⟩ := hy
    have hsm : s ∈ lay m b (rs.take tick) := by rw [← eks]; exact List.mem_of_getElem? hs
    unfold DL.forTurn
    simp_arith only [hp]
    refine ⟨n, _, .int m, rfl, hf n _ (Ne.symm nq) hn, tF_marks, m, s, r, rfl, hm, fun S3 hk3 hl3 hq3 => ?_⟩
    refine ⟨_, hq3, gather_map prD (fun p => D.bl (decide (p.2 ∈ alv m b e rs (tick + 1)))) (Nat.le_trans (prt_len m s r) (by decide)) hq3 (fun p hp2 N2 hN2 => ?_) ?_⟩
    · unfold DL.lcTurn
      simp_arith only [prD]
      have h9 := hk3 _ _ (hf kl _ (Ne.symm kq) hk)
      refine ⟨trivial, p.2, kl, _, rfl, rfl, ?_, hN2⟩
      unfold stsOf
      rw [h9]
    · have e2 : (prt m s r).map (fun p => D.bl (decide (p.2 ∈ alv m b e rs (tick + 1)))) = ((prt m s r).map fun p => decide (p.2 ∈ alv m b e rs (tick + 1))).map D.bl := by rw [List.map_map]; rfl
      rw [e2, f_anyB, alv_live hr hsm]
      have htk : (ks.take (i + 1)).filter (liveF m e (rs.drop tick)) = (ks.take i).filter (liveF m e (rs.drop tick)) ++ if liveF m e (rs.drop tick) s = true then [s] else [] := by
        rw [List.take_add_one, hs, List.filter_append]
        simp [List.filter_cons]
      have hc3 := hk3 _ _ hc
      rw [t_bl]
      cases hl : liveF m e (rs.drop tick) s with
      | true =>
        rw [hl, if_pos rfl] at htk
        rw [if_pos rfl]
        refine ⟨q, _, s, rfl, rfl, trivial, hc3, ?_, _, rfl, fun j c hj h => by rw [List.getElem?_set_ne (Ne.symm hj)]; exact hk3 _ _ (hf j c hj h), by rw [List.length_set]; omega, ?_⟩
        · refine Nat.lt_of_le_of_lt (List.length_filter_le _ _) ?_
          rw [← eks] at hle
          exact Nat.lt_of_le_of_lt (Nat.le_trans (List.length_take_le' ..) hle) (by decide)
        · rw [set_get hc3, htk]
          have hns : s ∉ (ks.take i).filter (liveF m e (rs.drop tick)) := fun z => by
            have nd : ks.Nodup := by rw [eks]; exact lay_nd m b _
            exact nd_take nd hs (List.mem_filter.mp z).1
          unfold put3D
          rw [if_neg hns]
      | false =>
        rw [hl] at htk
        simp only [Bool.false_eq_true, if_false, List.append_nil] at htk ⊢
        exact ⟨_, rfl, fun j c hj h => hk3 _ _ (hf j c hj h), by omega, by rw [htk]; exact hc3⟩
  · rintro ρ S2 ⟨e5, rfl, hf, hlen, hc⟩
    rw [List.length_map, List.take_length] at hc
    rw [eks] at hc
    exact hN _ _ hf hlen hc
theorem TelA.lay_at {S : DStore} {n r l : Nat} {m b : Int} {rs : List R3} (t : TelA S n r l m b rs) {i : Nat} (hi : i ≤ rs.length) : ∃ (ls : List Nat) (k : Nat), S[l]? = some (Cell.lst (ls.map D.ref)) ∧ ls[i]? = some k ∧ S[k]? = some (Cell.sts (lay m b (rs.take i))) := by
  obtain ⟨ls, h1, h2, h3⟩ := t.ly
  have hlt : i < ls.length := by omega
  exact ⟨ls, ls[i], h1, List.getElem?_eq_getElem hlt, h3 i _ (List.getElem?_eq_getElem hlt)⟩
theorem h67 {p : Prop} [Decidable p] {A B : Prop} (c : Bool) (h1 : c = true → A) (h2 : c = false → B) (e : c = decide p := by rfl) : if p then A else B := by
  by_cases h : p
  · rw [if_pos h]; exact h1 (by rw [e]; exact decide_eq_true h)
  · rw [if_neg h]; exact h2 (by rw [e]; exact decide_eq_false h)
theorem alive_ok {G : Fns} {jp : Nat} (hp : G.fn jp = spPrt) : ∀ ds S Q, spAlv ds S Q → wpSs G (tlAliveC jp) (startD 10 ds) S { nx := fun _ S' => Q .non S', rt := Q } := by
  rintro ds S Q ⟨n, r, l, m, b, rs, e, rfl, T, hm, hrs, h⟩
  obtain ⟨ls, k, h1, h2, h3, h4⟩ := T.last
  have nk : n ≠ k := fun z => by
    subst z
    cases T.o.symm.trans h4
  have lk : l ≠ k := fun z => by
    subst z
    cases h1.symm.trans h4
  show wpSs _ _ [some (.ref n), some (.int e), none, none, none, none, none, none, none, none] _ _
  unfold tlAliveC
  refine ss_split 2 (fun ρ' S' => ∃ kl f, ρ' = [some (.ref n), some (.int e), some (.ref kl), some (.ref f), none, none, none, none, none, none] ∧ Kp S S' ∧ S.length ≤ f ∧ f < S'.length ∧ S'[f]? = some (Cell.lst ([kl].map D.ref)) ∧ S'[kl]? = some (Cell.sts (alv m b e rs rs.length)) ∧ S.length ≤ kl) (fun N hN => ?_) ?_
  · simp_arith only []
    refine ⟨k, _, h4, n, _, .ref l, rfl, by rw [List.getElem?_set_ne (Ne.symm nk)]; exact T.o, tF_layers, ls.map D.ref, .ref k, ?_, h3, k, _, rfl, set_get h4, ?_⟩
    · simp only [seqOf, lstOf, List.getElem?_set_ne (Ne.symm lk), h1]
    refine gath_f k3D (liveF m e []) k3D (Nat.le_trans (lay_len m b rs) (by decide)) trivial (fun s hs N2 h6 h7 => ?_) fun ks eks => ?_
    · refine ⟨_, _, rfl, rfl, ?_⟩
      simp_arith only []
      refine h67 _ (fun z => ⟨trivial, s, rfl, h6 z⟩) h7
    · have ek : (lay m b rs).filter (liveF m e []) = ks := k3s_inj eks
      have ek2 : ks.foldl put3D [] = ks := by
        rw [fold_self ks [] (by rw [List.nil_append, ← ek]; exact (lay_nd m b rs).filter _)]
        rfl
      rw [ek2]
      have ltk : k < S.length := (List.getElem?_eq_some_iff.mp h4).1
      have eS : (S.set k (Cell.stl (lay m b rs)) ++ [Cell.sts ks]).set k (Cell.sts (lay m b rs)) = S ++ [Cell.sts ks] := by
        rw [List.set_append_left _ _ (by simpa using ltk), set_back h4]
      rw [eS]
      simp only [List.length_set, List.length_append, List.length_singleton]
      refine hN _ _ ⟨S.length, S.length + 1, rfl, fun j c hj => app_get (app_get hj), by omega, by simp, ?_, app_get ?_, Nat.le_refl _⟩
      · rw [List.getElem?_append_right (by simp)]
        simp
      · rw [List.getElem?_append_right (by simp)]
        simp [alv, ek]
  · rintro ρ' S1 ⟨kl, f, rfl, hk1, hf1, hf2, hf3, hkl, hkl2⟩
    have ltn : n < S.length := (List.getElem?_eq_some_iff.mp T.o).1
    simp_arith only []
    refine ⟨n, _, .ref r, rfl, hk1 _ _ T.o, tF_reads, rs.map r3D, ?_, ?_⟩
    · simp only [seqOf, lstOf, hk1 _ _ T.rd]
    simp_arith only []
    have hrl : ((rs.map r3D).length : Int) - 1 = (rs.length : Int) - 1 := by rw [List.length_map]
    rw [hrl]
    have hrc := RgC.neg (i := (rs.length : Int) - 1) (j := -1) (by omega) (by omega) (by omega) (by omega)
    rw [show ((rs.length : Int) - 1 - -1).toNat = rs.length by omega] at hrc
    refine ⟨_, _, _, rs.length, rfl, rfl, rfl, hrc, ?_⟩
    refine walk_list (fun j ρ S' => ∃ d4 d5 d6 d7 kl, ∃ ks : List Nat, ρ = [some (.ref n), some (.int e), some (.ref kl), some (.ref f), d4, d5, d6, d7, none, none] ∧ Kp S S' ∧ f < S'.length ∧ ks.length = j + 1 ∧ ks[j]? = some kl ∧ S'[f]? = some (Cell.lst (ks.map D.ref)) ∧ ∀ i k, ks[i]? = some k → S.length ≤ k ∧ S'[k]? = some (Cell.sts (alv m b e rs (rs.length - i))))
      ⟨_, _, _, _, kl, [kl], rfl, hk1, hf2, rfl, rfl, hf3, fun i k hi => ?_⟩ (fun _ _ _ _ => trivial) ?_ ?_
    · have hi0 : i = 0 := by
        rcases i with _ | i
        · rfl
        · simp at hi
      subst hi0
      simp at hi
      subst hi
      exact ⟨hkl2, hkl⟩
    · rintro j x ρ S2 hx ⟨d4, d5, d6, d7, kl, ks, rfl, hkk, hfl, hkl1, hkj, hff, hks⟩
      have hj : j < rs.length := by
        have := (List.getElem?_eq_some_iff.mp hx).1
        simpa [range3D] using this
      unfold range3D at hx
      rw [List.getElem?_map, List.getElem?_range hj] at hx
      cases hx
      have etick : (rs.length : Int) - 1 + (j : Int) * -1 = ((rs.length - 1 - j : Nat) : Int) := by omega
      dsimp only
      rw [etick]
      obtain ⟨tick, htick⟩ : ∃ t, t = rs.length - 1 - j := ⟨_, rfl⟩
      rw [← htick]
      have htl : tick < rs.length := by omega
      obtain ⟨x, hx⟩ : ∃ x, rs[tick]? = some x := ⟨rs[tick], List.getElem?_eq_getElem htl⟩
      obtain ⟨ls, kt, l1, l2, l3⟩ := T.lay_at (i := tick) (by omega)
      unfold DL.forTurn
      simp_arith only []
      have ltkt : kt < S.length := (List.getElem?_eq_some_iff.mp l3).1
      have hSl : S.length ≤ S2.length := by omega
      have nkt : n ≠ kt := fun z => by
        subst z
        cases T.o.symm.trans l3
      have lkt : l ≠ kt := fun z => by
        subst z
        cases l1.symm.trans l3
      have hk3 : ((S2 ++ [Cell.sts []]).set kt (Cell.stl (lay m b (rs.take tick))))[kt]? = some (Cell.stl (lay m b (rs.take tick))) := set_get (app_get (hkk _ _ l3))
      have hfr : ∀ i c, i ≠ kt → S2[i]? = some c → ((S2 ++ [Cell.sts []]).set kt (Cell.stl (lay m b (rs.take tick))))[i]? = some c := fun i c hi hc => by
        rw [List.getElem?_set_ne (Ne.symm hi)]
        exact app_get hc
      have hq3 : ((S2 ++ [Cell.sts []]).set kt (Cell.stl (lay m b (rs.take tick))))[S2.length]? = some (Cell.sts []) := by
        rw [List.getElem?_set_ne (by omega)]
        simp
      have hl3 : ((S2 ++ [Cell.sts []]).set kt (Cell.stl (lay m b (rs.take tick)))).length = S2.length + 1 := by simp
      refine ⟨n, _, .ref r, rfl, hkk _ _ T.o, tF_reads, rs.map r3D, r3D x, ?_, ?_, kt, _, app_get (hkk _ _ l3), n, _, .ref l, rfl, hfr n _ nkt (hkk _ _ T.o), tF_layers, ls.map D.ref, .ref kt, ?_, ?_, kt, _, rfl, hk3, ?_⟩
      · simp only [seqOf, lstOf, hkk _ _ T.rd]
      · exact atI_nat' (by omega) (by rw [Int.toNat_natCast, List.getElem?_map, hx]; rfl)
      · simp only [seqOf, lstOf, hfr l _ lkt (hkk _ _ l1)]
      · exact atI_nat' (by omega) (by rw [Int.toNat_natCast, List.getElem?_map, l2]; rfl)
      generalize (S2 ++ [Cell.sts []]).set kt (Cell.stl (lay m b (rs.take tick))) = S3 at *
      obtain ⟨hkll, hklc⟩ := hks j kl hkj
      have hkl2 : kl < S2.length := (List.getElem?_eq_some_iff.mp hklc).1
      refine alv_inner hp hx hm (hfr n _ nkt (hkk _ _ T.o)) (hfr kl _ (by omega) (by rw [show tick + 1 = rs.length - j by omega]; exact hklc)) hq3 (by omega) (by omega) rfl fun d5' S4 hf4 hl4 hq4 => ?_
      have g : ∀ i c, S2[i]? = some c → (S4.set kt (Cell.sts (lay m b (rs.take tick))))[i]? = some c := fun i c hi => by
        have hil := (List.getElem?_eq_some_iff.mp hi).1
        by_cases z : i = kt
        · subst z
          rw [set_get (hf4 i _ (by omega) hk3), ← hkk _ _ l3, hi]
        · rw [List.getElem?_set_ne (Ne.symm z)]
          exact hf4 i c (by omega) (hfr i c z hi)
      have gq : (S4.set kt (Cell.sts (lay m b (rs.take tick))))[S2.length]? = some (Cell.sts (alv m b e rs tick)) := by
        rw [List.getElem?_set_ne (by omega)]
        exact hq4
      have gl : S2.length < (S4.set kt (Cell.sts (lay m b (rs.take tick)))).length := by
        rw [List.length_set]
        omega
      generalize S4.set kt (Cell.sts (lay m b (rs.take tick))) = S5 at *
      simp_arith only []
      refine ⟨lat (g _ _ hff), _, g _ _ hff, ?_, _, _, _, _, S2.length, ks ++ [S2.length], rfl, kp_set (fun i c hi => g i c (hkk i c hi)) hf1, by rw [List.length_set]; omega, by simp [hkl1], ?_, ?_, fun i k hi => ?_⟩
      · rw [List.length_map, hkl1]
        exact Nat.lt_of_le_of_lt (show j + 1 ≤ 1000 by omega) (by decide)
      · rw [List.getElem?_append_right (by omega), hkl1]
        simp
      · rw [set_get (g _ _ hff), List.map_append]
        rfl
      · by_cases z : i < ks.length
        · rw [List.getElem?_append_left z] at hi
          obtain ⟨h1', h2'⟩ := hks i k hi
          refine ⟨h1', ?_⟩
          rw [List.getElem?_set_ne (fun w => by subst w; cases hff.symm.trans h2')]
          exact g _ _ h2'
        · rw [List.getElem?_append_right (by omega)] at hi
          have hi3 : i - ks.length = 0 := by
            rcases w : i - ks.length with _ | w2
            · rfl
            · rw [w] at hi; simp at hi
          rw [hi3] at hi
          simp at hi
          subst hi
          refine ⟨hSl, ?_⟩
          rw [List.getElem?_set_ne (by omega), gq, show rs.length - i = tick by omega]
    · rintro ρ S2 ⟨d4, d5, d6, d7, kl, ks, rfl, hkk, hfl, hkl1, hkj, hff, hks⟩
      have hl0 : (range3D ((rs.length : Int) - 1) (-1) rs.length).length = rs.length := by simp [range3D]
      rw [hl0] at hkl1 hkj
      simp_arith only []
      refine ⟨ks.map D.ref, by simp only [lstOf, hff], ?_⟩
      show Q (.lst (ks.map D.ref).reverse) S2
      rw [← List.map_reverse]
      refine h ks.reverse S2 hkk (by omega) (by rw [List.length_reverse, hkl1]) fun i k hi => ?_
      have hi2 : i < ks.reverse.length := (List.getElem?_eq_some_iff.mp hi).1
      rw [List.length_reverse] at hi2
      rw [List.getElem?_reverse hi2] at hi
      have := (hks _ _ hi).2
      rw [show rs.length - (ks.length - 1 - i) = i by omega] at this
      exact this
noncomputable def taleF (m e : Int) : List R3 → K3 → List (Int × Int)
  | [], _ => []
  | r :: rs, s => match (prt m s r).filter (fun q => liveF m e rs q.2) with
    | [] => []
    | q :: _ => q.1 :: taleF m e rs q.2
noncomputable def ptD (p : Int × Int) : D := .tup [.int p.1, .int p.2]
theorem taleF_cons (m e : Int) (r : R3) (rs : List R3) (s : K3) : taleF m e (r :: rs) s = match (prt m s r).filter (fun q => liveF m e rs q.2) with
    | [] => []
    | q :: _ => q.1 :: taleF m e rs q.2 := rfl
theorem live_of {m e : Int} : ∀ (rs : List R3) (ks : List K3) (t : K3), t ∈ rs.foldl (nxt m) ks → t.1 = e → ∃ s ∈ ks, liveF m e rs s = true
  | [], ks, t, h, he => ⟨t, h, by simp [liveF, he]⟩
  | r :: rs, ks, t, h, he => by
    obtain ⟨s', h1, h2⟩ := live_of rs (nxt m ks r) t h he
    obtain ⟨s, hs, q, hq, rfl⟩ := mem_nxt.mp h1
    exact ⟨s, hs, List.any_eq_true.mpr ⟨q, hq, h2⟩⟩
theorem live_first {m b e : Int} {rs : List R3} (h : ∃ s ∈ lay m b rs, s.1 = e) : liveF m e rs (b, false, 2) = true := by
  obtain ⟨t, h1, h2⟩ := h
  obtain ⟨s, hs, hl⟩ := live_of rs [(b, false, 2)] t h1 h2
  rw [List.mem_singleton.mp hs] at hl
  exact hl
theorem tale_step {m e : Int} {r : R3} {rs : List R3} {s : K3} (h : liveF m e (r :: rs) s = true) : ∃ q l, (prt m s r).filter (fun q => liveF m e rs q.2) = q :: l ∧ taleF m e (r :: rs) s = q.1 :: taleF m e rs q.2 ∧ liveF m e rs q.2 = true ∧ q ∈ prt m s r := by
  obtain ⟨q0, h0, h1⟩ := List.any_eq_true.mp h
  cases e1 : (prt m s r).filter (fun q => liveF m e rs q.2) with
  | nil =>
    have : q0 ∈ (prt m s r).filter (fun q => liveF m e rs q.2) := List.mem_filter.mpr ⟨h0, h1⟩
    rw [e1] at this
    cases this
  | cons q l =>
    have hq : q ∈ (prt m s r).filter (fun q => liveF m e rs q.2) := by rw [e1]; simp
    obtain ⟨h2, h3⟩ := List.mem_filter.mp hq
    refine ⟨q, l, rfl, ?_, h3, h2⟩
    rw [taleF_cons, e1]
noncomputable def spWhI (ds : List D) (S : DStore) (Q : QE) : Prop := ∃ i : Int, ds = [.int i] ∧ Q (.bl true) S
theorem spWhI_len : ∀ ds S Q, spWhI ds S Q → ds.length = 1 := by rintro _ _ _ ⟨_, rfl, _⟩; rfl
noncomputable def whC : List CS := [.ret (.and_ (.isi .int (.var 0)) (.not_ (.isi .bool (.var 0))))]
theorem whI_ok {G : Fns} : ∀ ds S Q, spWhI ds S Q → wpSs G whC (startD 1 ds) S { nx := fun _ S' => Q .non S', rt := Q } := by
  rintro ds S Q ⟨i, rfl, h⟩
  show wpSs _ _ [some (.int i)] _ _
  unfold whC
  simp_arith only []
  exact h
theorem inV_ints (e : Int) (ns : List Int) : inV (toV (.int e)) ((ns.map D.int).map toV) = decide (e ∈ ns) := by
  induction ns with
  | nil => rfl
  | cons x ns ih =>
    show (eqV (.int x) (.int e) || inV (toV (.int e)) ((ns.map D.int).map toV)) = _
    rw [ih, eqV_int]
    by_cases h : e = x
    · subst h; simp
    · have : (e == x) = false := by simpa using h
      rw [this]
      simp [h]
theorem notin_ints {S : DStore} {e : Int} {ns : List Int} {Q : Bool → Prop} (h : Q (!decide (e ∈ ns))) : cmpD .NotIn S (.int e) (.tup (ns.map D.int)) Q := by
  refine ⟨_, rfl, rfl, ?_, ?_⟩
  · rw [List.all_eq_true]
    intro x hx
    obtain ⟨i, _, rfl⟩ := List.mem_map.mp hx
    rfl
  · rw [inV_ints]
    exact h
noncomputable def tlTaleC (rb : List CS) (jw jf ja j1 jp : Nat) : List CS := [.if_ (.cor (.cnot (.cval (.call jw [(.var 1)]))) (.ccmp .NotIn (.var 1) (.meth "Teller" (.var 0) "fits" jf []))) rb [],
  .asg (.name 2) (.meth "Teller" (.var 0) "alive" ja [(.var 1)]),
  .par2 3 4 (.call j1 [(.fld "Teller" (.var 0) "teller_begin")]) (.lst true []),
  .for_ (.tup [(.name 5), (.name 6)]) (.enum (.fld "Teller" (.var 0) "teller_reads")) [.setLc 7 (.lc false (.var 9) (.name 9) (.seq (.call jp [(.fld "Teller" (.var 0) "teller_marks"), (.var 3), (.var 6)])) [(.cinS (.ix (.var 9) (.con (.int 1))) (.ix (.var 2) (.bin .Add false (.var 5) (.con (.int 1)))))] [9]),
    .asg (.tup [(.name 8), (.name 3)]) (.ix (.var 7) (.con (.int 0))),
    .append (.var 4) (.var 8)],
  .ret (.bi .tuple1 false [(.var 4)])]
noncomputable def spTale (ds : List D) (S : DStore) (Q : QE) : Prop := ∃ (n r l : Nat) (m b : Int) (rs : List R3) (e : Int), ds = [.ref n, .int e] ∧ TelA S n r l m b rs ∧ m ≠ 0 ∧ rs.length ≤ 1000 ∧ (∃ s ∈ lay m b rs, s.1 = e) ∧
  ∀ S', Kp S S' → S.length ≤ S'.length → Q (.tup ((taleF m e rs (b, false, 2)).map ptD)) S'
theorem spTale_len : ∀ ds S Q, spTale ds S Q → ds.length = 2 := by rintro _ _ _ ⟨_, _, _, _, _, _, _, rfl, _⟩; rfl
theorem tale_ok {G : Fns} {rb : List CS} {jw jf ja j1 jp : Nat} (hw : G.fn jw = spWhI) (hf : G.fn jf = spFits) (ha : G.fn ja = spAlv) (h1 : G.fn j1 = spFirst) (hp : G.fn jp = spPrt) : ∀ ds S Q, spTale ds S Q → wpSs G (tlTaleC rb jw jf ja j1 jp) (startD 10 ds) S { nx := fun _ S' => Q .non S', rt := Q } := by
  rintro ds S Q ⟨n, r, l, m, b, rs, e, rfl, T, hm, hrs, hfit, h⟩
  show wpSs _ _ [some (.ref n), some (.int e), none, none, none, none, none, none, none, none] _ _
  unfold tlTaleC
  simp_arith only [hw, hf, ha, h1]
  refine ⟨e, rfl, n, _, rfl, T.o, tF_fits, n, r, l, m, b, rs, rfl, T, lay64 m b rs, fun ns hF => notin_ints ?_⟩
  have hin : e ∈ ns := (hF.2 e).mpr hfit
  rw [decide_eq_true hin]
  simp only [Bool.not_true, Bool.false_eq_true, if_false]
  refine ⟨n, _, rfl, T.o, tF_alive, n, r, l, m, b, rs, e, rfl, T, hm, hrs, fun ks S1 hk1 hl1 hks1 hks => ⟨n, _, .int b, rfl, hk1 _ _ T.o, tF_begin, b, rfl, n, _, .ref r, rfl, app_get (hk1 _ _ T.o), tF_reads, rs.map r3D, ?_, ?_⟩⟩
  · simp only [lstOf, app_get (hk1 _ _ T.rd)]
  have hlf := live_first hfit
  refine walk_list (fun i ρ S' => ∃ d5 d6 d7 d8, ∃ (si : K3) (acc : List (Int × Int)), ρ = [some (.ref n), some (.int e), some (.lst (ks.map D.ref)), some (k3D si), some (.ref S1.length), d5, d6, d7, d8, none] ∧ Kp S1 S' ∧ S1.length < S'.length ∧ S'[S1.length]? = some (Cell.lst (acc.map ptD)) ∧ acc.length = i ∧ taleF m e rs (b, false, 2) = acc ++ taleF m e (rs.drop i) si ∧ liveF m e (rs.drop i) si = true ∧ si ∈ lay m b (rs.take i))
    ⟨_, _, _, _, (b, false, 2), [], rfl, kp_app, by simp, by simp, rfl, by simp, by simpa using hlf, by simp [lay]⟩ (fun i ρ S' ⟨_, _, _, _, _, _, _, hk, _⟩ => by simp only [lstOf, hk _ _ (hk1 _ _ T.rd)]) ?_ ?_
  · rintro i x ρ S2 hx ⟨d5, d6, d7, d8, si, acc, rfl, hk2, hl2, hc2, hac, htl, hli, hsi⟩
    have hir : i < rs.length := by
      have := (List.getElem?_eq_some_iff.mp hx).1
      simpa [enumD] using this
    obtain ⟨y, hy⟩ : ∃ y, rs[i]? = some y := ⟨rs[i], List.getElem?_eq_getElem hir⟩
    have hx2 : x = .tup [.int (i : Nat), r3D y] := by
      unfold enumD at hx
      rw [List.getElem?_map, List.getElem?_zipIdx, List.getElem?_map, hy] at hx
      simpa using hx.symm
    subst hx2
    have hdr : rs.drop i = y :: rs.drop (i + 1) := by
      obtain ⟨z1, z2⟩ := List.getElem?_eq_some_iff.mp hy
      rw [← z2]
      exact List.drop_eq_getElem_cons z1
    rw [hdr] at hli htl
    obtain ⟨q, l2, t1, t2, t3, t4⟩ := tale_step hli
    have htk : rs.take (i + 1) = rs.take i ++ [y] := by rw [List.take_add_one, hy]; rfl
    have hq2 : ∀ q ∈ prt m si y, q.2 ∈ lay m b (rs.take (i + 1)) := fun q hq => by
      rw [htk, lay_snoc]
      exact mem_nxt.mpr ⟨si, hsi, q, hq, rfl⟩
    obtain ⟨kt, hkt⟩ : ∃ k, ks[i + 1]? = some k := ⟨ks[i + 1]'(by omega), List.getElem?_eq_getElem _⟩
    unfold DL.forTurn
    simp_arith only [hp]
    refine ⟨trivial, n, _, .int m, rfl, hk2 _ _ (hk1 _ _ T.o), tF_marks, m, si, y, rfl, hm, fun S3 hk3 hl3 hq3 => ?_⟩
    refine ⟨_, hq3, gath_f prD (fun q => liveF m e (rs.drop (i + 1)) q.2) prD (Nat.le_trans (prt_len m si y) (by decide)) hq3 (fun p hp2 N2 h6 h7 => ?_) ?_⟩
    · unfold DL.lcTurn prD
      simp_arith only []
      have h9 := hk3 _ _ (hk2 _ _ (hks _ _ hkt))
      refine ⟨.ref kt, atI_nat' (by omega) (by rw [show ((i : Int) + 1).toNat = i + 1 by omega, List.getElem?_map, hkt]; rfl), p.2, kt, _, rfl, rfl, by unfold stsOf; rw [h9], ?_⟩
      have hmem : p.2 ∈ alv m b e rs (i + 1) ↔ liveF m e (rs.drop (i + 1)) p.2 = true := by
        unfold alv
        rw [List.mem_filter]
        exact ⟨fun z => z.2, fun z => ⟨hq2 p hp2, z⟩⟩
      by_cases z : p.2 ∈ alv m b e rs (i + 1)
      · rw [if_pos z]
        exact h6 (hmem.mp z)
      · rw [if_neg z]
        refine h7 ?_
        cases w : liveF m e (rs.drop (i + 1)) p.2 with
        | true => exact absurd (hmem.mpr w) z
        | false => rfl
    · rw [t1]
      refine ⟨prD q, by simp [a_0], ?_⟩
      unfold prD
      simp_arith only []
      refine ⟨trivial, lat (hk3 _ _ hc2), _, hk3 _ _ hc2, ?_, _, _, _, _, q.2, acc ++ [q.1], rfl, kp_set (fun j c hj => hk3 _ _ (hk2 _ _ hj)) (Nat.le_refl _), by rw [List.length_set]; omega, ?_, by simp [hac], ?_, t3, hq2 q t4⟩
      · rw [List.length_map, hac]
        exact Nat.lt_of_lt_of_le (show i < 1000 by omega) (by decide)
      · rw [set_get (hk3 _ _ hc2), List.map_append]
        rfl
      · rw [htl, t2]
        simp
  · rintro ρ S2 ⟨d5, d6, d7, d8, si, acc, rfl, hk2, hl2, hc2, hac, htl, hli, hsi⟩
    have hen : (enumD (rs.map r3D)).length = rs.length := by simp [enumD]
    rw [hen] at hac htl
    rw [List.drop_length] at htl
    have e0 : taleF m e [] si = [] := rfl
    rw [e0, List.append_nil] at htl
    simp_arith only []
    rw [htl] at h
    refine ⟨acc.map ptD, by simp only [hc2, cellL], h S2 (fun j c hj => hk2 _ _ (hk1 _ _ hj)) (by omega)⟩
end DL
namespace DL
open PySem PySem.Spec PyProof.Rows L2
noncomputable def sh (d : Int) (s : K3) : K3 := (s.1 + d, s.2)
noncomputable def tn (s : K3) : K3 := (0 - s.1, s.2)
noncomputable def tlOk (m : Int) : List R3 → List (Int × Int) → K3 → Bool
  | [], [], _ => true
  | r :: rs, p :: ps, s => match onw s p.1 p.2 with
    | some t => decide (rdT m p.1 p.2 = r) && tlOk m rs ps t
    | none => false
  | _, _, _ => false
theorem tlOk_tale {m e : Int} : ∀ (rs : List R3) (s : K3), liveF m e rs s = true → tlOk m rs (taleF m e rs s) s = true
  | [], s, _ => rfl
  | r :: rs, s, h => by
    obtain ⟨q, l, t1, t2, t3, t4⟩ := tale_step h
    rw [t2]
    obtain ⟨a, _, o, _, h1, h2, h3⟩ := mem_prt.mp t4
    show (match onw s q.1.1 q.1.2 with
      | some t => decide (rdT m q.1.1 q.1.2 = r) && tlOk m rs (taleF m e rs q.2) t
      | none => false) = true
    rw [h3]
    simp only [h1, h2, decide_true, Bool.true_and]
    exact tlOk_tale rs q.2 t3
theorem tlOk_len {m : Int} : ∀ (rs : List R3) (ps : List (Int × Int)) (s : K3), tlOk m rs ps s = true → ps.length = rs.length
  | [], [], _, _ => rfl
  | [], _ :: _, _, h => by cases h
  | _ :: _, [], _, h => by cases h
  | r :: rs, p :: ps, s, h => by
    have h' : (match onw s p.1 p.2 with
      | some t => decide (rdT m p.1 p.2 = r) && tlOk m rs ps t
      | none => false) = true := h
    cases e : onw s p.1 p.2 with
    | none => rw [e] at h'; cases h'
    | some t =>
      rw [e] at h'
      simp only [Bool.and_eq_true] at h'
      rw [List.length_cons, List.length_cons, tlOk_len rs ps t h'.2]
noncomputable def ptP (x : Int × Int) : PyData := .tuple [.int x.1, .int x.2]
theorem purs_pt : ∀ t : List (Int × Int), purs (t.map ptD) = some (t.map ptP)
  | [] => rfl
  | x :: t => by
    show ((pur (ptD x)).bind fun p => (purs (t.map ptD)).map (p :: ·)) = _
    rw [purs_pt t]
    rfl
theorem dep_pt : ∀ t : List (Int × Int), PyData.depthAll (t.map ptP) ≤ 1
  | [] => Nat.zero_le _
  | x :: t => by
    have := dep_pt t
    simp only [List.map_cons, PyData.depthAll, PyData.depth, ptP]
    omega
theorem pur_pt {S : DStore} (t : List (Int × Int)) : purS S (.tup (t.map ptD)) = some (.tuple (t.map ptP)) := by
  show ((purs (t.map ptD)).map PyData.tuple) = _
  rw [purs_pt]
  rfl
theorem pur_ints {S : DStore} (ns : List Int) : purS S (.tup (ns.map D.int)) = some (.tuple (ns.map PyData.int)) := by
  show ((purs (ns.map D.int)).map PyData.tuple) = _
  rw [purs_intsT]
  rfl
theorem tlOk_cons {m : Int} {r : R3} {rs : List R3} {p : Int × Int} {ps : List (Int × Int)} {s : K3} : tlOk m (r :: rs) (p :: ps) s = match onw s p.1 p.2 with
    | some t => decide (rdT m p.1 p.2 = r) && tlOk m rs ps t
    | none => false := rfl
end DL
namespace DL
open PySem PySem.Spec PyProof.Rows L2
noncomputable def nx (s : K3) (p : Int × Int) : K3 := (p.1, decide (p.1 - s.1 ≠ 0), if p.2 ≠ 0 then 0 else if s.2.2 + 1 < 2 then s.2.2 + 1 else 2)
noncomputable def stE (s : K3) (ps : List (Int × Int)) : K3 := ps.foldl nx s
theorem onw_nx {s t : K3} {p o : Int} (h : onw s p o = some t) : t = nx s (p, o) ∧ p - s.1 ∈ st3 ∧ o ∈ st3 ∧ onwR s.2 (p - s.1) o = some t.2 := by
  have e : p = s.1 + (p - s.1) := by omega
  have h' := h
  rw [e] at h
  obtain ⟨h1, h2, h3, h4⟩ := onw_R h
  refine ⟨?_, h1, h2, h4⟩
  unfold onw at h'
  split at h'
  · cases h'
  · split at h'
    · cases h'
    · cases h'; rfl
theorem tlOk_inv {m : Int} {r : R3} {rs : List R3} {p : Int × Int} {ps : List (Int × Int)} {s : K3} (h : tlOk m (r :: rs) (p :: ps) s = true) : onw s p.1 p.2 = some (nx s p) ∧ rdT m p.1 p.2 = r ∧ tlOk m rs ps (nx s p) = true := by
  rw [tlOk_cons] at h
  cases e : onw s p.1 p.2 with
  | none => rw [e] at h; cases h
  | some t =>
    rw [e] at h
    simp only [Bool.and_eq_true, decide_eq_true_eq] at h
    obtain ⟨rfl, _⟩ := onw_nx e
    exact ⟨rfl, h.1, h.2⟩
theorem stE_snoc (s : K3) (ps : List (Int × Int)) (p : Int × Int) : stE s (ps ++ [p]) = nx (stE s ps) p := by simp [stE, List.foldl_append]
theorem stE_take {s : K3} {ps : List (Int × Int)} {i : Nat} {p : Int × Int} (h : ps[i]? = some p) : stE s (ps.take (i + 1)) = nx (stE s (ps.take i)) p := by
  rw [List.take_succ, h]
  exact stE_snoc s _ p
theorem tlOk_at {m : Int} : ∀ (i : Nat) (rs : List R3) (ps : List (Int × Int)) (s : K3), tlOk m rs ps s = true → ∀ {r p}, rs[i]? = some r → ps[i]? = some p → onw (stE s (ps.take i)) p.1 p.2 = some (stE s (ps.take (i + 1))) ∧ rdT m p.1 p.2 = r
  | 0, r0 :: rs, p0 :: ps, s, h, r, p, hr, hp => by
    obtain ⟨h1, h2, _⟩ := tlOk_inv h
    simp only [List.getElem?_cons_zero, Option.some.injEq] at hr hp
    subst hr hp
    exact ⟨h1, h2⟩
  | i + 1, r0 :: rs, p0 :: ps, s, h, r, p, hr, hp => by
    obtain ⟨h1, h2, h3⟩ := tlOk_inv h
    exact tlOk_at i rs ps (nx s p0) h3 (by simpa using hr) (by simpa using hp)
  | 0, [], _, _, _, _, _, hr, _ => by simp at hr
  | _ + 1, [], _, _, _, _, _, hr, _ => by simp at hr
  | 0, _ :: _, [], _, _, _, _, _, hp => by simp at hp
  | _ + 1, _ :: _, [], _, _, _, _, _, hp => by simp at hp
theorem place_at {s : K3} {ps : List (Int × Int)} {i : Nat} {p : Int × Int} (h : ps[i]? = some p) : (stE s (ps.take (i + 1))).1 = p.1 := by rw [stE_take h]; rfl
theorem onwR_inv {q q' : Bool × Int} {a o : Int} (h : onwR q a o = some q') : (a ≠ 0 → q.1 = false) ∧ (o ≠ 0 → 2 ≤ q.2) ∧ q' = (decide (a ≠ 0), if o ≠ 0 then 0 else if q.2 + 1 < 2 then q.2 + 1 else 2) := by
  unfold onwR at h
  split at h
  · cases h
  · rename_i hn
    cases h
    refine ⟨fun ha => ?_, fun ho => ?_, rfl⟩
    · cases e : q.1 with
      | false => rfl
      | true => exact absurd (.inl ⟨ha, e⟩) hn
    · rcases Int.lt_or_le q.2 2 with z | z
      · exact absurd (.inr ⟨ho, z⟩) hn
      · exact z
theorem rule_at {m b : Int} {rs : List R3} {ps : List (Int × Int)} (h : tlOk m rs ps (b, false, 2) = true) {i : Nat} {p : Int × Int} (hp : ps[i]? = some p) : p.1 - (stE (b, false, 2) (ps.take i)).1 ∈ st3 ∧ p.2 ∈ st3 ∧ onwR (stE (b, false, 2) (ps.take i)).2 (p.1 - (stE (b, false, 2) (ps.take i)).1) p.2 = some (stE (b, false, 2) (ps.take (i + 1))).2 := by
  have l1 := tlOk_len _ _ _ h
  have hlt := (List.getElem?_eq_some_iff.mp hp).1
  obtain ⟨a1, _⟩ := tlOk_at i rs ps _ h (List.getElem?_eq_getElem (by omega)) hp
  obtain ⟨_, h2, h3, h4⟩ := onw_nx a1
  exact ⟨h2, h3, h4⟩
/-- a step, none in the tick behind it -/
theorem rest_at {m b : Int} {rs : List R3} {ps : List (Int × Int)} (h : tlOk m rs ps (b, false, 2) = true) {i : Nat} {p p' : Int × Int} (hp : ps[i]? = some p) (hp' : ps[i + 1]? = some p') : p.1 - (stE (b, false, 2) (ps.take i)).1 = 0 ∨ p'.1 - p.1 = 0 := by
  obtain ⟨_, _, h3⟩ := rule_at h hp
  obtain ⟨_, _, h6⟩ := rule_at h hp'
  obtain ⟨_, _, e⟩ := onwR_inv h3
  obtain ⟨f, _, _⟩ := onwR_inv h6
  rw [place_at hp] at f
  by_cases z : p.1 - (stE (b, false, 2) (ps.take i)).1 = 0
  · exact .inl z
  · right
    by_cases w : p'.1 - p.1 = 0
    · exact w
    · have := f w
      rw [e] at this
      simp [z] at this
/-- an off, two right reads behind it -/
theorem right_at {m b : Int} {rs : List R3} {ps : List (Int × Int)} (h : tlOk m rs ps (b, false, 2) = true) {i : Nat} {p : Int × Int} (hp : ps[i]? = some p) (ho : p.2 ≠ 0) : (∀ q, ps[i + 1]? = some q → q.2 = 0) ∧ ∀ q, ps[i + 2]? = some q → q.2 = 0 := by
  obtain ⟨_, _, h3⟩ := rule_at h hp
  obtain ⟨_, _, e⟩ := onwR_inv h3
  have c1 : (stE (b, false, 2) (ps.take (i + 1))).2.2 = 0 := by rw [e]; simp [ho]
  have one : ∀ q, ps[i + 1]? = some q → q.2 = 0 := fun q hq => by
    obtain ⟨_, _, h6⟩ := rule_at h hq
    obtain ⟨_, f, _⟩ := onwR_inv h6
    by_cases z : q.2 = 0
    · exact z
    · have := f z
      omega
  refine ⟨one, fun q hq => ?_⟩
  have hlt := (List.getElem?_eq_some_iff.mp hq).1
  obtain ⟨p1, hp1⟩ : ∃ p1, ps[i + 1]? = some p1 := ⟨ps[i + 1], List.getElem?_eq_getElem _⟩
  have o1 := one p1 hp1
  obtain ⟨_, _, h6⟩ := rule_at h hp1
  obtain ⟨_, _, e1⟩ := onwR_inv h6
  have c2 : (stE (b, false, 2) (ps.take (i + 1 + 1))).2.2 = 1 := by rw [e1, c1, o1]; simp
  obtain ⟨_, _, h9⟩ := rule_at h hq
  obtain ⟨_, f, _⟩ := onwR_inv h9
  by_cases z : q.2 = 0
  · exact z
  · have := f z
    have e9 : (stE (b, false, 2) (ps.take (i + 2))).2.2 = 1 := c2
    omega
end DL
namespace Law_k07
open PySem PySem.Spec PyProof.Rows L2 DL
noncomputable def topS (i : Nat) : Stmt := PySem.Challenge.pw_drivenwheels_k07_whole_fits_by_own_state.main.body.getD i (.Pass ⟨0, 0, 0, 0⟩)
noncomputable abbrev s0 : Stmt := topS 17
noncomputable def n0 : List Str := ["_law_script", "_law_k", "_law_cell", "_law_great"]
noncomputable def p0 : List Str := ["_law_script", "_law_k"]
theorem sc0 : FnScope n0 p0 (L2.defScope s0) := ⟨rfl, rfl, rfl, by decide +kernel, rfl, by decide +kernel, by decide +kernel⟩
/-- _law_hand -/
noncomputable def c0 : List CS := [.asg (.name 2) (.ite (.ccmp .Lt (.var 1) (.bi .len false [(.var 0)])) (.ix (.var 0) (.var 1)) (.con (.int 0))),
  .asg (.name 3) (.ite (.ccmp .GtE (.bi .abs false [(.var 2)]) (.bin .Pow false (.con (.int 10)) (.con (.int 18)))) (.bin .Mod false (.bi .abs false [(.var 2)]) (.bin .Mult false (.bin .Mult false (.bin .Pow false (.con (.int 10)) (.con (.int 60))) (.bin .Pow false (.con (.int 10)) (.con (.int 60)))) (.bin .Pow false (.con (.int 10)) (.con (.int 60))))) (.con (.int 0))),
  .ret (.lst true [(.var 3), (.bin .Mod false (.bin .Add false (.bin .Add false (.bin .Mult false (.bin .Mod false (.var 2) (.con (.int 2305843009213693951))) (.con (.int 1000033))) (.bin .Mult false (.con (.int 6857)) (.var 1))) (.con (.int 41))) (.con (.int 2305843009213693921))), (.con (.int 0))])]
noncomputable abbrev s1 : Stmt := topS 18
noncomputable def n1 : List Str := ["_law_hand_here", "_law_many", "_law_turn", "_law_one", "_law_two", "_law_mixed", "_law_last", "_law_digit"]
noncomputable def p1 : List Str := ["_law_hand_here", "_law_many"]
theorem sc1 : FnScope n1 p1 (L2.defScope s1) := ⟨rfl, rfl, rfl, by decide +kernel, rfl, by decide +kernel, by decide +kernel⟩
/-- _law_take -/
noncomputable def c1 : List CS := [.if_ (.ccmp .Gt (.ix (.var 0) (.con (.int 0))) (.con (.int 0))) [.asg (.name 7) (.bin .Mod false (.ix (.var 0) (.con (.int 0))) (.var 1)),
    .asg (.sub (.var 0) (.con (.int 0))) (.bin .FloorDiv false (.ix (.var 0) (.con (.int 0))) (.var 1)),
    .ret (.var 7)] [],
  .asg (.name 2) (.bin .Add false (.ix (.var 0) (.con (.int 2))) (.con (.int 1))),
  .asg (.sub (.var 0) (.con (.int 2))) (.var 2),
  .asg (.name 3) (.bin .Add false (.ix (.var 0) (.con (.int 1))) (.bin .Mult false (.con (.int 15485867)) (.var 2))),
  .asg (.name 4) (.bin .Add false (.bin .Add false (.bin .Mod false (.ix (.var 0) (.con (.int 1))) (.con (.int 7907))) (.bin .Mult false (.con (.int 32452867)) (.var 2))) (.con (.int 19))),
  .asg (.name 5) (.bin .Mod false (.bin .Mult false (.var 3) (.var 4)) (.con (.int 2305843009213693951))),
  .asg (.name 6) (.bin .Add false (.bin .Add false (.bin .Mod false (.var 5) (.con (.int 1000003))) (.bin .Mult false (.con (.int 6700441)) (.var 2))) (.con (.int 7))),
  .ret (.bin .Mod false (.bin .FloorDiv false (.bin .Mod false (.bin .Mult false (.bin .Add false (.var 5) (.con (.int 11))) (.var 6)) (.con (.int 2305843009213693907))) (.con (.int 64))) (.var 1))]
noncomputable abbrev s2 : Stmt := topS 19
noncomputable def n2 : List Str := ["_law_hand_here", "_law_some"]
noncomputable def p2 : List Str := ["_law_hand_here", "_law_some"]
theorem sc2 : FnScope n2 p2 (L2.defScope s2) := ⟨rfl, rfl, rfl, by decide +kernel, rfl, by decide +kernel, by decide +kernel⟩
/-- _law_pick -/
noncomputable def c2 : List CS := [.ret (.ix (.var 1) (.call 1 [(.var 0), (.bi .len false [(.var 1)])]))]
noncomputable abbrev s3 : Stmt := topS 22
noncomputable def n3 : List Str := ["_law_hand_here", "_law_rounds_here", "_law_near"]
noncomputable def p3 : List Str := ["_law_hand_here", "_law_rounds_here"]
theorem sc3 : FnScope n3 p3 (L2.defScope s3) := ⟨rfl, rfl, rfl, by decide +kernel, rfl, by decide +kernel, by decide +kernel⟩
/-- _law_begin -/
noncomputable def c3 : List CS := [.asg (.name 2) (.bin .Sub false (.bin .Add false (.bin .Mult false (.var 1) (.bin .Sub false (.call 1 [(.var 0), (.con (.int 7))]) (.con (.int 3)))) (.call 1 [(.var 0), (.con (.int 7))])) (.con (.int 3))),
  .ret (.call 2 [(.var 0), (.lst false [(.var 2), (.var 2), (.con (.int 0)), (.bin .Sub false (.call 1 [(.var 0), (.con (.int 2001))]) (.con (.int 1000)))])])]
noncomputable abbrev s4 : Stmt := topS 20
noncomputable def n4 : List Str := ["_law_rounds_here", "_law_spot", "_law_shift", "_law_rest"]
noncomputable def p4 : List Str := ["_law_rounds_here", "_law_spot", "_law_shift"]
theorem sc4 : FnScope n4 p4 (L2.defScope s4) := ⟨rfl, rfl, rfl, by decide +kernel, rfl, by decide +kernel, by decide +kernel⟩
/-- _law_signs -/
noncomputable def c4 : List CS := [.asg (.name 3) (.bin .Sub false (.bin .Add false (.var 1) (.var 2)) (.bin .Mult false (.bin .FloorDiv false (.bin .Add false (.var 1) (.var 2)) (.con (.int 4))) (.con (.int 4)))),
  .ret (.tup [(.bi .int1 false [(.cmp .Gt (.var 3) (.con (.int 1)))]), (.bi .int1 false [(.cmp .In (.var 3) (.tup [(.con (.int 1)), (.con (.int 2))]))]), (.bi .int1 false [(.cmp .Eq (.bin .Mult false (.bin .FloorDiv false (.var 1) (.var 0)) (.var 0)) (.var 1))])])]
noncomputable abbrev s5 : Stmt := topS 27
noncomputable def n5 : List Str := ["_law_hand_here", "_law_rounds_here", "_law_spots_here", "_law_shifts_here", "_law_side", "_law_rows", "_law_lot", "_law_at", "_law_one", "_law_other", "_law_index", "_law_spot", "_law_shift"]
noncomputable def p5 : List Str := ["_law_hand_here", "_law_rounds_here", "_law_spots_here", "_law_shifts_here"]
theorem sc5 : FnScope n5 p5 (L2.defScope s5) := ⟨rfl, rfl, rfl, by decide +kernel, rfl, by decide +kernel, by decide +kernel⟩
/-- _law_bent -/
noncomputable def c5 : List CS := [.par2 6 7 (.call 1 [(.var 0), (.con (.int 8))]) (.call 1 [(.var 0), (.bi .len false [(.var 2)])]),
  .asg (.name 4) (.bin .Sub false (.con (.int 1)) (.bin .Mult false (.con (.int 2)) (.call 1 [(.var 0), (.con (.int 2))]))),
  .if_ (.ccmp .Eq (.var 6) (.con (.int 0))) [.asg (.name 2) (.bin .Add false (.sl false (.var 2) .no (.yes (.var 7))) (.lc false (.bin .Add false (.var 11) (.var 4)) (.name 11) (.seq (.sl false (.var 2) (.yes (.var 7)) .no)) [] [11]))] [],
  .if_ (.ccmp .Eq (.var 6) (.con (.int 1))) [.asg (.name 3) (.bin .Add false (.bin .Add false (.sl false (.var 3) .no (.yes (.var 7))) (.lst false [(.var 4)])) (.sl false (.var 3) (.yes (.bin .Add false (.var 7) (.con (.int 1)))) .no))] [],
  .setLc 5 (.lc true (.call 4 [(.var 1), (.var 11), (.var 12)]) (.tup [(.name 11), (.name 12)]) (.zip2 (.var 2) (.var 3)) [] [11, 12]),
  .asg (.tup [(.name 8), (.name 9), (.name 10)]) (.ix (.var 5) (.var 7)),
  .if_ (.ccmp .Eq (.var 6) (.con (.int 2))) [.asg (.sub (.var 5) (.var 7)) (.tup [(.bin .Sub false (.con (.int 1)) (.var 8)), (.bin .Sub false (.con (.int 1)) (.var 9)), (.var 10)])] [],
  .if_ (.ccmp .Eq (.var 6) (.con (.int 3))) [.asg (.sub (.var 5) (.var 7)) (.tup [(.var 8), (.var 9), (.bin .Sub false (.con (.int 1)) (.var 10))])] [],
  .ret (.var 5)]
noncomputable abbrev s6 : Stmt := inClass (topS 15) 4
noncomputable def n6 : List Str := ["self", "state"]
noncomputable def p6 : List Str := ["self"]
theorem sc6 : FnScope n6 p6 (L2.defScope s6) := ⟨rfl, rfl, rfl, by decide +kernel, rfl, by decide +kernel, by decide +kernel⟩
/-- fits -/
noncomputable def c6 : List CS := [.lockS (.ret (.bi .tuple1 false [(.scS false (.ix (.var 1) (.con (.int 0))) (.name 1) (.skeys (.ix (.fld "Teller" (.var 0) "teller_layers") (.neg (.con (.int 1))))) [] [1])]))]
noncomputable abbrev s7 : Stmt := topS 21
noncomputable def n7 : List Str := ["_law_hand_here"]
noncomputable def p7 : List Str := ["_law_hand_here"]
theorem sc7 : FnScope n7 p7 (L2.defScope s7) := ⟨rfl, rfl, rfl, by decide +kernel, rfl, by decide +kernel, by decide +kernel⟩
/-- _law_rounds -/
noncomputable def c7 : List CS := [.ret (.bin .Mult false (.con (.int 4)) (.call 2 [(.var 0), (.lst false [(.con (.int 2)), (.con (.int 2)), (.con (.int 3)), (.con (.int 4)), (.con (.int 25)), (.con (.int 100)), (.bin .Add false (.con (.int 2)) (.call 1 [(.var 0), (.con (.int 99))]))])]))]
noncomputable abbrev s8 : Stmt := topS 23
noncomputable def n8 : List Str := ["_law_hand_here", "_law_first", "_law_many", "_law_often", "_law_turn", "_law_found", "_law_spot", "_law_stepped", "_law_step"]
noncomputable def p8 : List Str := ["_law_hand_here", "_law_first", "_law_many", "_law_often"]
theorem sc8 : FnScope n8 p8 (L2.defScope s8) := ⟨rfl, rfl, rfl, by decide +kernel, rfl, by decide +kernel, by decide +kernel⟩
/-- _law_spots -/
noncomputable def c8 : List CS := [.par3 5 6 7 (.lst true []) (.var 1) (.con (.bl false)),
  .for_ (.name 4) (.range1 (.var 2)) [.asg (.name 8) (.ite (.cor (.cval (.var 7)) (.ccmp .Eq (.call 1 [(.var 0), (.var 3)]) (.con (.int 0)))) (.con (.int 0)) (.bin .Sub false (.con (.int 1)) (.bin .Mult false (.con (.int 2)) (.call 1 [(.var 0), (.con (.int 2))])))),
    .par2 6 7 (.bin .Add false (.var 6) (.var 8)) (.cmp .NotEq (.var 8) (.con (.int 0))),
    .append (.var 5) (.var 6)],
  .ret (.var 5)]
noncomputable abbrev s9 : Stmt := topS 24
noncomputable def n9 : List Str := ["_law_hand_here", "_law_many", "_law_often", "_law_turn", "_law_found", "_law_free", "_law_shift"]
noncomputable def p9 : List Str := ["_law_hand_here", "_law_many", "_law_often"]
theorem sc9 : FnScope n9 p9 (L2.defScope s9) := ⟨rfl, rfl, rfl, by decide +kernel, rfl, by decide +kernel, by decide +kernel⟩
/-- _law_shifts -/
noncomputable def c9 : List CS := [.par2 4 5 (.lst true []) (.con (.int 2)),
  .for_ (.name 3) (.range1 (.var 1)) [.asg (.name 6) (.ite (.cor (.ccmp .Lt (.var 5) (.con (.int 2))) (.ccmp .Gt (.call 1 [(.var 0), (.var 2)]) (.con (.int 0)))) (.con (.int 0)) (.bin .Sub false (.con (.int 1)) (.bin .Mult false (.con (.int 2)) (.call 1 [(.var 0), (.con (.int 2))])))),
    .asg (.name 5) (.ite (.ccmp .NotEq (.var 6) (.con (.int 0))) (.con (.int 0)) (.bin .Add false (.var 5) (.con (.int 1)))),
    .append (.var 4) (.var 6)],
  .ret (.var 4)]
noncomputable abbrev s10 : Stmt := topS 11
noncomputable def n10 : List Str := ["begin"]
noncomputable def p10 : List Str := ["begin"]
theorem sc10 : FnScope n10 p10 (L2.defScope s10) := ⟨rfl, rfl, rfl, by decide +kernel, rfl, by decide +kernel, by decide +kernel⟩
/-- first_state -/
noncomputable def c10 : List CS := [.ret (.tup [(.var 0), (.con (.bl false)), (.glo 0)])]
noncomputable abbrev s11 : Stmt := inClass (topS 15) 0
noncomputable def n11 : List Str := ["self", "marks", "begin"]
noncomputable def p11 : List Str := ["self", "marks", "begin"]
theorem sc11 : FnScope n11 p11 (L2.defScope s11) := ⟨rfl, rfl, rfl, by decide +kernel, rfl, by decide +kernel, by decide +kernel⟩
/-- __init__ -/
noncomputable def c11 : List CS := [.fset "Teller" (.var 0) "teller_marks" (.var 1),
  .fset "Teller" (.var 0) "teller_begin" (.var 2),
  .fset "Teller" (.var 0) "teller_reads" (.lst true []),
  .fset "Teller" (.var 0) "teller_layers" (.lst true [(.dnew1S (.call 10 [(.var 2)]) (.con (.bl true)))])]
noncomputable abbrev s12 : Stmt := topS 28
noncomputable def n12 : List Str := ["_law_rounds_here", "_law_states", "_law_row", "_law_found", "_law_spot", "_law_last", "_law_since", "_law_step", "_law_shift"]
noncomputable def p12 : List Str := ["_law_rounds_here", "_law_states", "_law_row"]
theorem sc12 : FnScope n12 p12 (L2.defScope s12) := ⟨rfl, rfl, rfl, by decide +kernel, rfl, by decide +kernel, by decide +kernel⟩
/-- _law_onward -/
noncomputable def c12 : List CS := [.asg (.name 3) .dnew,
  .for_ (.tup [(.name 4), (.name 5), (.name 6)]) (.alt (.seq (.var 1)) (.keysF (.var 1))) [.for_ (.name 7) (.seq (.ite (.ccmp .NotEq (.var 5) (.con (.int 0))) (.tup [(.con (.int 0))]) (.tup [(.neg (.con (.int 1))), (.con (.int 0)), (.con (.int 1))]))) [.for_ (.name 8) (.seq (.ite (.ccmp .GtE (.var 6) (.con (.int 3))) (.tup [(.neg (.con (.int 1))), (.con (.int 0)), (.con (.int 1))]) (.tup [(.con (.int 0))]))) [.if_ (.ccmp .Eq (.call 4 [(.var 0), (.bin .Add false (.var 4) (.var 7)), (.var 8)]) (.var 2)) [.asg (.dsub (.var 3) [(.bin .Add false (.var 4) (.var 7)), (.var 7), (.ite (.ccmp .NotEq (.var 8) (.con (.int 0))) (.con (.int 1)) (.bi .min2 false [(.con (.int 3)), (.bin .Add false (.var 6) (.con (.int 1)))]))]) (.con (.bl true))] []]]],
  .ret (.var 3)]
noncomputable abbrev s13 : Stmt := topS 12
noncomputable def n13 : List Str := ["state", "place", "off", "step", "ahead", "stepped", "right"]
noncomputable def p13 : List Str := ["state", "place", "off"]
theorem sc13 : FnScope n13 p13 (L2.defScope s13) := ⟨rfl, rfl, rfl, by decide +kernel, rfl, by decide +kernel, by decide +kernel⟩
/-- onward -/
noncomputable def c13 : List CS := [.asg (.tup [(.name 4), (.name 5), (.name 6)]) (.var 0),
  .asg (.name 3) (.bin .Sub false (.var 1) (.var 4)),
  .if_ (.cor (.ccmp .NotIn (.var 3) (.glo 1)) (.ccmp .NotIn (.var 2) (.glo 1))) [.ret (.con .non)] [],
  .if_ (.cor (.cand (.ccmp .NotEq (.var 3) (.con (.int 0))) (.cval (.var 5))) (.cand (.ccmp .NotEq (.var 2) (.con (.int 0))) (.ccmp .Lt (.var 6) (.glo 0)))) [.ret (.con .non)] [],
  .ret (.tup [(.var 1), (.cmp .NotEq (.var 3) (.con (.int 0))), (.ite (.ccmp .NotEq (.var 2) (.con (.int 0))) (.con (.int 0)) (.bi .min2 false [(.glo 0), (.bin .Add false (.var 6) (.con (.int 1)))]))])]
noncomputable abbrev s14 : Stmt := topS 7
noncomputable def n14 : List Str := ["marks", "place", "off", "first", "second"]
noncomputable def p14 : List Str := ["marks", "place", "off"]
theorem sc14 : FnScope n14 p14 (L2.defScope s14) := ⟨rfl, rfl, rfl, by decide +kernel, rfl, by decide +kernel, by decide +kernel⟩
/-- read_of -/
noncomputable def c14 : List CS := [.asg (.tup [(.name 3), (.name 4)]) (.ix (.glo 2) (.bin .Mod false (.bin .Add false (.var 1) (.var 2)) (.bi .len false [(.glo 2)]))),
  .ret (.tup [(.var 3), (.var 4), (.bi .int1 false [(.cmp .Eq (.bin .Mod false (.var 1) (.var 0)) (.con (.int 0)))])])]
noncomputable abbrev s15 : Stmt := topS 13
noncomputable def n15 : List Str := ["marks", "state", "read", "found", "step", "off", "place", "then"]
noncomputable def p15 : List Str := ["marks", "state", "read"]
theorem sc15 : FnScope n15 p15 (L2.defScope s15) := ⟨rfl, rfl, rfl, by decide +kernel, rfl, by decide +kernel, by decide +kernel⟩
/-- parts_from -/
noncomputable def c15 : List CS := [.asg (.name 3) (.lst true []),
  .for_ (.name 4) (.seq (.glo 1)) [.for_ (.name 5) (.seq (.glo 1)) [.asg (.name 6) (.bin .Add false (.ix (.var 1) (.con (.int 0))) (.var 4)),
    .asg (.name 7) (.call 13 [(.var 1), (.var 6), (.var 5)]),
    .if_ (.cand (.ccmp .IsNot (.var 7) (.con .non)) (.ccmp .Eq (.call 14 [(.var 0), (.var 6), (.var 5)]) (.var 2))) [.append (.var 3) (.tup [(.tup [(.var 6), (.var 5)]), (.var 7)])] []]],
  .ret (.var 3)]
noncomputable abbrev s16 : Stmt := inClass (topS 15) 8
noncomputable def n16 : List Str := ["self", "end", "last", "found", "tick", "state", "read", "ahead", "part", "then"]
noncomputable def p16 : List Str := ["self", "end"]
theorem sc16 : FnScope n16 p16 (L2.defScope s16) := ⟨rfl, rfl, rfl, by decide +kernel, rfl, by decide +kernel, by decide +kernel⟩
/-- alive -/
noncomputable def c16 : List CS := [.lockS (.asg (.name 2) (.dcS (.var 5) (.con (.bl true)) (.name 5) (.skeys (.ix (.fld "Teller" (.var 0) "teller_layers") (.neg (.con (.int 1))))) [(.ccmp .Eq (.ix (.var 5) (.con (.int 0))) (.var 1))] [5])),
  .asg (.name 3) (.lst true [(.var 2)]),
  .for_ (.name 4) (.range3 (.bin .Sub false (.bi .len false [(.fld "Teller" (.var 0) "teller_reads")]) (.con (.int 1))) (.neg (.con (.int 1))) (.neg (.con (.int 1)))) [.par2 6 7 (.ix (.fld "Teller" (.var 0) "teller_reads") (.var 4)) .dnewS,
    .lockS (.for_ (.name 5) (.skeys (.ix (.fld "Teller" (.var 0) "teller_layers") (.var 4))) [.if_ (.cval (.bi .any1 false [(.lc false (.inS (.var 9) (.var 2)) (.tup [(.name 8), (.name 9)]) (.seq (.call 15 [(.fld "Teller" (.var 0) "teller_marks"), (.var 5), (.var 6)])) [] [8, 9])])) [.asg (.sput (.var 7) (.var 5)) (.con (.bl true))] []]),
    .asg (.name 2) (.var 7),
    .append (.var 3) (.var 2)],
  .ret (.revL false (.var 3))]
noncomputable abbrev s17 : Stmt := topS 6
noncomputable def n17 : List Str := ["thing"]
noncomputable def p17 : List Str := ["thing"]
theorem sc17 : FnScope n17 p17 (L2.defScope s17) := ⟨rfl, rfl, rfl, by decide +kernel, rfl, by decide +kernel, by decide +kernel⟩
/-- is_whole -/
noncomputable def c17 : List CS := [.ret (.and_ (.isi .int (.var 0)) (.not_ (.isi .bool (.var 0))))]
noncomputable abbrev s18 : Stmt := inClass (topS 15) 9
noncomputable def n18 : List Str := ["self", "place", "alive", "state", "found", "tick", "read", "some", "part", "pair"]
noncomputable def p18 : List Str := ["self", "place"]
theorem sc18 : FnScope n18 p18 (L2.defScope s18) := ⟨rfl, rfl, rfl, by decide +kernel, rfl, by decide +kernel, by decide +kernel⟩
/-- tale -/
noncomputable def c18 : List CS := [.if_ (.cor (.cnot (.cval (.call 17 [(.var 1)]))) (.ccmp .NotIn (.var 1) (.meth "Teller" (.var 0) "fits" 6 []))) [.never] [],
  .asg (.name 2) (.meth "Teller" (.var 0) "alive" 16 [(.var 1)]),
  .par2 3 4 (.call 10 [(.fld "Teller" (.var 0) "teller_begin")]) (.lst true []),
  .for_ (.tup [(.name 5), (.name 6)]) (.enum (.fld "Teller" (.var 0) "teller_reads")) [.setLc 7 (.lc false (.var 9) (.name 9) (.seq (.call 15 [(.fld "Teller" (.var 0) "teller_marks"), (.var 3), (.var 6)])) [(.cinS (.ix (.var 9) (.con (.int 1))) (.ix (.var 2) (.bin .Add false (.var 5) (.con (.int 1)))))] [9]),
    .asg (.tup [(.name 8), (.name 3)]) (.ix (.var 7) (.con (.int 0))),
    .append (.var 4) (.var 8)],
  .ret (.bi .tuple1 false [(.var 4)])]
noncomputable abbrev s19 : Stmt := topS 25
noncomputable def n19 : List Str := ["_law_item"]
noncomputable def p19 : List Str := ["_law_item"]
theorem sc19 : FnScope n19 p19 (L2.defScope s19) := ⟨rfl, rfl, rfl, by decide +kernel, rfl, by decide +kernel, by decide +kernel⟩
/-- _law_is_whole -/
noncomputable def c19 : List CS := [.ret (.and_ (.isi .int (.var 0)) (.not_ (.isi .bool (.var 0))))]
noncomputable abbrev s20 : Stmt := topS 26
noncomputable def n20 : List Str := ["_law_rounds_here", "_law_first", "_law_rows", "_law_item", "_law_part", "_law_steps", "_law_offs", "_law_spots_here", "_law_shifts_here", "_law_one", "_law_other", "_law_at", "_law_shift", "_law_spot"]
noncomputable def p20 : List Str := ["_law_rounds_here", "_law_first", "_law_rows", "_law_item"]
theorem sc20 : FnScope n20 p20 (L2.defScope s20) := ⟨rfl, rfl, rfl, by decide +kernel, rfl, by decide +kernel, by decide +kernel⟩
/-- _law_is_so -/
noncomputable def c20 : List CS := [.if_ (.cor (.cnot (.cval (.isi .tuple (.var 3)))) (.ccmp .NotEq (.bi .len false [(.var 3)]) (.bi .len false [(.var 2)]))) [.ret (.con (.bl false))] [],
  .for_ (.name 4) (.seq (.var 3)) [.if_ (.cor (.cnot (.cval (.isi .tuple (.var 4)))) (.cor (.ccmp .NotEq (.bi .len false [(.var 4)]) (.con (.int 2))) (.cnot (.cval (.bi .all1 false [(.lc false (.call 19 [(.var 9)]) (.name 9) (.seq (.var 4)) [] [9])]))))) [.ret (.con (.bl false))] []],
  .par2 7 8 (.bin .Add false (.lst false [(.var 1)]) (.lc false (.ix (.var 4) (.con (.int 0))) (.name 4) (.seq (.var 3)) [] [4])) (.lc false (.ix (.var 4) (.con (.int 1))) (.name 4) (.seq (.var 3)) [] [4]),
  .setLc 5 (.lc false (.bin .Sub false (.var 10) (.var 9)) (.tup [(.name 9), (.name 10)]) (.zip2 (.var 7) (.sl false (.var 7) (.yes (.con (.int 1))) .no)) [] [9, 10]),
  .if_ (.cnot (.cval (.bi .all1 false [(.lc false (.chain .LtE .LtE (.neg (.con (.int 1))) (.var 9) (.con (.int 1))) (.name 9) (.seq (.bin .Add false (.var 5) (.var 8))) [] [9])]))) [.ret (.con (.bl false))] [],
  .if_ (.cval (.bi .any1 false [(.lc false (.and_ (.cmp .NotEq (.var 9) (.con (.int 0))) (.cmp .NotEq (.var 10) (.con (.int 0)))) (.tup [(.name 9), (.name 10)]) (.zip2 (.var 5) (.sl false (.var 5) (.yes (.con (.int 1))) .no)) [] [9, 10])])) [.ret (.con (.bl false))] [],
  .setLc 6 (.lc false (.var 11) (.tup [(.name 11), (.name 12)]) (.enum (.var 8)) [(.ccmp .NotEq (.var 12) (.con (.int 0)))] [11, 12]),
  .if_ (.cval (.bi .any1 false [(.lc false (.cmp .Lt (.bin .Sub false (.var 10) (.var 9)) (.con (.int 3))) (.tup [(.name 9), (.name 10)]) (.zip2 (.var 6) (.sl false (.var 6) (.yes (.con (.int 1))) .no)) [] [9, 10])])) [.ret (.con (.bl false))] [],
  .ret (.cmp .Eq (.lc false (.call 4 [(.var 0), (.var 13), (.var 12)]) (.tup [(.name 13), (.name 12)]) (.seq (.var 3)) [] [13, 12]) (.bi .list1 false [(.var 2)]))]
noncomputable abbrev s21 : Stmt := topS 29
noncomputable def n21 : List Str := ["_law_rounds_here", "_law_first", "_law_rows", "_law_item", "_law_row", "_law_states", "_law_at", "_law_alive", "_law_here", "_law_layers", "_law_part", "_law_pairs", "_law_then", "_law_state", "_law_shift", "_law_one", "_law_is_so_here", "_law_pair"]
noncomputable def p21 : List Str := ["_law_rounds_here", "_law_first", "_law_rows", "_law_item"]
theorem sc21 : FnScope n21 p21 (L2.defScope s21) := ⟨rfl, rfl, rfl, by decide +kernel, rfl, by decide +kernel, by decide +kernel⟩
/-- _law_least -/
noncomputable def c21 : List CS := [.par2 9 7 (.lst true [(.dnew1 [(.var 1), (.con (.int 0)), (.con (.int 3))] (.con (.bl true)))]) (.lst true []),
  .for_ (.name 4) (.seq (.var 2)) [.append (.var 9) (.call 12 [(.var 0), (.ix (.var 9) (.neg (.con (.int 1)))), (.var 4)])],
  .asg (.name 5) (.lc false (.var 13) (.name 13) (.keysF (.ix (.var 9) (.neg (.con (.int 1))))) [(.ccmp .Eq (.ix (.var 13) (.con (.int 0))) (.ix (.ix (.var 3) (.neg (.con (.int 1)))) (.con (.int 0))))] [13]),
  .append (.var 7) (.var 5),
  .for_ (.name 6) (.range3 (.bin .Sub false (.bi .len false [(.var 2)]) (.con (.int 1))) (.neg (.con (.int 1))) (.neg (.con (.int 1)))) [.asg (.name 5) (.lc false (.var 15) (.name 15) (.keysF (.ix (.var 9) (.var 6))) [(.cval (.bi .any1 false [(.lc false (.cmp .In (.var 12) (.var 5)) (.name 12) (.keysF (.call 12 [(.var 0), (.lst false [(.var 15)]), (.ix (.var 2) (.var 6))])) [] [12])]))] [15]),
    .append (.var 7) (.var 5)],
  .asg (.name 7) (.revL true (.var 7)),
  .asg (.name 8) (.tup [(.var 1), (.con (.int 0)), (.con (.int 3))]),
  .for_ (.tup [(.name 6), (.name 10)]) (.enum (.var 3)) [.asg (.name 11) (.lst true []),
    .for_ (.name 12) (.keysF (.call 12 [(.var 0), (.lst false [(.var 8)]), (.ix (.var 2) (.var 6))])) [.for_ (.name 14) (.seq (.tup [(.neg (.con (.int 1))), (.con (.int 0)), (.con (.int 1))])) [.asg (.name 16) (.and_ (.cmp .Eq (.cmp .NotEq (.var 14) (.con (.int 0))) (.cmp .Eq (.ix (.var 12) (.con (.int 2))) (.con (.int 1)))) (.cmp .Eq (.call 4 [(.var 0), (.ix (.var 12) (.con (.int 0))), (.var 14)]) (.ix (.var 2) (.var 6)))),
    .extend (.var 11) (.bin .Mult false (.lst false [(.tup [(.tup [(.ix (.var 12) (.con (.int 0))), (.var 14)]), (.var 12)])]) (.bi .int1 false [(.and_ (.var 16) (.cmp .In (.var 12) (.ix (.var 7) (.bin .Add false (.var 6) (.con (.int 1))))))]))]],
    .if_ (.ccmp .NotEq (.ix (.bi .minD false [(.var 11)]) (.con (.int 0))) (.var 10)) [.ret (.con (.bl false))] [],
    .asg (.name 8) (.ix (.lc false (.var 12) (.tup [(.name 17), (.name 12)]) (.seq (.var 11)) [(.ccmp .Eq (.var 17) (.var 10))] [17, 12]) (.con (.int 0)))],
  .ret (.con (.bl true))]
noncomputable abbrev s22 : Stmt := inClass (topS 15) 3
noncomputable def n22 : List Str := ["self", "read", "layer", "state", "part", "then"]
noncomputable def p22 : List Str := ["self", "read"]
theorem sc22 : FnScope n22 p22 (L2.defScope s22) := ⟨rfl, rfl, rfl, by decide +kernel, rfl, by decide +kernel, by decide +kernel⟩
/-- take -/
noncomputable def c22 : List CS := [.asg (.name 2) .dnewS,
  .lockS (.for_ (.name 3) (.skeys (.ix (.fld "Teller" (.var 0) "teller_layers") (.neg (.con (.int 1))))) [.for_ (.tup [(.name 4), (.name 5)]) (.seq (.call 15 [(.fld "Teller" (.var 0) "teller_marks"), (.var 3), (.var 1)])) [.asg (.sput (.var 2) (.var 5)) (.con (.bl true))]]),
  .append (.fld "Teller" (.var 0) "teller_reads") (.var 1),
  .append (.fld "Teller" (.var 0) "teller_layers") (.var 2),
  .ret (.cmp .Gt (.lenS (.var 2)) (.con (.int 0)))]
noncomputable abbrev s23 : Stmt := inClass (topS 15) 5
noncomputable def n23 : List Str := ["self", "fits"]
noncomputable def p23 : List Str := ["self"]
theorem sc23 : FnScope n23 p23 (L2.defScope s23) := ⟨rfl, rfl, rfl, by decide +kernel, rfl, by decide +kernel, by decide +kernel⟩
/-- place -/
noncomputable def c23 : List CS := [.asg (.name 1) (.meth "Teller" (.var 0) "fits" 6 []),
  .ret (.ite (.ccmp .NotEq (.var 1) (.tup [])) (.bin .FloorDiv false (.bin .Add false (.ix (.var 1) (.con (.int 0))) (.ix (.var 1) (.neg (.con (.int 1))))) (.con (.int 2))) (.con .non))]
noncomputable abbrev s24 : Stmt := topS 30
noncomputable def n24 : List Str := ["_law_script", "_law_k", "_law_hand_here", "_law_first", "_law_rows", "_law_kept", "_law_end", "_law_rounds_here", "_law_many", "_law_spots_here", "_law_shifts_here", "_law_teller", "_law_states", "_law_looked", "_law_at", "_law_row", "_law_due", "_law_told", "_law_shown", "_law_state"]
noncomputable def p24 : List Str := ["_law_script"]
theorem sc24 : FnScope n24 p24 (L2.defScope s24) := ⟨rfl, rfl, rfl, by decide +kernel, rfl, by decide +kernel, by decide +kernel⟩
/-- law -/
noncomputable def c24 : List CS := [.for_ (.name 1) (.range1 (.bi .max2 false [(.con (.int 1)), (.bi .min2 false [(.con (.int 3)), (.bi .len false [(.var 0)])])])) [.asg (.name 2) (.call 0 [(.var 0), (.var 1)]),
    .par2 7 8 (.call 7 [(.var 2)]) (.bin .Add false (.con (.int 1)) (.call 1 [(.var 2), (.con (.int 250))])),
    .asg (.name 3) (.call 3 [(.var 2), (.var 7)]),
    .par2 9 10 (.call 8 [(.var 2), (.var 3), (.var 8), (.call 2 [(.var 2), (.lst false [(.con (.int 2)), (.con (.int 5))])])]) (.call 9 [(.var 2), (.var 8), (.con (.int 3))]),
    .asg (.name 4) (.call 5 [(.var 2), (.var 7), (.var 9), (.var 10)]),
    .par3 11 12 13 (.mk "Teller" 11 [(.var 7), (.var 3)]) (.dnew1 [(.var 3), (.con (.int 0)), (.con (.int 3))] (.con (.bl true))) (.bin .Add false (.con (.int 10)) (.call 1 [(.var 2), (.con (.int 60))])),
    .asg (.name 5) (.lst true []),
    .for_ (.tup [(.name 14), (.name 15)]) (.enum (.var 4)) [.asg (.name 12) (.call 12 [(.var 7), (.var 12), (.var 15)]),
    .asg (.name 16) (.bi .tuple1 false [(.sSet false (.lc false (.ix (.var 19) (.con (.int 0))) (.name 19) (.keysF (.var 12)) [] [19]))]),
    .if_ (.cor (.ccmp .NotEq (.bi .repr1 false [(.meth "Teller" (.var 11) "take" 22 [(.var 15)])]) (.bi .repr1 false [(.cmp .NotEq (.var 16) (.tup []))])) (.ccmp .NotEq (.bi .repr1 false [(.meth "Teller" (.var 11) "fits" 6 [])]) (.bi .repr1 false [(.var 16)]))) [.ret (.con (.bl false))] [],
    .if_ (.cand (.ccmp .NotEq (.var 16) (.tup [])) (.ccmp .Eq (.bin .Mod false (.var 14) (.var 13)) (.con (.int 0)))) [.asg (.name 17) (.meth "Teller" (.var 11) "tale" 18 [(.ix (.var 16) (.neg (.con (.int 1))))]),
    .append (.var 5) (.tup [(.var 17), (.bi .repr1 false [(.var 17)])]),
    .if_ (.cor (.cnot (.cval (.call 20 [(.var 7), (.var 3), (.sl false (.var 4) .no (.yes (.bin .Add false (.var 14) (.con (.int 1))))), (.var 17)]))) (.ccmp .NotEq (.ix (.ix (.var 17) (.neg (.con (.int 1)))) (.con (.int 0))) (.ix (.var 16) (.neg (.con (.int 1)))))) [.ret (.con (.bl false))] []] []],
    .for_ (.name 6) (.seq (.meth "Teller" (.var 11) "fits" 6 [])) [.asg (.name 17) (.meth "Teller" (.var 11) "tale" 18 [(.var 6)]),
    .if_ (.cor (.cnot (.cval (.call 20 [(.var 7), (.var 3), (.var 4), (.var 17)]))) (.cnot (.cval (.call 21 [(.var 7), (.var 3), (.var 4), (.var 17)])))) [.ret (.con (.bl false))] []],
    .if_ (.cnot (.cval (.bi .all1 false [(.lc false (.cmp .Eq (.bi .repr1 false [(.var 17)]) (.var 18)) (.tup [(.name 17), (.name 18)]) (.seq (.var 5)) [] [17, 18])]))) [.ret (.con (.bl false))] [],
    .while_ (.cand (.cdnil (.var 12) .dnew) (.ccmp .Lt (.bi .len false [(.var 4)]) (.con (.int 260)))) [.append (.var 4) (.call 4 [(.var 7), (.var 3), (.con (.int 0))]),
    .if_ (.cor (.ccmp .IsNot (.meth "Teller" (.var 11) "take" 22 [(.ix (.var 4) (.neg (.con (.int 1))))]) (.con (.bl false))) (.cor (.ccmp .NotEq (.meth "Teller" (.var 11) "fits" 6 []) (.tup [])) (.ccmp .IsNot (.meth "Teller" (.var 11) "place" 23 []) (.con .non)))) [.ret (.con (.bl false))] []]],
  .ret (.con (.bl true))]
noncomputable def gls : List Str := ["APART", "STEPS", "PHASES"]
noncomputable def glD : Nat → D := fun j => match j with | 0 => (.int (2)) | 1 => (.tup [(.int (-1)), (.int (0)), (.int (1))]) | 2 => (.tup [(.tup [(.int (0)), (.int (0))]), (.tup [(.int (0)), (.int (1))]), (.tup [(.int (1)), (.int (1))]), (.tup [(.int (1)), (.int (0))])]) | _ => .non
noncomputable def bis : List Str := ["abs", "all", "any", "bool", "enumerate", "int", "isinstance", "len", "list", "max", "min", "range", "repr", "set", "sorted", "tuple", "zip"]
noncomputable def cls : List CIn := [⟨"Teller", ["teller_marks", "teller_begin", "teller_reads", "teller_layers"], false⟩]
noncomputable def i0 : FI := ⟨"_law_hand", p0, [], false, none, 0⟩
noncomputable def i1 : FI := ⟨"_law_take", p1, [], false, none, 0⟩
noncomputable def i2 : FI := ⟨"_law_pick", p2, [], false, none, 0⟩
noncomputable def i3 : FI := ⟨"_law_begin", p3, [], false, none, 0⟩
noncomputable def i4 : FI := ⟨"_law_signs", p4, [], false, none, 0⟩
noncomputable def i5 : FI := ⟨"_law_bent", p5, [], false, none, 0⟩
noncomputable def i6 : FI := ⟨"fits", p6, [], false, (some "Teller"), 0⟩
noncomputable def i7 : FI := ⟨"_law_rounds", p7, [], false, none, 0⟩
noncomputable def i8 : FI := ⟨"_law_spots", p8, [], false, none, 0⟩
noncomputable def i9 : FI := ⟨"_law_shifts", p9, [], false, none, 0⟩
noncomputable def i10 : FI := ⟨"first_state", p10, [], false, none, 0⟩
noncomputable def i11 : FI := ⟨"__init__", p11, [], false, (some "Teller"), 1⟩
noncomputable def i12 : FI := ⟨"_law_onward", p12, [], false, none, 0⟩
noncomputable def i13 : FI := ⟨"onward", p13, [], false, none, 0⟩
noncomputable def i14 : FI := ⟨"read_of", p14, [], false, none, 0⟩
noncomputable def i15 : FI := ⟨"parts_from", p15, [], false, none, 0⟩
noncomputable def i16 : FI := ⟨"alive", p16, [], false, (some "Teller"), 0⟩
noncomputable def i17 : FI := ⟨"is_whole", p17, [], false, none, 0⟩
noncomputable def i18 : FI := ⟨"tale", p18, [], false, (some "Teller"), 0⟩
noncomputable def i19 : FI := ⟨"_law_is_whole", p19, [], false, none, 0⟩
noncomputable def i20 : FI := ⟨"_law_is_so", p20, [], false, none, 0⟩
noncomputable def i21 : FI := ⟨"_law_least", p21, [], false, none, 0⟩
noncomputable def i22 : FI := ⟨"take", p22, [], false, (some "Teller"), 0⟩
noncomputable def i23 : FI := ⟨"place", p23, [], false, (some "Teller"), 0⟩
noncomputable def T0 : Tb := ⟨[], cls, gls, bis, false, {}⟩
noncomputable def T1 : Tb := ⟨[i0], cls, gls, bis, false, {}⟩
noncomputable def T2 : Tb := ⟨[i0, i1], cls, gls, bis, false, {}⟩
noncomputable def T3 : Tb := ⟨[i0, i1, i2], cls, gls, bis, false, {}⟩
noncomputable def T4 : Tb := ⟨[i0, i1, i2, i3], cls, gls, bis, false, {}⟩
noncomputable def T5 : Tb := ⟨[i0, i1, i2, i3, i4], cls, gls, bis, false, {}⟩
noncomputable def T6 : Tb := ⟨[i0, i1, i2, i3, i4, i5], cls, gls, bis, false, {}⟩
noncomputable def T7 : Tb := ⟨[i0, i1, i2, i3, i4, i5, i6], cls, gls, bis, false, {}⟩
noncomputable def T8 : Tb := ⟨[i0, i1, i2, i3, i4, i5, i6, i7], cls, gls, bis, false, {}⟩
noncomputable def T9 : Tb := ⟨[i0, i1, i2, i3, i4, i5, i6, i7, i8], cls, gls, bis, false, {}⟩
noncomputable def T10 : Tb := ⟨[i0, i1, i2, i3, i4, i5, i6, i7, i8, i9], cls, gls, bis, false, {}⟩
noncomputable def T11 : Tb := ⟨[i0, i1, i2, i3, i4, i5, i6, i7, i8, i9, i10], cls, gls, bis, false, {}⟩
noncomputable def T12 : Tb := ⟨[i0, i1, i2, i3, i4, i5, i6, i7, i8, i9, i10, i11], cls, gls, bis, false, {}⟩
noncomputable def T13 : Tb := ⟨[i0, i1, i2, i3, i4, i5, i6, i7, i8, i9, i10, i11, i12], cls, gls, bis, false, {}⟩
noncomputable def T14 : Tb := ⟨[i0, i1, i2, i3, i4, i5, i6, i7, i8, i9, i10, i11, i12, i13], cls, gls, bis, false, {}⟩
noncomputable def T15 : Tb := ⟨[i0, i1, i2, i3, i4, i5, i6, i7, i8, i9, i10, i11, i12, i13, i14], cls, gls, bis, false, {}⟩
noncomputable def T16 : Tb := ⟨[i0, i1, i2, i3, i4, i5, i6, i7, i8, i9, i10, i11, i12, i13, i14, i15], cls, gls, bis, false, {}⟩
noncomputable def T17 : Tb := ⟨[i0, i1, i2, i3, i4, i5, i6, i7, i8, i9, i10, i11, i12, i13, i14, i15, i16], cls, gls, bis, false, {}⟩
noncomputable def T18 : Tb := ⟨[i0, i1, i2, i3, i4, i5, i6, i7, i8, i9, i10, i11, i12, i13, i14, i15, i16, i17], cls, gls, bis, false, {}⟩
noncomputable def T19 : Tb := ⟨[i0, i1, i2, i3, i4, i5, i6, i7, i8, i9, i10, i11, i12, i13, i14, i15, i16, i17, i18], cls, gls, bis, false, {}⟩
noncomputable def T20 : Tb := ⟨[i0, i1, i2, i3, i4, i5, i6, i7, i8, i9, i10, i11, i12, i13, i14, i15, i16, i17, i18, i19], cls, gls, bis, false, {}⟩
noncomputable def T21 : Tb := ⟨[i0, i1, i2, i3, i4, i5, i6, i7, i8, i9, i10, i11, i12, i13, i14, i15, i16, i17, i18, i19, i20], cls, gls, bis, false, {}⟩
noncomputable def T22 : Tb := ⟨[i0, i1, i2, i3, i4, i5, i6, i7, i8, i9, i10, i11, i12, i13, i14, i15, i16, i17, i18, i19, i20, i21], cls, gls, bis, false, {}⟩
noncomputable def T23 : Tb := ⟨[i0, i1, i2, i3, i4, i5, i6, i7, i8, i9, i10, i11, i12, i13, i14, i15, i16, i17, i18, i19, i20, i21, i22], cls, gls, bis, false, {}⟩
noncomputable def T24 : Tb := ⟨[i0, i1, i2, i3, i4, i5, i6, i7, i8, i9, i10, i11, i12, i13, i14, i15, i16, i17, i18, i19, i20, i21, i22, i23], cls, gls, bis, false, {}⟩
theorem ok0 : okSs T0 n0 ⟨L2.defScope s0, L2.defScope s0⟩ c0 (L2.defBody s0) = true := by decide +kernel
theorem ok1 : okSs T1 n1 ⟨L2.defScope s1, L2.defScope s1⟩ c1 (L2.defBody s1) = true := by decide +kernel
theorem ok2 : okSs T2 n2 ⟨L2.defScope s2, L2.defScope s2⟩ c2 (L2.defBody s2) = true := by decide +kernel
theorem ok3 : okSs T3 n3 ⟨L2.defScope s3, L2.defScope s3⟩ c3 (L2.defBody s3) = true := by decide +kernel
theorem ok4 : okSs T4 n4 ⟨L2.defScope s4, L2.defScope s4⟩ c4 (L2.defBody s4) = true := by decide +kernel
theorem ok5 : okSs T5 n5 ⟨L2.defScope s5, L2.defScope s5⟩ c5 (L2.defBody s5) = true := by decide +kernel
theorem ok6 : okSs T6 n6 ⟨L2.defScope s6, L2.defScope s6⟩ c6 (L2.defBody s6) = true := by decide +kernel
theorem ok7 : okSs T7 n7 ⟨L2.defScope s7, L2.defScope s7⟩ c7 (L2.defBody s7) = true := by decide +kernel
theorem ok8 : okSs T8 n8 ⟨L2.defScope s8, L2.defScope s8⟩ c8 (L2.defBody s8) = true := by decide +kernel
theorem ok9 : okSs T9 n9 ⟨L2.defScope s9, L2.defScope s9⟩ c9 (L2.defBody s9) = true := by decide +kernel
theorem ok10 : okSs T10 n10 ⟨L2.defScope s10, L2.defScope s10⟩ c10 (L2.defBody s10) = true := by decide +kernel
theorem ok11 : okSs T11 n11 ⟨L2.defScope s11, L2.defScope s11⟩ c11 (L2.defBody s11) = true := by decide +kernel
theorem ok12 : okSs T12 n12 ⟨L2.defScope s12, L2.defScope s12⟩ c12 (L2.defBody s12) = true := by decide +kernel
theorem ok13 : okSs T13 n13 ⟨L2.defScope s13, L2.defScope s13⟩ c13 (L2.defBody s13) = true := by decide +kernel
theorem ok14 : okSs T14 n14 ⟨L2.defScope s14, L2.defScope s14⟩ c14 (L2.defBody s14) = true := by decide +kernel
theorem ok15 : okSs T15 n15 ⟨L2.defScope s15, L2.defScope s15⟩ c15 (L2.defBody s15) = true := by decide +kernel
theorem ok16 : okSs T16 n16 ⟨L2.defScope s16, L2.defScope s16⟩ c16 (L2.defBody s16) = true := by decide +kernel
theorem ok17 : okSs T17 n17 ⟨L2.defScope s17, L2.defScope s17⟩ c17 (L2.defBody s17) = true := by decide +kernel
theorem ok18 : okSs T18 n18 ⟨L2.defScope s18, L2.defScope s18⟩ c18 (L2.defBody s18) = true := by decide +kernel
theorem ok19 : okSs T19 n19 ⟨L2.defScope s19, L2.defScope s19⟩ c19 (L2.defBody s19) = true := by decide +kernel
theorem ok20 : okSs T20 n20 ⟨L2.defScope s20, L2.defScope s20⟩ c20 (L2.defBody s20) = true := by decide +kernel
theorem ok21 : okSs T21 n21 ⟨L2.defScope s21, L2.defScope s21⟩ c21 (L2.defBody s21) = true := by decide +kernel
theorem ok22 : okSs T22 n22 ⟨L2.defScope s22, L2.defScope s22⟩ c22 (L2.defBody s22) = true := by decide +kernel
theorem ok23 : okSs T23 n23 ⟨L2.defScope s23, L2.defScope s23⟩ c23 (L2.defBody s23) = true := by decide +kernel
theorem ok24 : okSs T24 n24 ⟨L2.defScope s24, L2.defScope s24⟩ c24 (L2.defBody s24) = true := by decide +kernel
end Law_k07
namespace Law_k07
open PySem PySem.Spec PyProof.Rows L2 DL
noncomputable def spRounds (ds : List D) (S : DStore) (Q : QE) : Prop := ∃ (n : Nat) (T : Int), ds = [.ref n] ∧ Pot n T S ∧ T < 1000000 ∧ ∀ (m : Int) S', 8 ≤ m → m ≤ 400 → Pot n (T + 2) S' → Fr n S S' → Q (.int m) S'
theorem spRounds_len : ∀ ds S Q, spRounds ds S Q → ds.length = 1 := by rintro _ _ _ ⟨_, _, rfl, _⟩; rfl
noncomputable def spBegin (ds : List D) (S : DStore) (Q : QE) : Prop := ∃ (n : Nat) (T m : Int), ds = [.ref n, .int m] ∧ Pot n T S ∧ T < 1000000 ∧ 8 ≤ m ∧ m ≤ 400 ∧ ∀ (b : Int) S', -2000 ≤ b → b ≤ 2000 → Pot n (T + 4) S' → Fr n S S' → Q (.int b) S'
theorem spBegin_len : ∀ ds S Q, spBegin ds S Q → ds.length = 2 := by rintro _ _ _ ⟨_, _, _, rfl, _⟩; rfl
noncomputable def spSpots (ds : List D) (S : DStore) (Q : QE) : Prop := ∃ (n : Nat) (T b k f : Int), ds = [.ref n, .int b, .int k, .int f] ∧ Pot n T S ∧ T < 2000000 ∧ 0 ≤ k ∧ k ≤ 400 ∧ 0 < f ∧ f < 2 ^ 60 ∧
  ∀ (q : Nat) (ws : List Int) S', Pot n (T + 2 * k) S' → Fr n S S' → S.length ≤ q → S'[q]? = some (.lst (ws.map D.int)) → (ws.length : Int) = k → Q (.ref q) S'
theorem spSpots_len : ∀ ds S Q, spSpots ds S Q → ds.length = 4 := by rintro _ _ _ ⟨_, _, _, _, _, rfl, _⟩; rfl
noncomputable def spShifts (ds : List D) (S : DStore) (Q : QE) : Prop := ∃ (n : Nat) (T k f : Int), ds = [.ref n, .int k, .int f] ∧ Pot n T S ∧ T < 2000000 ∧ 0 ≤ k ∧ k ≤ 400 ∧ 0 < f ∧ f < 2 ^ 60 ∧
  ∀ (q : Nat) (ws : List Int) S', Pot n (T + 2 * k) S' → Fr n S S' → S.length ≤ q → S'[q]? = some (.lst (ws.map D.int)) → (ws.length : Int) = k → Q (.ref q) S'
theorem spShifts_len : ∀ ds S Q, spShifts ds S Q → ds.length = 3 := by rintro _ _ _ ⟨_, _, _, _, rfl, _⟩; rfl
noncomputable def spSg (ds : List D) (S : DStore) (Q : QE) : Prop := ∃ m p o : Int, ds = [.int m, .int p, .int o] ∧ 8 ≤ m ∧ m ≤ 400 ∧ Q (r3D (rdT m p o)) S
theorem spSg_len : ∀ ds S Q, spSg ds S Q → ds.length = 3 := by rintro _ _ _ ⟨_, _, _, rfl, _⟩; rfl
noncomputable def spPk (ds : List D) (S : DStore) (Q : QE) : Prop := spPick ds S Q ∨ ∃ (n q : Nat) (T : Int) (xs : List D), ds = [.ref n, .ref q] ∧ Pot n T S ∧ T < 1000000 ∧ S[q]? = some (.lst xs) ∧ q ≠ n ∧ xs ≠ [] ∧ xs.length ≤ 100000 ∧ ∀ y S', y ∈ xs → Pot n (T + 1) S' → Fr n S S' → Q y S'
theorem spPk_len : ∀ ds S Q, spPk ds S Q → ds.length = 2 := by
  rintro ds S Q (h | ⟨_, _, _, _, rfl, _⟩)
  · exact spPick_len ds S Q h
  · rfl
noncomputable def spBent (ds : List D) (S : DStore) (Q : QE) : Prop := ∃ (n p v : Nat) (T m : Int) (ws vs : List Int), ds = [.ref n, .int m, .ref p, .ref v] ∧ Pot n T S ∧ T < 2000000 ∧ 8 ≤ m ∧ m ≤ 400 ∧ S[p]? = some (.lst (ws.map D.int)) ∧ S[v]? = some (.lst (vs.map D.int)) ∧ p ≠ n ∧ v ≠ n ∧ ws.length = vs.length ∧ 1 ≤ ws.length ∧ ws.length ≤ 300 ∧
  ∀ (q : Nat) (rs : List R3) S', Pot n (T + 3) S' → Fr n S S' → S.length ≤ q → S'[q]? = some (.lst (rs.map r3D)) → rs.length = ws.length → Q (.ref q) S'
theorem spBent_len : ∀ ds S Q, spBent ds S Q → ds.length = 4 := by rintro _ _ _ ⟨_, _, _, _, _, _, _, rfl, _⟩; rfl
noncomputable abbrev Q3 := Int × Int × Int
noncomputable def t3D (q : Q3) : D := .tup [.int q.1, .int q.2.1, .int q.2.2]
noncomputable def kyT (q : Q3) : List L2.Key := [.inl q.1, .inl q.2.1, .inl q.2.2]
noncomputable def ownK (ks : List Q3) : List (List L2.Key × D) := ks.map fun q => (kyT q, .bl true)
noncomputable def putT (ks : List Q3) (q : Q3) : List Q3 := if q ∈ ks then ks else ks ++ [q]
noncomputable def stS (q : Q3) : List Int := if q.2.1 ≠ 0 then [0] else [-1, 0, 1]
noncomputable def ofS (q : Q3) : List Int := if 3 ≤ q.2.2 then [-1, 0, 1] else [0]
noncomputable def nq (q : Q3) (a o : Int) : Q3 := (q.1 + a, a, if o ≠ 0 then 1 else if q.2.2 + 1 < 3 then q.2.2 + 1 else 3)
noncomputable def putIf (m : Int) (r : R3) (q : Q3) (a : Int) (fs : List Q3) (o : Int) : List Q3 := if rdT m (q.1 + a) o = r then putT fs (nq q a o) else fs
noncomputable def goA (m : Int) (r : R3) (q : Q3) (fs : List Q3) (a : Int) : List Q3 := (ofS q).foldl (putIf m r q a) fs
noncomputable def goQ (m : Int) (r : R3) (fs : List Q3) (q : Q3) : List Q3 := (stS q).foldl (goA m r q) fs
noncomputable def onL (m : Int) (r : R3) (ks : List Q3) : List Q3 := ks.foldl (goQ m r) []
/-- a dict may have been frozen -/
noncomputable def Kd (S S' : DStore) : Prop := ∀ (j : Nat) (c : Cell), S[j]? = some c → S'[j]? = some c ∨ ∃ kvs, c = .dct kvs ∧ S'[j]? = some (.dlk kvs)
noncomputable def StAt (S : DStore) (st : D) (ks : List Q3) : Prop := st = .lst (ks.map t3D) ∨ ∃ n : Nat, st = .ref n ∧ dctOf S n = some (ownK ks)
noncomputable def spOw (ds : List D) (S : DStore) (Q : QE) : Prop := ∃ (m : Int) (st : D) (ks : List Q3) (r : R3), ds = [.int m, st, r3D r] ∧ 8 ≤ m ∧ m ≤ 400 ∧ ks.length ≤ 200 ∧ StAt S st ks ∧
  ∀ S', Kd S S' → (∀ us, st = .lst us → Kp S S') → S'[S.length]? = some (.dct (ownK (onL m r ks))) → Q (.ref S.length) S'
theorem spOw_len : ∀ ds S Q, spOw ds S Q → ds.length = 3 := by rintro _ _ _ ⟨_, _, _, _, rfl, _⟩; rfl
noncomputable def LsAt (S : DStore) (d : D) (xs : List D) : Prop := d = .lst xs ∨ ∃ p : Nat, d = .ref p ∧ S[p]? = some (.lst xs)
noncomputable def spSo (ds : List D) (S : DStore) (Q : QE) : Prop := ∃ (m b : Int) (rd : D) (rs : List R3) (ts : List (Int × Int)), ds = [.int m, .int b, rd, .tup (ts.map ptD)] ∧ 8 ≤ m ∧ m ≤ 400 ∧ LsAt S rd (rs.map r3D) ∧ rs.length ≤ 1000 ∧ tlOk m rs ts (b, false, 2) = true ∧ Q (.bl true) S
theorem spSo_len : ∀ ds S Q, spSo ds S Q → ds.length = 4 := by rintro _ _ _ ⟨_, _, _, _, _, rfl, _⟩; rfl
noncomputable def spLeast (ds : List D) (S : DStore) (Q : QE) : Prop := ∃ (m b : Int) (q : Nat) (rs : List R3) (e : Int), ds = [.int m, .int b, .ref q, .tup ((taleF m e rs (b, false, 2)).map ptD)] ∧ 8 ≤ m ∧ m ≤ 400 ∧ S[q]? = some (.lst (rs.map r3D)) ∧ 1 ≤ rs.length ∧ rs.length ≤ 300 ∧ (∃ s ∈ lay m b rs, s.1 = e) ∧ ∀ S', Kd S S' → Q (.bl true) S'
theorem spLeast_len : ∀ ds S Q, spLeast ds S Q → ds.length = 4 := by rintro _ _ _ ⟨_, _, _, _, _, rfl, _⟩; rfl
noncomputable def G : Fns := { fn := fun j => match j with
  | 0 => spHand | 1 => spTake | 2 => spPk | 3 => spBegin | 4 => spSg | 5 => spBent | 6 => spFits | 7 => spRounds | 8 => spSpots | 9 => spShifts | 10 => spFirst | 11 => spTlI | 12 => spOw | 13 => spOnw | 14 => spRd | 15 => spPrt | 16 => spAlv | 17 => spWhI | 18 => spTale | 19 => spWhI | 20 => spSo | 21 => spLeast | 22 => spTk | 23 => spPlace | _ => spLaw, gl := glD }
theorem G0 : G.fn 0 = spHand := rfl
theorem G1 : G.fn 1 = spTake := rfl
theorem G2 : G.fn 2 = spPk := rfl
theorem G3 : G.fn 3 = spBegin := rfl
theorem G4 : G.fn 4 = spSg := rfl
theorem G5 : G.fn 5 = spBent := rfl
theorem G6 : G.fn 6 = spFits := rfl
theorem G7 : G.fn 7 = spRounds := rfl
theorem G8 : G.fn 8 = spSpots := rfl
theorem G9 : G.fn 9 = spShifts := rfl
theorem G11 : G.fn 11 = spTlI := rfl
theorem G12 : G.fn 12 = spOw := rfl
theorem G18 : G.fn 18 = spTale := rfl
theorem G19 : G.fn 19 = spWhI := rfl
theorem G20 : G.fn 20 = spSo := rfl
theorem G21 : G.fn 21 = spLeast := rfl
theorem G22 : G.fn 22 = spTk := rfl
theorem G23 : G.fn 23 = spPlace := rfl
theorem len0 : ∀ ds S Q, G.fn 0 ds S Q → ds.length = p0.length := spHand_len
theorem len1 : ∀ ds S Q, G.fn 1 ds S Q → ds.length = p1.length := spTake_len
theorem len2 : ∀ ds S Q, G.fn 2 ds S Q → ds.length = p2.length := spPk_len
theorem len3 : ∀ ds S Q, G.fn 3 ds S Q → ds.length = p3.length := spBegin_len
theorem len4 : ∀ ds S Q, G.fn 4 ds S Q → ds.length = p4.length := spSg_len
theorem len5 : ∀ ds S Q, G.fn 5 ds S Q → ds.length = p5.length := spBent_len
theorem len6 : ∀ ds S Q, G.fn 6 ds S Q → ds.length = p6.length := spFits_len
theorem len7 : ∀ ds S Q, G.fn 7 ds S Q → ds.length = p7.length := spRounds_len
theorem len8 : ∀ ds S Q, G.fn 8 ds S Q → ds.length = p8.length := spSpots_len
theorem len9 : ∀ ds S Q, G.fn 9 ds S Q → ds.length = p9.length := spShifts_len
theorem len10 : ∀ ds S Q, G.fn 10 ds S Q → ds.length = p10.length := spFirst_len
theorem len11 : ∀ ds S Q, G.fn 11 ds S Q → ds.length = p11.length := spTlI_len
theorem len12 : ∀ ds S Q, G.fn 12 ds S Q → ds.length = p12.length := spOw_len
theorem len13 : ∀ ds S Q, G.fn 13 ds S Q → ds.length = p13.length := spOnw_len
theorem len14 : ∀ ds S Q, G.fn 14 ds S Q → ds.length = p14.length := spRd_len
theorem len15 : ∀ ds S Q, G.fn 15 ds S Q → ds.length = p15.length := spPrt_len
theorem len16 : ∀ ds S Q, G.fn 16 ds S Q → ds.length = p16.length := spAlv_len
theorem len17 : ∀ ds S Q, G.fn 17 ds S Q → ds.length = p17.length := spWhI_len
theorem len18 : ∀ ds S Q, G.fn 18 ds S Q → ds.length = p18.length := spTale_len
theorem len19 : ∀ ds S Q, G.fn 19 ds S Q → ds.length = p19.length := spWhI_len
theorem len20 : ∀ ds S Q, G.fn 20 ds S Q → ds.length = p20.length := spSo_len
theorem len21 : ∀ ds S Q, G.fn 21 ds S Q → ds.length = p21.length := spLeast_len
theorem len22 : ∀ ds S Q, G.fn 22 ds S Q → ds.length = p22.length := spTk_len
theorem len23 : ∀ ds S Q, G.fn 23 ds S Q → ds.length = p23.length := spPlace_len
theorem len24 : ∀ ds S Q, spLaw ds S Q → ds.length = p24.length := by rintro _ _ _ ⟨_, rfl, _⟩; rfl
theorem body0 : ∀ ds S Q, G.fn 0 ds S Q → wpSs G c0 (startD n0.length ds) S { nx := fun _ S' => Q .non S', rt := Q } := hand_ok
theorem body1 : ∀ ds S Q, G.fn 1 ds S Q → wpSs G c1 (startD n1.length ds) S { nx := fun _ S' => Q .non S', rt := Q } := take_ok
theorem body6 : ∀ ds S Q, G.fn 6 ds S Q → wpSs G c6 (startD n6.length ds) S { nx := fun _ S' => Q .non S', rt := Q } := fits_ok
theorem body10 : ∀ ds S Q, G.fn 10 ds S Q → wpSs G c10 (startD n10.length ds) S { nx := fun _ S' => Q .non S', rt := Q } := first_ok (g := 0) rfl
theorem body11 : ∀ ds S Q, G.fn 11 ds S Q → wpSs G c11 (startD n11.length ds) S { nx := fun _ S' => Q .non S', rt := Q } := tlInit_ok (jf := 10) rfl
theorem body13 : ∀ ds S Q, G.fn 13 ds S Q → wpSs G c13 (startD n13.length ds) S { nx := fun _ S' => Q .non S', rt := Q } := onw_ok (ga := 0) (gs := 1) rfl rfl
theorem body14 : ∀ ds S Q, G.fn 14 ds S Q → wpSs G c14 (startD n14.length ds) S { nx := fun _ S' => Q .non S', rt := Q } := rd_ok (g := 2) rfl
theorem body15 : ∀ ds S Q, G.fn 15 ds S Q → wpSs G c15 (startD n15.length ds) S { nx := fun _ S' => Q .non S', rt := Q } := prt_ok (gs := 1) (jo := 13) (jr := 14) rfl rfl rfl
theorem body16 : ∀ ds S Q, G.fn 16 ds S Q → wpSs G c16 (startD n16.length ds) S { nx := fun _ S' => Q .non S', rt := Q } := alive_ok (jp := 15) rfl
theorem body17 : ∀ ds S Q, G.fn 17 ds S Q → wpSs G c17 (startD n17.length ds) S { nx := fun _ S' => Q .non S', rt := Q } := whI_ok
theorem body18 : ∀ ds S Q, G.fn 18 ds S Q → wpSs G c18 (startD n18.length ds) S { nx := fun _ S' => Q .non S', rt := Q } := tale_ok (jw := 17) (jf := 6) (ja := 16) (j1 := 10) (jp := 15) rfl rfl rfl rfl rfl
theorem body19 : ∀ ds S Q, G.fn 19 ds S Q → wpSs G c19 (startD n19.length ds) S { nx := fun _ S' => Q .non S', rt := Q } := whI_ok
theorem body22 : ∀ ds S Q, G.fn 22 ds S Q → wpSs G c22 (startD n22.length ds) S { nx := fun _ S' => Q .non S', rt := Q } := take_ok' (jp := 15) rfl
theorem body23 : ∀ ds S Q, G.fn 23 ds S Q → wpSs G c23 (startD n23.length ds) S { nx := fun _ S' => Q .non S', rt := Q } := place_ok (jf := 6) rfl
theorem mulS {i j : Int} (h : -1000000 ≤ i ∧ i ≤ 1000000) : MulOk i j := .inl (.inl ⟨by omega, by omega⟩)
theorem mulS' {i j : Int} (h : -1000000 ≤ j ∧ j ≤ 1000000) : MulOk i j := .inl (.inr ⟨by omega, by omega⟩)
theorem body7 : ∀ ds S Q, G.fn 7 ds S Q → wpSs G c7 (startD n7.length ds) S { nx := fun _ S' => Q .non S', rt := Q } := by
  rintro ds S Q ⟨n, T, rfl, hP, hT, h⟩
  show wpSs _ _ [some (.ref n)] _ _
  unfold c7
  simp_arith only [G1, G2]
  refine takeP hP (by omega) (by decide) (by decide) fun v S1 v0 v1 P1 F1 L1 => ?_
  simp_arith only []
  refine .inl (pickI (lo := 2) (hi := 100) P1 (by omega) ⟨by omega, by omega, by omega, by omega, by omega, by omega, by omega, trivial⟩ fun w S2 w0 w1 P2 F2 L2 => ?_)
  exact ⟨mulS (by omega), h _ S2 (by omega) (by omega) (P2.mono (by omega)) (F1.trans F2)⟩
theorem body3 : ∀ ds S Q, G.fn 3 ds S Q → wpSs G c3 (startD n3.length ds) S { nx := fun _ S' => Q .non S', rt := Q } := by
  rintro ds S Q ⟨n, T, m, rfl, hP, hT, h8, h4, h⟩
  show wpSs _ _ [some (.ref n), some (.int m), none] _ _
  unfold c3
  simp_arith only [G1, G2]
  refine takeP hP (by omega) (by decide) (by decide) fun v S1 v0 v1 P1 F1 L1 => ⟨mulS (by omega), ?_⟩
  refine takeP P1 (by omega) (by decide) (by decide) fun w S2 w0 w1 P2 F2 L2 => ?_
  simp_arith only []
  refine takeP P2 (by omega) (by decide) (by decide) fun u S3 u0 u1 P3 F3 L3 => ?_
  simp_arith only []
  have hm1 : m * (v - 3) ≤ 400 * 3 := by
    by_cases hv : 0 ≤ v - 3
    · exact Int.mul_le_mul h4 (by omega) hv (by omega)
    · have := Int.mul_nonpos_of_nonneg_of_nonpos (a := m) (b := v - 3) (by omega) (by omega)
      omega
  have hm2 : -(400 * 3) ≤ m * (v - 3) := by
    by_cases hv : 0 ≤ v - 3
    · have := Int.mul_nonneg (a := m) (b := v - 3) (by omega) hv
      omega
    · have h1 : m * (3 - v) ≤ 400 * 3 := Int.mul_le_mul h4 (by omega) (by omega) (by omega)
      have e : m * (v - 3) = -(m * (3 - v)) := by rw [← Int.mul_neg]; congr 1; omega
      omega
  refine .inl (pickI (lo := -2000) (hi := 2000) P3 (by omega) ⟨by omega, by omega, by omega, by omega, trivial⟩ fun z S4 z0 z1 P4 F4 L4 => ?_)
  exact h z S4 z0 z1 (P4.mono (by omega)) (((F1.trans F2).trans F3).trans F4)
theorem body8 : ∀ ds S Q, G.fn 8 ds S Q → wpSs G c8 (startD n8.length ds) S { nx := fun _ S' => Q .non S', rt := Q } := by
  rintro ds S Q ⟨n, T, b, k, f, rfl, hP, hT, h0, h4, hf, hf2, h⟩
  show wpSs _ _ [some (.ref n), some (.int b), some (.int k), some (.int f), none, none, none, none, none] _ _
  unfold c8
  simp_arith only [G1, G2]
  have hlt := hP.lt
  refine ⟨⟨by omega, by omega⟩, walk_range (fun i ρ S' => ∃ (d4 d8 : Option D) (w : Int) (st : Bool) (ws : List Int), ρ = [some (.ref n), some (.int b), some (.int k), some (.int f), d4, some (.ref S.length), some (.int w), some (.bl st), d8] ∧ Pot n (T + 2 * i) S' ∧ Fr n S S' ∧ S'[S.length]? = some (.lst (ws.map D.int)) ∧ ws.length = i)
    ⟨_, _, b, false, [], rfl, hP.app.mono (by omega), Fr.app, by simp, rfl⟩ (fun _ _ _ _ => trivial) ?_ ?_⟩
  · rintro i ρ S1 hi ⟨d4, d8, w, st, ws, rfl, P1, F1, hq, hl⟩
    unfold DL.forTurn
    cases st with
    | true =>
      simp_arith only [G1, G2]
      refine ⟨lat hq, _, hq, ?_, _, _, w + 0, _, ws ++ [w + 0], rfl, (P1.set (by omega)).mono (by omega), F1.set (Nat.le_refl _), ?_, by simp [hl]⟩
      · rw [List.length_map]
        exact len_lt (by omega)
      · rw [set_get hq, List.map_append]
        rfl
    | false =>
      simp_arith only [G1, G2]
      refine takeP P1 (by omega) hf hf2 fun v S2 v0 v1 P2 F2 L2 => ?_
      show if decide (v = 0) = true then _ else _
      by_cases hv : v = 0
      · rw [if_pos (decide_eq_true hv)]
        have hq2 := F2.get (i := S.length) (by omega) hq
        refine ⟨lat hq2, _, hq2, ?_, _, _, w + 0, _, ws ++ [w + 0], rfl, (P2.set (by omega)).mono (by omega), (F1.trans F2).set (Nat.le_refl _), ?_, by simp [hl]⟩
        · rw [List.length_map]
          exact len_lt (by omega)
        · rw [set_get hq2, List.map_append]
          rfl
      · rw [if_neg (by simpa using hv)]
        refine takeP P2 (by omega) (by decide) (by decide) fun u S3 u0 u1 P3 F3 L3 => ⟨mulS (by omega), ?_⟩
        have hq2 := F3.get (i := S.length) (by omega) (F2.get (i := S.length) (by omega) hq)
        refine ⟨lat hq2, _, hq2, ?_, _, _, w + (1 - 2 * u), _, ws ++ [w + (1 - 2 * u)], rfl, (P3.set (by omega)).mono (by omega), ((F1.trans F2).trans F3).set (Nat.le_refl _), ?_, by simp [hl]⟩
        · rw [List.length_map]
          exact len_lt (by omega)
        · rw [set_get hq2, List.map_append]
          rfl
  · rintro ρ S1 ⟨d4, d8, w, st, ws, rfl, P1, F1, hq, hl⟩
    simp_arith only []
    exact h _ ws S1 (P1.mono (by omega)) F1 (Nat.le_refl _) hq (by omega)
theorem body9 : ∀ ds S Q, G.fn 9 ds S Q → wpSs G c9 (startD n9.length ds) S { nx := fun _ S' => Q .non S', rt := Q } := by
  rintro ds S Q ⟨n, T, k, f, rfl, hP, hT, h0, h4, hf, hf2, h⟩
  show wpSs _ _ [some (.ref n), some (.int k), some (.int f), none, none, none, none] _ _
  unfold c9
  simp_arith only [G1, G2]
  have hlt := hP.lt
  refine ⟨⟨by omega, by omega⟩, walk_range (fun i ρ S' => ∃ (d3 d6 : Option D) (w : Int) (ws : List Int), ρ = [some (.ref n), some (.int k), some (.int f), d3, some (.ref S.length), some (.int w), d6] ∧ Pot n (T + 2 * i) S' ∧ Fr n S S' ∧ S'[S.length]? = some (.lst (ws.map D.int)) ∧ ws.length = i)
    ⟨_, _, 2, [], rfl, hP.app.mono (by omega), Fr.app, by simp, rfl⟩ (fun _ _ _ _ => trivial) ?_ ?_⟩
  · rintro i ρ S1 hi ⟨d3, d6, w, ws, rfl, P1, F1, hq, hl⟩
    have fin : ∀ (x y : Int) S2, Pot n (T + 2 * (i + 1 : Nat)) S2 → Fr n S S2 → S2[S.length]? = some (.lst (ws.map D.int)) →
        LAt S2 S.length ∧ ∃ xs, S2[S.length]? = some (.lst xs) ∧ xs.length < sizeLine ∧ ∃ (d3 d6 : Option D) (w : Int) (ws' : List Int), [some (D.ref n), some (.int k), some (.int f), some (.int (0 + (i : Int))), some (.ref S.length), some (.int y), some (.int x)] = [some (.ref n), some (.int k), some (.int f), d3, some (.ref S.length), some (.int w), d6] ∧ Pot n (T + 2 * (i + 1 : Nat)) (S2.set S.length (.lst (xs ++ [.int x]))) ∧ Fr n S (S2.set S.length (.lst (xs ++ [.int x]))) ∧ (S2.set S.length (.lst (xs ++ [.int x])))[S.length]? = some (.lst (ws'.map D.int)) ∧ ws'.length = i + 1 := by
      intro x y S2 P2 F2 hq2
      refine ⟨lat hq2, _, hq2, ?_, _, _, y, ws ++ [x], rfl, P2.set (by omega), F2.set (Nat.le_refl _), ?_, by simp [hl]⟩
      · rw [List.length_map]
        exact len_lt (by omega)
      · rw [set_get hq2, List.map_append]
        rfl
    unfold DL.forTurn
    simp_arith only [G1, G2]
    split
    · exact fin 0 (w + 1) S1 (P1.mono (by omega)) F1 hq
    · refine takeP P1 (by omega) hf hf2 fun v S2 v0 v1 P2 F2 L2 => ?_
      have hq2 := F2.get (i := S.length) (by omega) hq
      simp_arith only []
      split
      · exact fin 0 (w + 1) S2 (P2.mono (by omega)) (F1.trans F2) hq2
      · refine takeP P2 (by omega) (by decide) (by decide) fun u S3 u0 u1 P3 F3 L3 => ⟨mulS (by omega), ?_⟩
        have hq3 := F3.get (i := S.length) (by omega) hq2
        simp_arith only []
        split
        · exact fin (1 - 2 * u) 0 S3 (P3.mono (by omega)) ((F1.trans F2).trans F3) hq3
        · exact fin (1 - 2 * u) (w + 1) S3 (P3.mono (by omega)) ((F1.trans F2).trans F3) hq3
  · rintro ρ S1 ⟨d3, d6, w, ws, rfl, P1, F1, hq, hl⟩
    simp_arith only []
    exact h _ ws S1 (P1.mono (by omega)) F1 (Nat.le_refl _) hq (by omega)
theorem body4 : ∀ ds S Q, G.fn 4 ds S Q → wpSs G c4 (startD n4.length ds) S { nx := fun _ S' => Q .non S', rt := Q } := by
  rintro ds S Q ⟨m, p, o, rfl, h8, h4, h⟩
  show wpSs _ _ [some (.int m), some (.int p), some (.int o), none] _ _
  unfold c4
  simp_arith only []
  have e4 : (p + o).fdiv 4 = (p + o) / 4 := fdiv_e (by decide)
  have em : p.fdiv m = p / m := fdiv_e (by omega)
  have er : p + o - (p + o) / 4 * 4 = (p + o) % 4 := by omega
  rw [e4, em, er]
  refine ⟨⟨by decide, by decide⟩, mulS' (by omega), ⟨_, rfl, rfl, rfl, div_om (by omega) (by omega) (by omega), mulS' (by omega), ?_⟩⟩
  have e1 : inV (toV (.int ((p + o) % 4))) ([D.int 1, .int 2].map toV) = ((p + o) % 4 == 1 || (p + o) % 4 == 2) := by
    show ((([V.int 1, .int 2]).any fun y => eqV y (.int ((p + o) % 4))) = _)
    simp only [List.any_cons, List.any_nil, Bool.or_false, eqV_int]
  rw [e1]
  have e2 : (if p / m * m = p then (1 : Int) else 0) = if p.fmod m = 0 then 1 else 0 := by
    rw [fmod_e (by omega)]
    have := Int.mul_ediv_add_emod p m
    rw [Int.mul_comm] at this
    by_cases z : p % m = 0
    · rw [if_pos z, if_pos (by omega)]
    · rw [if_neg z, if_neg (by omega)]
  rw [e2]
  have hc : (p + o) % 4 = 0 ∨ (p + o) % 4 = 1 ∨ (p + o) % 4 = 2 ∨ (p + o) % 4 = 3 := by omega
  unfold rdT r3D at h
  rcases hc with z | z | z | z <;> rw [z] at h ⊢ <;> exact h
theorem body2 : ∀ ds S Q, G.fn 2 ds S Q → wpSs G c2 (startD n2.length ds) S { nx := fun _ S' => Q .non S', rt := Q } := by
  rintro ds S Q (h | ⟨n, q, T, xs, rfl, hP, hT, hq, hqn, hx, hl, h⟩)
  · exact pick_ok (j := 1) rfl ds S Q h
  · unfold c2 n2
    simp_arith only [G1, hq]
    have h0 := List.length_pos_iff.mpr hx
    refine takeP hP (by omega) (by omega) (by omega) fun v S1 v0 v1 P1 F1 _ => ?_
    have hq1 := F1.get hqn hq
    (try simp_arith only [hq1])
    have hv : v.toNat < xs.length := by omega
    refine ⟨xs[v.toNat], atI_nat' v0 (List.getElem?_eq_getElem hv), h _ S1 (List.getElem_mem _) P1 F1⟩
theorem map_at {α : Type} {l : List α} {f : α → D} {i : Nat} {x : D} (h : (l.map f)[i]? = some x) : ∃ a, l[i]? = some a ∧ x = f a := by
  rw [List.getElem?_map] at h
  obtain ⟨a, ha, rfl⟩ := Option.map_eq_some_iff.mp h
  exact ⟨a, ha, rfl⟩
/-- what stands outside of these cells stays -/
noncomputable def Ke (l : List Nat) (S S' : DStore) : Prop := ∀ j c, j ∉ l → S[j]? = some c → S'[j]? = some c
theorem Ke.refl {l : List Nat} {S : DStore} : Ke l S S := fun _ _ _ h => h
theorem Ke.trans {l : List Nat} {S S1 S2 : DStore} (a : Ke l S S1) (b : Ke l S1 S2) : Ke l S S2 := fun j c n h => b j c n (a j c n h)
theorem Ke.mono {l l' : List Nat} {S S' : DStore} (h : Ke l S S') (s : ∀ j ∈ l, j ∈ l') : Ke l' S S' := fun j c n e => h j c (fun z => n (s j z)) e
theorem ke_set {l : List Nat} {S : DStore} {n : Nat} {c : Cell} (h : n ∈ l) : Ke l S (S.set n c) := fun j d hj e => by
  rw [List.getElem?_set_ne (fun z => by subst z; exact hj h)]; exact e
noncomputable def al (q : Q3) : K3 := (q.1, decide (q.2.1 ≠ 0), q.2.2 - 1)
noncomputable def OwnTo (m : Int) (r : R3) (q q' : Q3) : Prop := ∃ a ∈ stS q, ∃ o ∈ ofS q, rdT m (q.1 + a) o = r ∧ q' = nq q a o
structure Ref (ks : List Q3) (l : List K3) : Prop where
  nd : ks.Nodup
  b : ∀ q ∈ ks, 1 ≤ q.2.2 ∧ q.2.2 ≤ 3 ∧ (q.2.1 = -1 ∨ q.2.1 = 0 ∨ q.2.1 = 1) ∧ al q ∈ l
  s : ∀ t ∈ l, ∃ q ∈ ks, al q = t
theorem mem_st3 {a : Int} : a ∈ st3 ↔ a = -1 ∨ a = 0 ∨ a = 1 := by simp [st3]
theorem inS_iff {a : Int} : inS a = true ↔ a = -1 ∨ a = 0 ∨ a = 1 := by simp [inS, Bool.or_eq_true, or_assoc]
theorem own_onw {q : Q3} {a o : Int} (h1 : 1 ≤ q.2.2) (h3 : q.2.2 ≤ 3) : (a ∈ stS q ∧ o ∈ ofS q) ↔ (a ∈ st3 ∧ o ∈ st3 ∧ onw (al q) (q.1 + a) o = some (al (nq q a o))) := by
  have e1 : q.1 + a - q.1 = a := by omega
  have hs : a ∈ stS q ↔ (a ∈ st3 ∧ (a = 0 ∨ q.2.1 = 0)) := by
    unfold stS
    rw [mem_st3]
    split <;> simp <;> omega
  have ho : o ∈ ofS q ↔ (o ∈ st3 ∧ (o = 0 ∨ 3 ≤ q.2.2)) := by
    unfold ofS
    rw [mem_st3]
    split <;> simp <;> omega
  rw [hs, ho]
  constructor
  · rintro ⟨⟨ha, ha'⟩, hb, hb'⟩
    refine ⟨ha, hb, ?_⟩
    unfold onw al nq
    simp only [e1]
    rw [if_neg (by rw [inS_iff.mpr (mem_st3.mp ha), inS_iff.mpr (mem_st3.mp hb)]; simp), if_neg (by
      rintro (⟨z1, z2⟩ | ⟨z1, z2⟩)
      · simp only [decide_eq_true_eq] at z2
        omega
      · omega)]
    congr 2
    congr 1
    by_cases z : o = 0
    · simp only [z, ne_eq, not_true_eq_false, if_false]
      by_cases z2 : q.2.2 + 1 < 3
      · rw [if_pos (by omega), if_pos z2]; omega
      · rw [if_neg (by omega), if_neg z2]; rfl
    · simp [z]
  · rintro ⟨ha, hb, h⟩
    refine ⟨⟨ha, ?_⟩, hb, ?_⟩ <;> unfold onw al at h <;> simp only [e1] at h <;> split at h
    · cases h
    · split at h
      · cases h
      · rename_i _ hn
        simp only [decide_eq_true_eq, not_or, not_and] at hn
        omega
    · cases h
    · split at h
      · cases h
      · rename_i _ hn
        simp only [decide_eq_true_eq, not_or, not_and] at hn
        omega
theorem onw_al {q : Q3} {a o : Int} {t : K3} (h1 : 1 ≤ q.2.2) (h3 : q.2.2 ≤ 3) (h : onw (al q) (q.1 + a) o = some t) : t = al (nq q a o) := by
  have e1 : q.1 + a - q.1 = a := by omega
  unfold onw al at h
  simp only [e1] at h
  split at h
  · cases h
  · split at h
    · cases h
    · cases h
      unfold al nq
      congr 2
      by_cases z : o = 0
      · simp only [z, ne_eq, not_true_eq_false, if_false]
        by_cases z2 : q.2.2 + 1 < 3
        · rw [if_pos (by omega), if_pos z2]; omega
        · rw [if_neg (by omega), if_neg z2]; rfl
      · simp [z]
theorem nq_b {q : Q3} {a o : Int} (h1 : 1 ≤ q.2.2) (ha : a ∈ st3) : 1 ≤ (nq q a o).2.2 ∧ (nq q a o).2.2 ≤ 3 ∧ ((nq q a o).2.1 = -1 ∨ (nq q a o).2.1 = 0 ∨ (nq q a o).2.1 = 1) := by
  refine ⟨?_, ?_, mem_st3.mp ha⟩ <;> unfold nq <;> simp only <;> split <;> try split
  all_goals omega
theorem Ref.next {m : Int} {r : R3} {ks ks' : List Q3} {l : List K3} (h : Ref ks l) (hn : ks'.Nodup) (hm : ∀ q', q' ∈ ks' ↔ ∃ q ∈ ks, OwnTo m r q q') : Ref ks' (nxt m l r) := by
  refine ⟨hn, fun q' hq' => ?_, fun t ht => ?_⟩
  · obtain ⟨q, hq, a, ha, o, ho, hr, rfl⟩ := (hm q').mp hq'
    obtain ⟨b1, b3, b2, b4⟩ := h.b q hq
    obtain ⟨c1, c2, c3⟩ := (own_onw b1 b3).mp ⟨ha, ho⟩
    obtain ⟨d1, d2, d3⟩ := nq_b (o := o) b1 c1
    refine ⟨d1, d2, d3, mem_nxt.mpr ⟨al q, b4, ((q.1 + a, o), al (nq q a o)), mem_prt.mpr ⟨a, c1, o, c2, c3, hr, rfl⟩, rfl⟩⟩
  · obtain ⟨s, hs, p, hp, rfl⟩ := mem_nxt.mp ht
    obtain ⟨a, ha, o, ho, h1, h2, h3⟩ := mem_prt.mp hp
    obtain ⟨q, hq, rfl⟩ := h.s s hs
    obtain ⟨b1, b3, b2, b4⟩ := h.b q hq
    have e := onw_al b1 b3 (show onw (al q) (q.1 + a) o = some p.2 from h1)
    rw [e] at h1
    obtain ⟨c1, c2⟩ := (own_onw b1 b3).mpr ⟨ha, ho, h1⟩
    exact ⟨nq q a o, (hm _).mpr ⟨q, hq, a, c1, o, c2, h2, rfl⟩, e.symm⟩
theorem Ref.one (b : Int) : Ref [(b, 0, 3)] [(b, false, 2)] := by
  refine ⟨by simp, fun q hq => ?_, fun t ht => ?_⟩
  · rw [List.mem_singleton.mp hq]
    exact ⟨by show (1 : Int) ≤ 3; decide, by show (3 : Int) ≤ 3; decide, .inr (.inl rfl), by simp [al]⟩
  · rw [List.mem_singleton.mp ht]
    exact ⟨_, List.mem_singleton.mpr rfl, by simp [al]⟩
theorem Ref.len {ks : List Q3} {l : List K3} (h : Ref ks l) : ks.length ≤ 3 * l.length := by
  have e : ∀ l : List K3, (l.flatMap fun t : K3 => [((t.1, -1, t.2.2 + 1) : Q3), (t.1, 0, t.2.2 + 1), (t.1, 1, t.2.2 + 1)]).length = 3 * l.length := fun l => by
    induction l with
    | nil => rfl
    | cons t l ih => rw [List.flatMap_cons, List.length_append, ih]; simp; omega
  rw [← e l]
  refine nodup_len h.nd fun q hq => ?_
  obtain ⟨_, _, b2, b4⟩ := h.b q hq
  refine List.mem_flatMap.mpr ⟨al q, b4, ?_⟩
  have e1 : q = (q.1, q.2.1, q.2.2) := rfl
  have e2 : (al q).2.2 + 1 = q.2.2 := by show q.2.2 - 1 + 1 = _; omega
  have e3 : (al q).1 = q.1 := rfl
  rw [e2, e3]
  rcases b2 with z | z | z <;> rw [e1, z] <;> simp
theorem kyT_inj {p q : Q3} (h : kyT p = kyT q) : p = q := by
  unfold kyT at h
  simp only [List.cons.injEq, Sum.inl.injEq, and_true] at h
  obtain ⟨h1, h2, h3⟩ := h
  exact Prod.ext h1 (Prod.ext h2 h3)
theorem put_own (ks : List Q3) (q : Q3) : putD (ownK ks) (kyT q) (.bl true) = ownK (putT ks q) := by
  unfold putD putT
  have e : ((ownK ks).any fun kv => decide (kv.1 = kyT q)) = decide (q ∈ ks) := by
    unfold ownK
    rw [List.any_map]
    induction ks with
    | nil => rfl
    | cons a l ih =>
      rw [List.any_cons, ih]
      by_cases h : a = q
      · subst h; simp
      · have : ¬ kyT a = kyT q := fun z => h (kyT_inj z)
        simp [this, Ne.symm h]
  rw [e]
  by_cases h : q ∈ ks
  · rw [if_pos (by simp [h]), if_pos h]
    unfold ownK
    rw [List.map_map]
    refine List.map_congr_left fun a _ => ?_
    simp only [Function.comp]
    split <;> simp_all
  · rw [if_neg (by simp [h]), if_neg h]
    unfold ownK
    rw [List.map_append]
    rfl
theorem mem_putT {ks : List Q3} {q x : Q3} : x ∈ putT ks q ↔ x ∈ ks ∨ x = q := by
  unfold putT
  split
  · rename_i h
    exact ⟨.inl, fun z => z.elim id fun z => by rw [z]; exact h⟩
  · simp
theorem nd_putT {ks : List Q3} {q : Q3} (h : ks.Nodup) : (putT ks q).Nodup := by
  unfold putT
  split
  · exact h
  · rename_i hn
    rw [List.nodup_append]
    refine ⟨h, by simp, fun a ha b hb => ?_⟩
    rw [List.mem_singleton.mp hb]
    exact fun z => hn (z ▸ ha)
theorem len_putT {ks : List Q3} {q : Q3} : (putT ks q).length ≤ ks.length + 1 := by
  unfold putT
  split
  · omega
  · simp
theorem fold_mem {α β : Type} {f : List α → β → List α} {P : β → α → Prop} (h : ∀ l e x, x ∈ f l e ↔ x ∈ l ∨ P e x) : ∀ (es : List β) (l : List α) (x : α), x ∈ es.foldl f l ↔ x ∈ l ∨ ∃ e ∈ es, P e x
  | [], l, x => by simp
  | e :: es, l, x => by
    rw [List.foldl_cons, fold_mem h es (f l e) x, h l e x, or_assoc]
    simp
theorem fold_nd {α β : Type} {f : List α → β → List α} (h : ∀ l e, l.Nodup → (f l e).Nodup) : ∀ (es : List β) (l : List α), l.Nodup → (es.foldl f l).Nodup
  | [], _, hl => hl
  | e :: es, l, hl => fold_nd h es _ (h l e hl)
theorem fold_len {α β : Type} {f : List α → β → List α} {c : Nat} (h : ∀ l e, (f l e).length ≤ l.length + c) : ∀ (es : List β) (l : List α), (es.foldl f l).length ≤ l.length + c * es.length
  | [], _ => by simp
  | e :: es, l => by
    have h1 := fold_len h es (f l e)
    have h2 := h l e
    rw [List.foldl_cons, List.length_cons, Nat.mul_succ]
    omega
theorem ofS_len (q : Q3) : (ofS q).length ≤ 3 := by unfold ofS; split <;> simp
theorem stS_len (q : Q3) : (stS q).length ≤ 3 := by unfold stS; split <;> simp
theorem putIf_len {m : Int} {r : R3} {q : Q3} {a : Int} (l : List Q3) (o : Int) : (putIf m r q a l o).length ≤ l.length + 1 := by
  unfold putIf
  split
  · exact len_putT
  · omega
theorem goA_len {m : Int} {r : R3} {q : Q3} (l : List Q3) (a : Int) : (goA m r q l a).length ≤ l.length + 3 := by
  have h := fold_len (putIf_len (m := m) (r := r) (q := q) (a := a)) (ofS q) l
  have := ofS_len q
  unfold goA
  omega
theorem goQ_len {m : Int} {r : R3} (l : List Q3) (q : Q3) : (goQ m r l q).length ≤ l.length + 9 := by
  have h := fold_len (goA_len (m := m) (r := r) (q := q)) (stS q) l
  have := stS_len q
  unfold goQ
  omega
theorem onL_len {m : Int} {r : R3} (ks : List Q3) : (ks.foldl (goQ m r) []).length ≤ 9 * ks.length := by
  have h := fold_len (goQ_len (m := m) (r := r)) ks []
  simpa using h
theorem onL_nd (m : Int) (r : R3) (ks : List Q3) : (onL m r ks).Nodup :=
  fold_nd (fun l q h => fold_nd (fun l a h => fold_nd (fun l o h => by unfold putIf; split; exact nd_putT h; exact h) _ _ h) _ _ h) _ _ (by simp)
theorem onL_mem {m : Int} {r : R3} {ks : List Q3} {x : Q3} : x ∈ onL m r ks ↔ ∃ q ∈ ks, OwnTo m r q x := by
  unfold onL
  rw [fold_mem (P := fun q x => OwnTo m r q x) (fun l q x => ?_)]
  · simp
  · unfold goQ OwnTo
    rw [fold_mem (P := fun a x => ∃ o ∈ ofS q, rdT m (q.1 + a) o = r ∧ x = nq q a o) (fun l a x => ?_)]
    unfold goA
    rw [fold_mem (P := fun o x => rdT m (q.1 + a) o = r ∧ x = nq q a o) (fun l o x => ?_)]
    unfold putIf
    split
    · rename_i h
      rw [mem_putT]
      simp [h]
    · rename_i h
      simp [h]
theorem Ref.on {m : Int} {r : R3} {ks : List Q3} {l : List K3} (h : Ref ks l) : Ref (onL m r ks) (nxt m l r) := h.next (onL_nd m r ks) fun _ => onL_mem
noncomputable def onB (js : Nat) : List CS := [.if_ (.ccmp .Eq (.call js [(.var 0), (.bin .Add false (.var 4) (.var 7)), (.var 8)]) (.var 2)) [.asg (.dsub (.var 3) [(.bin .Add false (.var 4) (.var 7)), (.var 7), (.ite (.ccmp .NotEq (.var 8) (.con (.int 0))) (.con (.int 1)) (.bi .min2 false [(.con (.int 3)), (.bin .Add false (.var 6) (.con (.int 1)))]))]) (.con (.bl true))] []]
noncomputable def onA (js : Nat) : List CS := [.for_ (.name 8) (.seq (.ite (.ccmp .GtE (.var 6) (.con (.int 3))) (.tup [(.neg (.con (.int 1))), (.con (.int 0)), (.con (.int 1))]) (.tup [(.con (.int 0))]))) (onB js)]
noncomputable def onQ (js : Nat) : List CS := [.for_ (.name 7) (.seq (.ite (.ccmp .NotEq (.var 5) (.con (.int 0))) (.tup [(.con (.int 0))]) (.tup [(.neg (.con (.int 1))), (.con (.int 0)), (.con (.int 1))]))) (onA js)]
theorem c12_eq : c12 = [.asg (.name 3) .dnew, .for_ (.tup [(.name 4), (.name 5), (.name 6)]) (.alt (.seq (.var 1)) (.keysF (.var 1))) (onQ 4), .ret (.var 3)] := rfl
noncomputable abbrev rowO (m : Int) (st : D) (r : R3) (f : Nat) (q : Q3) (d7 d8 : Option D) : DEnv := [some (.int m), some st, some (r3D r), some (.ref f), some (.int q.1), some (.int q.2.1), some (.int q.2.2), d7, d8]
section
variable {G : Fns} {js f : Nat} {st : D} {m : Int} {r : R3} {q : Q3} {a o : Int} {fs : List Q3} {S : DStore} {N : DEnv → DStore → Prop} {rt : QE} {bk ct : DEnv → DStore → Prop}
theorem onB_ok (hs : G.fn js = spSg) (m1 : 8 ≤ m) (m2 : m ≤ 400) (hf : S[f]? = some (.dct (ownK fs))) (hl : fs.length < 5000)
    (hN : ∀ S', Ke [f] S S' → S'[f]? = some (.dct (ownK (putIf m r q a fs o))) → N (rowO m st r f q (some (.int a)) (some (.int o))) S') : wpSs G (onB js) (rowO m st r f q (some (.int a)) (some (.int o))) S ⟨N, rt, bk, ct⟩ := by
  unfold onB rowO
  simp_arith only [hs]
  refine ⟨m, q.1 + a, o, rfl, m1, m2, eq_r3 ?_⟩
  unfold putIf at hN
  by_cases c : rdT m (q.1 + a) o = r
  · rw [decide_eq_true c, if_pos rfl]
    rw [if_pos c] at hN
    have hlen : (ownK fs).length < sizeLine := len_lt (by unfold ownK; rw [List.length_map]; omega)
    have key : ∀ v : Int, v = (nq q a o).2.2 → ∃ kvs ks, S[f]? = some (.dct kvs) ∧ keysOf [D.int (q.1 + a), .int a, .int v] = some ks ∧ kvs.length < sizeLine ∧ N (rowO m st r f q (some (.int a)) (some (.int o))) (S.set f (.dct (putD kvs ks (.bl true)))) := fun v hv => by
      refine ⟨_, _, hf, rfl, hlen, ?_⟩
      subst hv
      have e := put_own fs (nq q a o)
      have := hN (S.set f (.dct (putD (ownK fs) (kyT (nq q a o)) (.bl true)))) (ke_set (List.mem_singleton.mpr rfl)) (by rw [e]; exact set_get hf)
      exact this
    refine if_i (fun h => ?_) fun h => ?_
    · obtain ⟨kvs, ks, k1, k2, k3, k4⟩ := key 1 (by unfold nq; rw [if_pos h])
      exact ⟨f, kvs, ks, rfl, k1, k2, k3, k4⟩
    · obtain ⟨kvs, ks, k1, k2, k3, k4⟩ := key _ (by unfold nq; rw [if_neg h])
      exact ⟨f, kvs, ks, rfl, k1, k2, k3, k4⟩
  · rw [decide_eq_false c]
    rw [if_neg c] at hN
    simp only [Bool.false_eq_true, if_false]
    exact hN S .refl hf
theorem onA_walk (hs : G.fn js = spSg) (m1 : 8 ≤ m) (m2 : m ≤ 400) {d8 : Option D} {os : List Int} (hos : os = ofS q) (hf : S[f]? = some (.dct (ownK fs))) (hl : fs.length < 4990)
    (hN : ∀ d8 S', Ke [f] S S' → S'[f]? = some (.dct (ownK (goA m r q fs a))) → N (rowO m st r f q (some (.int a)) d8) S') : wpWalk (os.map D.int) (fun _ => True) (rowO m st r f q (some (.int a)) d8) S (DL.forTurn G (.name 8) (onB js) rt N) N := by
  have h3 : os.length ≤ 3 := by rw [hos]; exact ofS_len q
  refine walk_list (fun i ρ S' => i ≤ 3 ∧ ∃ d8, ρ = rowO m st r f q (some (.int a)) d8 ∧ Ke [f] S S' ∧ S'[f]? = some (.dct (ownK ((os.take i).foldl (putIf m r q a) fs))) ∧ ((os.take i).foldl (putIf m r q a) fs).length ≤ fs.length + i)
    ⟨by omega, _, rfl, .refl, hf, by simp⟩ (fun _ _ _ _ => trivial) (fun i x ρ S' hx hp => ?_) (fun ρ S' hp => ?_)
  · obtain ⟨hi, d8, rfl, hk, hc, hl2⟩ := hp
    obtain ⟨o, ho, rfl⟩ := map_at hx
    have hil := (List.getElem?_eq_some_iff.mp ho).1
    unfold DL.forTurn
    rw [g_name]
    refine onB_ok (o := o) hs m1 m2 hc (by omega) fun S2 k2 c2 => ?_
    have e : (os.take (i + 1)).foldl (putIf m r q a) fs = putIf m r q a ((os.take i).foldl (putIf m r q a) fs) o := by rw [List.take_succ, ho, List.foldl_append]; rfl
    refine ⟨by omega, _, rfl, hk.trans k2, by rw [e]; exact c2, ?_⟩
    rw [e]
    have := putIf_len (m := m) (r := r) (q := q) (a := a) ((os.take i).foldl (putIf m r q a) fs) o
    omega
  · obtain ⟨_, d8, rfl, hk, hc, _⟩ := hp
    refine hN d8 S' hk ?_
    rw [List.length_map, List.take_length, hos] at hc
    exact hc
theorem onA_ok (hs : G.fn js = spSg) (m1 : 8 ≤ m) (m2 : m ≤ 400) {d8 : Option D} (hf : S[f]? = some (.dct (ownK fs))) (hl : fs.length < 4990)
    (hN : ∀ d8 S', Ke [f] S S' → S'[f]? = some (.dct (ownK (goA m r q fs a))) → N (rowO m st r f q (some (.int a)) d8) S') : wpSs G (onA js) (rowO m st r f q (some (.int a)) d8) S ⟨N, rt, bk, ct⟩ := by
  unfold onA rowO
  simp_arith only []
  refine if_i (fun h => ?_) fun h => ?_
  · exact onA_walk (os := [-1, 0, 1]) hs m1 m2 (by unfold ofS; rw [if_pos (by omega)]) hf hl hN
  · exact onA_walk (os := [0]) hs m1 m2 (by unfold ofS; rw [if_neg (by omega)]) hf hl hN
theorem onQ_walk (hs : G.fn js = spSg) (m1 : 8 ≤ m) (m2 : m ≤ 400) {d7 d8 : Option D} {as : List Int} (has : as = stS q) (hf : S[f]? = some (.dct (ownK fs))) (hl : fs.length < 4900)
    (hN : ∀ d7 d8 S', Ke [f] S S' → S'[f]? = some (.dct (ownK (goQ m r fs q))) → N (rowO m st r f q d7 d8) S') : wpWalk (as.map D.int) (fun _ => True) (rowO m st r f q d7 d8) S (DL.forTurn G (.name 7) (onA js) rt N) N := by
  have h3 : as.length ≤ 3 := by rw [has]; exact stS_len q
  refine walk_list (fun i ρ S' => i ≤ 3 ∧ ∃ d7 d8, ρ = rowO m st r f q d7 d8 ∧ Ke [f] S S' ∧ S'[f]? = some (.dct (ownK ((as.take i).foldl (goA m r q) fs))) ∧ ((as.take i).foldl (goA m r q) fs).length ≤ fs.length + 3 * i)
    ⟨by omega, _, _, rfl, .refl, hf, by simp⟩ (fun _ _ _ _ => trivial) (fun i x ρ S' hx hp => ?_) (fun ρ S' hp => ?_)
  · obtain ⟨hi, d7, d8, rfl, hk, hc, hl2⟩ := hp
    obtain ⟨a, ha, rfl⟩ := map_at hx
    have hil := (List.getElem?_eq_some_iff.mp ha).1
    unfold DL.forTurn
    rw [g_name]
    refine onA_ok (a := a) hs m1 m2 hc (by omega) fun d8 S2 k2 c2 => ?_
    have e : (as.take (i + 1)).foldl (goA m r q) fs = goA m r q ((as.take i).foldl (goA m r q) fs) a := by rw [List.take_succ, ha, List.foldl_append]; rfl
    refine ⟨by omega, _, _, rfl, hk.trans k2, by rw [e]; exact c2, ?_⟩
    rw [e]
    have := goA_len (m := m) (r := r) (q := q) ((as.take i).foldl (goA m r q) fs) a
    omega
  · obtain ⟨_, d7, d8, rfl, hk, hc, _⟩ := hp
    refine hN d7 d8 S' hk ?_
    rw [List.length_map, List.take_length, has] at hc
    exact hc
theorem onQ_ok (hs : G.fn js = spSg) (m1 : 8 ≤ m) (m2 : m ≤ 400) {d7 d8 : Option D} (hf : S[f]? = some (.dct (ownK fs))) (hl : fs.length < 4900)
    (hN : ∀ d7 d8 S', Ke [f] S S' → S'[f]? = some (.dct (ownK (goQ m r fs q))) → N (rowO m st r f q d7 d8) S') : wpSs G (onQ js) (rowO m st r f q d7 d8) S ⟨N, rt, bk, ct⟩ := by
  unfold onQ rowO
  simp_arith only []
  refine if_i (fun h => ?_) fun h => ?_
  · exact onQ_walk (as := [0]) hs m1 m2 (by unfold stS; rw [if_pos h]) hf hl hN
  · exact onQ_walk (as := [-1, 0, 1]) hs m1 m2 (by unfold stS; rw [if_neg h]) hf hl hN
end
theorem Kd.refl {S : DStore} : Kd S S := fun _ _ h => .inl h
theorem kp_kd {S S' : DStore} (h : Kp S S') : Kd S S' := fun j c e => .inl (h j c e)
theorem Kd.trans {S S1 S2 : DStore} (a : Kd S S1) (b : Kd S1 S2) : Kd S S2 := fun j c e => by
  rcases a j c e with h | ⟨kvs, rfl, h⟩
  · exact b j c h
  · rcases b j _ h with h | ⟨_, z, _⟩
    · exact .inr ⟨kvs, rfl, h⟩
    · cases z
theorem Kd.len {S S' : DStore} (h : Kd S S') : S.length ≤ S'.length := by
  rcases Nat.eq_zero_or_pos S.length with z | z
  · omega
  · have e : S[S.length - 1]? = some (S[S.length - 1]'(by omega)) := List.getElem?_eq_getElem (by omega)
    rcases h _ _ e with h | ⟨_, _, h⟩ <;> (have := (List.getElem?_eq_some_iff.mp h).1; omega)
theorem Kd.nd {S S' : DStore} (h : Kd S S') {j : Nat} {c : Cell} (e : S[j]? = some c) (hc : ∀ kvs, c ≠ .dct kvs) : S'[j]? = some c := by
  rcases h j c e with h | ⟨kvs, z, _⟩
  · exact h
  · exact absurd z (hc kvs)
theorem Kd.dct {S S' : DStore} (h : Kd S S') {n : Nat} {kvs : List (List L2.Key × D)} (e : dctOf S n = some kvs) : dctOf S' n = some kvs := by
  unfold dctOf at e
  split at e
  · rename_i k hk
    cases e
    rcases h n _ hk with h | ⟨k2, z, h⟩
    · unfold dctOf; rw [h]
    · cases z; unfold dctOf; rw [h]
  · rename_i k hk
    cases e
    have := h.nd hk (fun _ z => nomatch z)
    unfold dctOf; rw [this]
  · cases e
theorem Kd.tel {S S' : DStore} {n r l : Nat} {m b : Int} {rs : List R3} (h : Kd S S') (t : TelA S n r l m b rs) : TelA S' n r l m b rs := by
  obtain ⟨ls, a, b', c⟩ := t.ly
  exact ⟨h.nd t.o (fun _ z => nomatch z), h.nd t.rd (fun _ z => nomatch z), ⟨ls, h.nd a (fun _ z => nomatch z), b', fun i k e => h.nd (c i k e) (fun _ z => nomatch z)⟩, t.ne⟩
theorem Kd.lst {S S' : DStore} (h : Kd S S') {n : Nat} {xs : List D} (e : S[n]? = some (.lst xs)) : S'[n]? = some (.lst xs) := h.nd e (fun _ z => nomatch z)
theorem dct_cell {S : DStore} {n : Nat} {kvs : List (List L2.Key × D)} (e : dctOf S n = some kvs) : S[n]? = some (.dct kvs) ∨ S[n]? = some (.dlk kvs) := by
  unfold dctOf at e
  split at e
  · rename_i k hk; cases e; exact .inl hk
  · rename_i k hk; cases e; exact .inr hk
  · cases e
theorem dct_at {S : DStore} {n : Nat} {kvs : List (List L2.Key × D)} (h : S[n]? = some (.dct kvs)) : dctOf S n = some kvs := by unfold dctOf; rw [h]
theorem dlk_at {S : DStore} {n : Nat} {kvs : List (List L2.Key × D)} (h : S[n]? = some (.dlk kvs)) : dctOf S n = some kvs := by unfold dctOf; rw [h]
theorem kd_frz {S : DStore} {n : Nat} {kvs : List (List L2.Key × D)} (e : S[n]? = some (.dct kvs)) : Kd S (S.set n (.dlk kvs)) := fun j c h => by
  by_cases z : j = n
  · subst z
    rw [e] at h
    cases h
    exact .inr ⟨kvs, rfl, set_get e⟩
  · rw [List.getElem?_set_ne (Ne.symm z)]
    exact .inl h
theorem kd_app {S cs : DStore} : Kd S (S ++ cs) := fun _ _ h => .inl (app_get h)
theorem own_map (ks : List Q3) : (ownK ks).map (fun p => D.tup (p.1.map keyD)) = ks.map t3D := by
  unfold ownK
  rw [List.map_map]
  rfl
/-- a walk of a dict for good -/
theorem keysF_of {S : DStore} {n : Nat} {ks : List Q3} {R : RI} (e : dctOf S n = some (ownK ks)) (h : ∀ S', Kd S S' → S'[n]? = some (.dlk (ownK ks)) → (∀ j, j ≠ n → S'[j]? = S[j]?) → R (ks.map t3D) (fun _ => True) S') :
    (S[n]? = some (.dct (ownK ks)) ∧ R ((ownK ks).map fun p => D.tup (p.1.map keyD)) (fun _ => True) (S.set n (.dlk (ownK ks)))) ∨ (S[n]? = some (.dlk (ownK ks)) ∧ R ((ownK ks).map fun p => D.tup (p.1.map keyD)) (fun _ => True) S) := by
  rw [own_map]
  rcases dct_cell e with h1 | h1
  · exact .inl ⟨h1, h _ (kd_frz h1) (set_get h1) fun j hj => List.getElem?_set_ne (Ne.symm hj)⟩
  · exact .inr ⟨h1, h _ .refl h1 fun _ _ => rfl⟩
theorem keysF_w {S : DStore} {n : Nat} {ks : List Q3} {ρ : DEnv} {turn : D → DEnv → DStore → (DEnv → DStore → Prop) → Prop} {Q : DEnv → DStore → Prop} (e : dctOf S n = some (ownK ks)) (h : ∀ S', Kd S S' → S'[n]? = some (.dlk (ownK ks)) → (∀ j, j ≠ n → S'[j]? = S[j]?) → wpWalk (ks.map t3D) (fun _ => True) ρ S' turn Q) :
    (S[n]? = some (.dct (ownK ks)) ∧ wpWalk ((ownK ks).map fun p => D.tup (p.1.map keyD)) (fun _ => True) ρ (S.set n (.dlk (ownK ks))) turn Q) ∨ (S[n]? = some (.dlk (ownK ks)) ∧ wpWalk ((ownK ks).map fun p => D.tup (p.1.map keyD)) (fun _ => True) ρ S turn Q) :=
  keysF_of (R := fun xs I S' => wpWalk xs I ρ S' turn Q) e h
theorem keysF_g {S : DStore} {n : Nat} {ks : List Q3} {turn : D → DStore → (Option D → DStore → Prop) → Prop} {Q : List D → DStore → Prop} (e : dctOf S n = some (ownK ks)) (h : ∀ S', Kd S S' → S'[n]? = some (.dlk (ownK ks)) → (∀ j, j ≠ n → S'[j]? = S[j]?) → wpGather (ks.map t3D) (fun _ => True) S' turn Q) :
    (S[n]? = some (.dct (ownK ks)) ∧ wpGather ((ownK ks).map fun p => D.tup (p.1.map keyD)) (fun _ => True) (S.set n (.dlk (ownK ks))) turn Q) ∨ (S[n]? = some (.dlk (ownK ks)) ∧ wpGather ((ownK ks).map fun p => D.tup (p.1.map keyD)) (fun _ => True) S turn Q) :=
  keysF_of (R := fun xs I S' => wpGather xs I S' turn Q) e h
section
variable {G : Fns} {js f : Nat} {st : D} {m : Int} {r : R3} {S : DStore} {N : DEnv → DStore → Prop} {rt : QE} {ks : List Q3}
theorem onS_walk (hs : G.fn js = spSg) (m1 : 8 ≤ m) (m2 : m ≤ 400) (hl : ks.length ≤ 200) (hf : S[f]? = some (.dct (ownK [])))
    (hN : ∀ d4 d5 d6 d7 d8 S', Ke [f] S S' → S'[f]? = some (.dct (ownK (onL m r ks))) → N [some (.int m), some st, some (r3D r), some (.ref f), d4, d5, d6, d7, d8] S') :
    wpWalk (ks.map t3D) (fun _ => True) [some (.int m), some st, some (r3D r), some (.ref f), none, none, none, none, none] S (DL.forTurn G (.tup [(.name 4), (.name 5), (.name 6)]) (onQ js) rt N) N := by
  refine walk_list (fun i ρ S' => (∃ d4 d5 d6 d7 d8, ρ = [some (.int m), some st, some (r3D r), some (.ref f), d4, d5, d6, d7, d8]) ∧ Ke [f] S S' ∧ S'[f]? = some (.dct (ownK ((ks.take i).foldl (goQ m r) []))) ∧ i ≤ ks.length)
    ⟨⟨_, _, _, _, _, rfl⟩, .refl, hf, by omega⟩ (fun _ _ _ _ => trivial) (fun i x ρ S' hx hp => ?_) (fun ρ S' hp => ?_)
  · obtain ⟨⟨d4, d5, d6, d7, d8, rfl⟩, hk, hc, hi⟩ := hp
    obtain ⟨q, hq, rfl⟩ := map_at hx
    have hil := (List.getElem?_eq_some_iff.mp hq).1
    have hlen := onL_len (m := m) (r := r) (ks.take i)
    rw [List.length_take] at hlen
    unfold DL.forTurn t3D
    simp_arith only []
    refine ⟨trivial, onQ_ok (q := q) hs m1 m2 hc (by omega) fun d7 d8 S2 k2 c2 => ?_⟩
    refine ⟨⟨_, _, _, _, _, rfl⟩, hk.trans k2, ?_, by omega⟩
    rw [List.take_succ, hq, List.foldl_append]
    exact c2
  · obtain ⟨⟨d4, d5, d6, d7, d8, rfl⟩, hk, hc, hi⟩ := hp
    rw [List.length_map, List.take_length] at hc
    exact hN _ _ _ _ _ S' hk hc
end
theorem ke_kd {S S1 S' : DStore} (h : Kd S S1) (k : Ke [S.length] S1 S') : Kd S S' := fun j c e => by
  have hj : j ∉ [S.length] := by
    have := (List.getElem?_eq_some_iff.mp e).1
    simp only [List.mem_singleton]
    omega
  rcases h j c e with h | ⟨kvs, rfl, h⟩
  · exact .inl (k j c hj h)
  · exact .inr ⟨kvs, rfl, k j _ hj h⟩
theorem body12 : ∀ ds S Q, G.fn 12 ds S Q → wpSs G c12 (startD n12.length ds) S { nx := fun _ S' => Q .non S', rt := Q } := by
  rintro ds S Q ⟨m, st, ks, r, rfl, m1, m2, hl, hst, hQ⟩
  show wpSs _ _ [some (.int m), some st, some (r3D r), none, none, none, none, none, none] _ _
  rw [c12_eq]
  simp_arith only []
  have hf1 : (S ++ [Cell.dct []])[S.length]? = some (.dct (ownK [])) := by simp [ownK]
  rcases hst with rfl | ⟨n, rfl, hn⟩
  · refine .inl ?_
    show wpWalk (ks.map t3D) (fun _ => True) _ _ _ _
    refine onS_walk G4 m1 m2 hl hf1 fun d4 d5 d6 d7 d8 S' hk hc => ?_
    simp_arith only []
    have hkp : Kp S S' := fun j c e => hk j c (by have := (List.getElem?_eq_some_iff.mp e).1; simp; omega) (app_get e)
    exact hQ _ (kp_kd hkp) (fun _ _ => hkp) hc
  · refine .inr ⟨n, ownK ks, rfl, keysF_w (kd_app.dct hn) fun S1 hk1 hn1 he1 => ?_⟩
    have ltn : n < S.length := by rcases dct_cell hn with h | h <;> exact (List.getElem?_eq_some_iff.mp h).1
    refine onS_walk G4 m1 m2 hl (by rw [he1 _ (by omega)]; exact hf1) fun d4 d5 d6 d7 d8 S' hk hc => ?_
    simp_arith only []
    exact hQ _ (ke_kd (kd_app.trans hk1) hk) (fun _ z => nomatch z) hc
noncomputable def stpL (b : Int) (ts : List (Int × Int)) : List Int := ((b :: ts.map (·.1)).zip (ts.map (·.1))).map fun p => p.2 - p.1
theorem stpL_len (b : Int) (ts : List (Int × Int)) : (stpL b ts).length = ts.length := by simp [stpL]
theorem stE_at {b : Int} {ts : List (Int × Int)} {i : Nat} (hi : i < ts.length) : (b :: ts.map (·.1))[i]? = some (stE (b, false, 2) (ts.take i)).1 := by
  cases i with
  | zero => rfl
  | succ i =>
    have hp := List.getElem?_eq_getElem (show i < ts.length by omega)
    rw [place_at hp, List.getElem?_cons_succ, List.getElem?_map, hp]
    rfl
theorem stpL_at {b : Int} {ts : List (Int × Int)} {i : Nat} {p : Int × Int} (hp : ts[i]? = some p) : (stpL b ts)[i]? = some (p.1 - (stE (b, false, 2) (ts.take i)).1) := by
  have hi := (List.getElem?_eq_some_iff.mp hp).1
  unfold stpL
  have e : ((b :: ts.map (·.1)).zip (ts.map (·.1)))[i]? = some ((stE (b, false, 2) (ts.take i)).1, p.1) := List.getElem?_zip_eq_some.mpr ⟨stE_at hi, by rw [List.getElem?_map, hp]; rfl⟩
  rw [List.getElem?_map, e]
  rfl
theorem st3_le {x : Int} (h : x ∈ st3) : -1 ≤ x ∧ x ≤ 1 := by
  simp [st3] at h
  omega
theorem stp_in {m b : Int} {rs : List R3} {ts : List (Int × Int)} (h : tlOk m rs ts (b, false, 2) = true) : ∀ x ∈ stpL b ts, -1 ≤ x ∧ x ≤ 1 := fun x hx => by
  obtain ⟨i, hi, rfl⟩ := List.getElem_of_mem hx
  rw [stpL_len] at hi
  obtain ⟨h1, _, _⟩ := rule_at h (List.getElem?_eq_getElem hi)
  have e := stpL_at (b := b) (List.getElem?_eq_getElem hi)
  rw [List.getElem?_eq_getElem (by rw [stpL_len]; exact hi)] at e
  rw [Option.some.inj e]
  exact st3_le h1
theorem off_in {m b : Int} {rs : List R3} {ts : List (Int × Int)} (h : tlOk m rs ts (b, false, 2) = true) : ∀ x ∈ ts.map (·.2), -1 ≤ x ∧ x ≤ 1 := fun x hx => by
  obtain ⟨p, hp, rfl⟩ := List.mem_map.mp hx
  obtain ⟨i, hi, rfl⟩ := List.getElem_of_mem hp
  exact st3_le (rule_at h (List.getElem?_eq_getElem hi)).2.1
theorem zip_tail_at {α : Type} {l : List α} {x y : α} (h : (x, y) ∈ l.zip (l.drop 1)) : ∃ i, l[i]? = some x ∧ l[i + 1]? = some y := by
  obtain ⟨i, hi, e⟩ := List.getElem_of_mem h
  have e2 : (l.zip (l.drop 1))[i]? = some (x, y) := by rw [List.getElem?_eq_getElem hi, e]
  rw [List.getElem?_zip_eq_some] at e2
  refine ⟨i, e2.1, ?_⟩
  have := e2.2
  rw [List.getElem?_drop] at this
  rw [← this]
  congr 1
  omega
theorem stp_rest {m b : Int} {rs : List R3} {ts : List (Int × Int)} (h : tlOk m rs ts (b, false, 2) = true) : ∀ p ∈ (stpL b ts).zip ((stpL b ts).drop 1), ¬ (p.1 ≠ 0 ∧ p.2 ≠ 0) := fun p hp => by
  obtain ⟨i, h1, h2⟩ := zip_tail_at hp
  have l2 := (List.getElem?_eq_some_iff.mp h2).1
  rw [stpL_len] at l2
  have p1 := List.getElem?_eq_getElem (show i < ts.length by omega)
  have p2 := List.getElem?_eq_getElem (show i + 1 < ts.length by omega)
  rw [stpL_at p1] at h1
  rw [stpL_at p2, place_at p1] at h2
  have := rest_at h p1 p2
  have e1 := Option.some.inj h1
  have e2 := Option.some.inj h2
  omega
/-- the ticks of offs -/
noncomputable def offL (vs : List Int) : List Nat := (vs.zipIdx.filter fun p => decide (p.1 ≠ 0)).map (·.2)
theorem offL_mem {vs : List Int} {k : Nat} (h : k ∈ offL vs) : ∃ v, vs[k]? = some v ∧ v ≠ 0 := by
  unfold offL at h
  obtain ⟨p, hp, rfl⟩ := List.mem_map.mp h
  obtain ⟨h1, h2⟩ := List.mem_filter.mp hp
  rw [List.mem_zipIdx_iff_getElem?] at h1
  exact ⟨p.1, h1, by simpa using h2⟩
theorem offL_lt (vs : List Int) : (offL vs).Pairwise (· < ·) := by
  unfold offL
  rw [List.pairwise_map]
  refine List.Pairwise.filter _ ?_
  rw [List.pairwise_iff_getElem]
  intro i j hi hj hij
  rw [List.getElem_zipIdx, List.getElem_zipIdx]
  simp
  exact hij
theorem off_far {m b : Int} {rs : List R3} {ts : List (Int × Int)} (h : tlOk m rs ts (b, false, 2) = true) : ∀ p ∈ (offL (ts.map (·.2))).zip ((offL (ts.map (·.2))).drop 1), ¬ ((p.2 : Int) - (p.1 : Int) < 3) := fun p hp => by
  obtain ⟨i, h1, h2⟩ := zip_tail_at hp
  obtain ⟨v1, a1, a2⟩ := offL_mem (List.mem_of_getElem? h1)
  obtain ⟨v2, b1, b2⟩ := offL_mem (List.mem_of_getElem? h2)
  rw [List.getElem?_map, Option.map_eq_some_iff] at a1 b1
  obtain ⟨q1, c1, rfl⟩ := a1
  obtain ⟨q2, c2, rfl⟩ := b1
  have hlt : p.1 < p.2 := by
    have l2 := (List.getElem?_eq_some_iff.mp h2).1
    have := List.pairwise_iff_getElem.mp (offL_lt (ts.map (·.2))) i (i + 1) (by omega) l2 (by omega)
    rw [List.getElem?_eq_getElem (by omega)] at h1 h2
    rw [← Option.some.inj h1, ← Option.some.inj h2]
    exact this
  obtain ⟨r1, r2⟩ := right_at h c1 a2
  intro hd
  have hc : p.2 = p.1 + 1 ∨ p.2 = p.1 + 2 := by omega
  rcases hc with z | z
  · rw [z] at c2
    exact b2 (r1 _ c2)
  · rw [z] at c2
    exact b2 (r2 _ c2)
theorem tl_reads {m : Int} : ∀ (rs : List R3) (ts : List (Int × Int)) (s : K3), tlOk m rs ts s = true → ts.map (fun p => rdT m p.1 p.2) = rs
  | [], [], _, _ => rfl
  | [], _ :: _, _, h => by cases h
  | _ :: _, [], _, h => by cases h
  | r :: rs, p :: ps, s, h => by
    obtain ⟨_, h2, h3⟩ := tlOk_inv h
    rw [List.map_cons, h2, tl_reads rs ps _ h3]
theorem zip_r (ws vs : List Int) : zipD (ws.map D.int) (vs.map D.int) = (ws.zip vs).map fun p => D.tup [.int p.1, .int p.2] := by
  unfold zipD
  rw [List.zip_map, List.map_map]
  rfl
noncomputable def r3P (r : R3) : PyData := .tuple [.int r.1, .int r.2.1, .int r.2.2]
theorem purs_r3 : ∀ rs : List R3, purs (rs.map r3D) = some (rs.map r3P)
  | [] => rfl
  | x :: rs => by
    show ((pur (r3D x)).bind fun p => (purs (rs.map r3D)).map (p :: ·)) = _
    rw [purs_r3 rs]
    rfl
theorem lay_r3 : ∀ rs : List R3, PyData.canLayAll0 (rs.map r3P) = true
  | [] => rfl
  | x :: rs => by simp only [List.map_cons, PyData.canLayAll0, PyData.canLay0, lay_r3 rs, Bool.and_self, r3P]
theorem dep_r3 : ∀ rs : List R3, PyData.depthAll (rs.map r3P) ≤ 1
  | [] => Nat.zero_le _
  | x :: rs => by
    have := dep_r3 rs
    simp only [List.map_cons, PyData.depthAll, PyData.depth, r3P]
    omega
theorem eq_r3s {S : DStore} {rs : List R3} {Q : Bool → Prop} (h : Q true) : cmpD .Eq S (.lst (rs.map r3D)) (.lst (rs.map r3D)) Q := by
  refine eq_same (p := .list (rs.map r3P)) (fun _ z => nomatch z) (fun _ z => nomatch z) (fun _ z => nomatch z) ?_ ?_ h
  · show ((purs (rs.map r3D)).map PyData.list) = _
    rw [purs_r3]
    rfl
  · have := dep_r3 rs
    simp only [SeqAt.shaped, PyData.canLay0, PyData.depth, lay_r3, Bool.true_and]
    exact decide_eq_true (Nat.le_trans (Nat.succ_le_succ this) (by decide))
theorem sl_1 {S : DStore} {l : List D} {Q : QE} (h : Q (.lst (l.drop 1)) S) : slD false S (.lst l) (some 1) none Q := by
  refine ⟨l, rfl, ?_⟩
  show Q (.lst (DL.cutD l (some ((1 : Nat) : Int)) none)) S
  rw [cut_from]
  exact h
theorem zip_ls {S : DStore} {xs ys : List Int} {R : RI} (h : R ((xs.zip ys).map fun p => D.tup [.int p.1, .int p.2]) (fun S' => tlOf S' (.lst (xs.map D.int)) = some (xs.map D.int) ∧ tlOf S' (.lst (ys.map D.int)) = some (ys.map D.int)) S) : zipP S (.lst (xs.map D.int)) (.lst (ys.map D.int)) R :=
  ⟨_, _, rfl, rfl, by rw [zip_r]; exact h⟩
theorem body20 : ∀ ds S Q, G.fn 20 ds S Q → wpSs G c20 (startD n20.length ds) S { nx := fun _ S' => Q .non S', rt := Q } := by
  rintro ds S Q ⟨m, b, rd, rs, ts, rfl, h8, h4, hq, h1000, hok, h⟩
  show wpSs _ _ [some (.int m), some (.int b), some rd, some (.tup (ts.map ptD)), none, none, none, none, none, none, none, none, none, none] _ _
  have hlen := tlOk_len _ _ _ hok
  unfold c20
  refine ss_split 2 (fun ρ' S' => ∃ d4, ρ' = [some (.int m), some (.int b), some rd, some (.tup (ts.map ptD)), d4, none, none, none, none, none, none, none, none, none] ∧ S' = S) (fun N hN => ?_) ?_
  · have first : ∀ (N2 : DEnv → DStore → Prop), N2 [some (.int m), some (.int b), some rd, some (.tup (ts.map ptD)), none, none, none, none, none, none, none, none, none, none] S → wpSs G (c20.take 1) [some (.int m), some (.int b), some rd, some (.tup (ts.map ptD)), none, none, none, none, none, none, none, none, none, none] S ⟨N2, Q, fun _ _ => False, fun _ _ => False⟩ := by
      intro N2 hN2
      unfold c20
      rcases hq with rfl | ⟨q, rfl, hq⟩
      · simp_arith only [G19]
        rw [if_neg (by simp [hlen])]
        exact hN2
      · simp_arith only [G19]
        refine ⟨rs.map r3D, by rw [hq]; rfl, ?_⟩
        rw [if_neg (by simp [hlen])]
        exact hN2
    refine ss_split 1 (fun ρ' S' => ρ' = [some (.int m), some (.int b), some rd, some (.tup (ts.map ptD)), none, none, none, none, none, none, none, none, none, none] ∧ S = S') (fun N2 hN2 => first _ (hN2 _ _ ⟨rfl, rfl⟩)) ?_
    rintro ρ' S' ⟨rfl, rfl⟩
    simp_arith only [G19]
    refine walk_list (fun i ρ S' => ∃ d4, ρ = [some (.int m), some (.int b), some rd, some (.tup (ts.map ptD)), d4, none, none, none, none, none, none, none, none, none] ∧ S' = S) ⟨_, rfl, rfl⟩ (fun _ _ _ _ => trivial) ?_ ?_
    · rintro i x ρ S1 hx ⟨d4, rfl, rfl⟩
      rw [List.getElem?_map, Option.map_eq_some_iff] at hx
      obtain ⟨p, hp, rfl⟩ := hx
      unfold DL.forTurn ptD
      simp_arith only [G19]
      rw [if_neg (by decide)]
      show wpGather ([p.1, p.2].map D.int) _ _ _ _
      refine gather_map D.int (fun _ => D.bl true) (by show (2 : Nat) ≤ sizeLine; decide) trivial (fun k _ N2 hN2 => ?_) ?_
      · unfold DL.lcTurn
        simp_arith only [G19]
        exact ⟨k, rfl, hN2⟩
      · show biD .all1 false [.lst ([true, true].map D.bl)] S1 _
        rw [f_allB]
        simp_arith only []
        exact ⟨_, rfl, trivial⟩
    · rintro ρ S1 ⟨d4, rfl, rfl⟩
      exact hN _ _ ⟨_, rfl, rfl⟩
  rintro ρ' S1 ⟨d4, rfl, rfl⟩
  have hts : ts.length ≤ 1000 := by omega
  simp_arith only [G4]
  refine gather_map ptD (fun p => D.int p.1) (Nat.le_trans hts (by decide)) trivial (fun p _ N2 hN2 => ?_) ⟨by rw [List.length_map]; exact Nat.le_trans (Nat.add_le_add_left hts 1) (by decide), ?_⟩
  · unfold DL.lcTurn ptD
    simp_arith only []
    exact hN2
  refine gather_map ptD (fun p => D.int p.2) (Nat.le_trans hts (by decide)) trivial (fun p _ N2 hN2 => ?_) ?_
  · unfold DL.lcTurn ptD
    simp_arith only []
    exact hN2
  have eS : (D.int b :: ts.map fun p => D.int p.1) = (b :: ts.map (·.1)).map D.int := by rw [List.map_cons, List.map_map]; rfl
  have eO : (ts.map fun p => D.int p.2) = (ts.map (·.2)).map D.int := by rw [List.map_map]; rfl
  rw [eS, eO]
  refine sl_1 ?_
  rw [← List.map_drop]
  refine zip_ls ?_
  refine gather_map (fun p : Int × Int => D.tup [.int p.1, .int p.2]) (fun p => D.int (p.2 - p.1)) (Nat.le_trans (by rw [List.length_zip]; simp; omega) (show 1000 ≤ sizeLine by decide)) ⟨rfl, rfl⟩ (fun p _ N2 hN2 => ?_) ?_
  · unfold DL.lcTurn
    simp_arith only []
    exact ⟨trivial, hN2⟩
  have eT : ((b :: ts.map (·.1)).zip ((b :: ts.map (·.1)).drop 1)).map (fun p => D.int (p.2 - p.1)) = (stpL b ts).map D.int := by
    unfold stpL
    rw [List.map_map]
    rfl
  rw [eT]
  have hsl := stpL_len b ts
  have hin : ∀ x ∈ stpL b ts ++ ts.map (·.2), -1 ≤ x ∧ x ≤ 1 := fun x hx => (List.mem_append.mp hx).elim (stp_in hok x) (off_in hok x)
  have hre := stp_rest hok
  have hfar := off_far hok
  have hrd := tl_reads rs ts _ hok
  generalize stpL b ts = sp at *
  refine ⟨by rw [List.length_map, List.length_map, List.length_map]; exact Nat.le_trans (show sp.length + ts.length ≤ 2000 by omega) (by decide), ?_⟩
  rw [← List.map_append]
  refine gather_map D.int (fun _ => D.bl true) (Nat.le_trans (show (sp ++ ts.map (·.2)).length ≤ 2000 by rw [List.length_append, List.length_map]; omega) (by decide)) trivial (fun x hx N2 hN2 => ?_) ?_
  · have hb := hin x hx
    unfold DL.lcTurn
    simp_arith only []
    rw [if_pos hb.1, decide_eq_true hb.2]
    exact hN2
  rw [show (sp ++ ts.map (·.2)).map (fun _ => D.bl true) = ((sp ++ ts.map (·.2)).map fun _ => true).map D.bl by rw [List.map_map]; rfl, f_allB, show (((sp ++ ts.map (·.2)).map fun _ => true).all id) = true by rw [List.all_map, List.all_eq_true]; intro _ _; rfl]
  simp_arith only []
  refine sl_1 ?_
  rw [← List.map_drop]
  refine zip_ls ?_
  refine gather_map (fun p : Int × Int => D.tup [.int p.1, .int p.2]) (fun _ => D.bl false) (Nat.le_trans (show (sp.zip (sp.drop 1)).length ≤ 1000 by rw [List.length_zip]; omega) (by decide)) ⟨rfl, rfl⟩ (fun p hp N2 hN2 => ?_) ?_
  · have hb := hre p hp
    unfold DL.lcTurn
    simp_arith only []
    refine ⟨trivial, ?_⟩
    by_cases z : p.1 = 0
    · rw [if_neg (by simpa using z)]
      exact hN2
    · rw [if_pos z]
      have z2 : p.2 = 0 := by
        by_cases w : p.2 = 0
        · exact w
        · exact absurd ⟨z, w⟩ hb
      rw [z2]
      exact hN2
  rw [show (sp.zip (sp.drop 1)).map (fun _ => D.bl false) = ((sp.zip (sp.drop 1)).map fun _ => false).map D.bl by rw [List.map_map]; rfl, f_anyB, show (((sp.zip (sp.drop 1)).map fun _ => false).any id) = false by rw [List.any_map]; simp]
  simp_arith only []
  have eE : enumD ((ts.map (·.2)).map D.int) = (ts.map (·.2)).zipIdx.map fun p => D.tup [.int (p.2 : Nat), .int p.1] := by
    unfold enumD
    rw [List.zipIdx_map, List.map_map]
    rfl
  rw [eE]
  refine gath_f (fun p : Int × Nat => D.tup [.int (p.2 : Nat), .int p.1]) (fun p => decide (p.1 ≠ 0)) (fun p => D.int (p.2 : Nat)) (Nat.le_trans (by rw [List.length_zipIdx, List.length_map]; exact hts) (by decide)) trivial (fun p _ N2 h6 h7 => ?_) ?_
  · unfold DL.lcTurn
    simp_arith only []
    by_cases z : p.1 = 0
    · simp only [z] at h6 h7 ⊢
      exact ⟨trivial, h7 (by simp)⟩
    · have h6' := h6 (decide_eq_true z)
      simp only [z, not_false_eq_true, if_true]
      exact ⟨trivial, h6'⟩
  have eF : ((ts.map (·.2)).zipIdx.filter fun p => decide (p.1 ≠ 0)).map (fun p => D.int (p.2 : Nat)) = ((offL (ts.map (·.2))).map fun k : Nat => (k : Int)).map D.int := by
    unfold offL
    rw [List.map_map, List.map_map]
    rfl
  rw [eF]
  have hol : (offL (ts.map (·.2))).length ≤ 1000 := by
    unfold offL
    rw [List.length_map]
    refine Nat.le_trans (List.length_filter_le _ _) ?_
    rw [List.length_zipIdx, List.length_map]
    exact hts
  have hfar2 : ∀ p ∈ ((offL (ts.map (·.2))).map fun k : Nat => (k : Int)).zip (((offL (ts.map (·.2))).map fun k : Nat => (k : Int)).drop 1), ¬ (p.2 - p.1 < 3) := fun p hp => by
    rw [← List.map_drop, List.zip_map, List.mem_map] at hp
    obtain ⟨u, hu, rfl⟩ := hp
    exact hfar u hu
  generalize offL (ts.map (·.2)) = ol at *
  have hol2 : (ol.map fun k : Nat => (k : Int)).length ≤ 1000 := by rw [List.length_map]; exact hol
  generalize ol.map (fun k : Nat => (k : Int)) = oi at *
  refine sl_1 ?_
  rw [← List.map_drop]
  refine zip_ls ?_
  refine gather_map (fun p : Int × Int => D.tup [.int p.1, .int p.2]) (fun _ => D.bl false) (Nat.le_trans (show (oi.zip (oi.drop 1)).length ≤ 1000 by rw [List.length_zip]; omega) (by decide)) ⟨rfl, rfl⟩ (fun p hp N2 hN2 => ?_) ?_
  · have hb := hfar2 p hp
    unfold DL.lcTurn
    simp_arith only []
    rw [decide_eq_false hb]
    exact ⟨trivial, hN2⟩
  rw [show (oi.zip (oi.drop 1)).map (fun _ => D.bl false) = ((oi.zip (oi.drop 1)).map fun _ => false).map D.bl by rw [List.map_map]; rfl, f_anyB, show (((oi.zip (oi.drop 1)).map fun _ => false).any id) = false by rw [List.any_map]; simp]
  rcases hq with rfl | ⟨q, rfl, hq⟩
  · simp_arith only [G4]
    refine gather_map ptD (fun p => r3D (rdT m p.1 p.2)) (Nat.le_trans hts (by decide)) trivial (fun p _ N2 hN2 => ?_) ?_
    · unfold DL.lcTurn ptD
      simp_arith only [G4]
      exact ⟨trivial, m, p.1, p.2, rfl, h8, h4, hN2⟩
    rw [show ts.map (fun p => r3D (rdT m p.1 p.2)) = (ts.map fun p => rdT m p.1 p.2).map r3D by rw [List.map_map]; rfl, hrd]
    exact eq_r3s (Q := fun r => Q (.bl r) S1) h
  · simp_arith only [G4]
    refine gather_map ptD (fun p => r3D (rdT m p.1 p.2)) (Nat.le_trans hts (by decide)) trivial (fun p _ N2 hN2 => ?_) ?_
    · unfold DL.lcTurn ptD
      simp_arith only [G4]
      exact ⟨trivial, m, p.1, p.2, rfl, h8, h4, hN2⟩
    rw [show ts.map (fun p => r3D (rdT m p.1 p.2)) = (ts.map fun p => rdT m p.1 p.2).map r3D by rw [List.map_map]; rfl, hrd]
    refine ⟨rs.map r3D, by simp only [seqOf, lstOf, hq], ?_⟩
    exact eq_r3s (Q := fun r => Q (.bl r) S1) h
theorem ixN_nt {n i : Nat} (h : i < n) : ixN n (i : Int) = some i := by
  rw [ix_n (by omega) (by omega)]
  simp
theorem LsAt.ls {S : DStore} {d : D} {xs : List D} (h : LsAt S d xs) : lstOf S d = some xs := by
  rcases h with rfl | ⟨p, rfl, h⟩
  · rfl
  · unfold lstOf; simp only [h]
theorem LsAt.tl {S : DStore} {d : D} {xs : List D} (h : LsAt S d xs) : tlOf S d = some xs := by
  rcases h with rfl | ⟨p, rfl, h⟩
  · rfl
  · show lstOf S (.ref p) = _
    unfold lstOf; simp only [h]
theorem LsAt.sl {S : DStore} {d : D} {xs : List D} (h : LsAt S d xs) {lo hi : Option Int} {Q : QE} (hQ : Q (.lst (cutD xs lo hi)) S) : slD false S d lo hi Q := by
  rcases h with rfl | ⟨p, rfl, h⟩
  · exact ⟨xs, rfl, hQ⟩
  · exact ⟨xs, by unfold lstOf; simp only [h], hQ⟩
theorem LsAt.zip {S : DStore} {d e : D} {xs ys : List Int} (h : LsAt S d (xs.map D.int)) (h' : LsAt S e (ys.map D.int)) {R : RI} (hR : R ((xs.zip ys).map fun p => D.tup [.int p.1, .int p.2]) (fun S' => tlOf S' d = some (xs.map D.int) ∧ tlOf S' e = some (ys.map D.int)) S) : zipP S d e R := by
  have a := h.ls
  have b := h'.ls
  rcases h with rfl | ⟨p, rfl, h⟩ <;> rcases h' with rfl | ⟨p', rfl, h'⟩ <;> exact ⟨_, _, a, b, by rw [zip_r]; exact hR⟩
theorem LsAt.keep {S S' : DStore} {d : D} {xs : List D} (h : LsAt S d xs) (k : ∀ p, d = .ref p → S'[p]? = S[p]?) : LsAt S' d xs := by
  rcases h with rfl | ⟨p, rfl, h⟩
  · exact .inl rfl
  · exact .inr ⟨p, rfl, by rw [k p rfl]; exact h⟩
theorem LsAt.kd {S S' : DStore} {d : D} {xs : List D} (h : LsAt S d xs) (k : Kd S S') : LsAt S' d xs := by
  rcases h with rfl | ⟨p, rfl, h⟩
  · exact .inl rfl
  · exact .inr ⟨p, rfl, k.lst h⟩
theorem body5 : ∀ ds S Q, G.fn 5 ds S Q → wpSs G c5 (startD n5.length ds) S { nx := fun _ S' => Q .non S', rt := Q } := by
  rintro ds S Q ⟨n, p, v, T, m, ws, vs, rfl, hP, hT, m1, m2, hp, hv, pn, vn, hlen, hl1, hl3, h⟩
  show wpSs _ _ [some (.ref n), some (.int m), some (.ref p), some (.ref v), none, none, none, none, none, none, none, none, none] _ _
  have ltp := (List.getElem?_eq_some_iff.mp hp).1
  have ltv := (List.getElem?_eq_some_iff.mp hv).1
  unfold c5
  refine ss_split 2 (fun ρ' S' => ∃ (a z : Int) (i : Nat), ρ' = [some (.ref n), some (.int m), some (.ref p), some (.ref v), some (.int z), none, some (.int a), some (.int i), none, none, none, none, none] ∧ Pot n (T + 3) S' ∧ Fr n S S' ∧ S'[p]? = some (.lst (ws.map D.int)) ∧ S'[v]? = some (.lst (vs.map D.int)) ∧ i < ws.length) (fun N hN => ?_) ?_
  · simp_arith only [G1]
    refine takeP hP (by omega) (by decide) (by decide) fun a S1 a0 a1 P1 F1 L1 => ?_
    have hp1 := F1.get pn hp
    have hv1 := F1.get vn hv
    refine ⟨ws.map D.int, by rw [hp1]; rfl, ?_⟩
    rw [List.length_map]
    refine takeP P1 (by omega) (by omega) (by omega) fun i S2 i0 i1 P2 F2 L2 => ?_
    refine takeP P2 (by omega) (by decide) (by decide) fun u S3 u0 u1 P3 F3 L3 => ⟨mulS (by omega), ?_⟩
    obtain ⟨k, rfl⟩ : ∃ k : Nat, i = (k : Int) := ⟨i.toNat, by omega⟩
    exact hN _ _ ⟨a, 1 - 2 * u, k, rfl, P3.mono (by omega), (F1.trans F2).trans F3, F3.get pn (F2.get pn hp1), F3.get vn (F2.get vn hv1), by omega⟩
  rintro ρ' S1 ⟨a, z, i, rfl, P1, F1, hp1, hv1, hi⟩
  refine ss_split 1 (fun ρ' S' => ∃ (d2 : D) (ws' : List Int), ρ' = [some (.ref n), some (.int m), some d2, some (.ref v), some (.int z), none, some (.int a), some (.int i), none, none, none, none, none] ∧ S' = S1 ∧ LsAt S1 d2 (ws'.map D.int) ∧ ws'.length = ws.length) (fun N hN => ?_) ?_
  · simp_arith only [G1]
    refine if_i (fun c => ?_) fun c => ?_
    · refine LsAt.sl (.inr ⟨p, rfl, hp1⟩) ?_
      refine LsAt.sl (.inr ⟨p, rfl, hp1⟩) ?_
      rw [cut_to, cut_from, ← List.map_drop, ← List.map_take]
      refine gather_map D.int (fun x => D.int (x + z)) (Nat.le_trans (show (ws.drop i).length ≤ 300 by rw [List.length_drop]; omega) (by decide)) trivial (fun x _ N2 hN2 => ?_) ?_
      · unfold DL.lcTurn
        simp_arith only []
        exact hN2
      · rw [show (ws.drop i).map (fun x => D.int (x + z)) = ((ws.drop i).map (· + z)).map D.int by rw [List.map_map]; rfl]
        refine ⟨_, _, rfl, rfl, ?_, ?_⟩
        · refine Nat.le_trans (m := 300) ?_ (by decide)
          simp only [List.length_map, List.length_take, List.length_drop]
          omega
        · exact hN _ _ ⟨_, ws.take i ++ (ws.drop i).map (· + z), rfl, rfl, .inl (by rw [List.map_append]), by simp only [List.length_append, List.length_map, List.length_take, List.length_drop]; omega⟩
    · exact hN _ _ ⟨_, ws, rfl, rfl, .inr ⟨p, rfl, hp1⟩, rfl⟩
  rintro ρ' S1' ⟨d2, ws', rfl, rfl, h2, l2⟩
  refine ss_split 1 (fun ρ' S' => ∃ (d3 : D) (vs' : List Int), ρ' = [some (.ref n), some (.int m), some d2, some d3, some (.int z), none, some (.int a), some (.int i), none, none, none, none, none] ∧ S' = S1' ∧ LsAt S1' d3 (vs'.map D.int) ∧ vs'.length = ws.length) (fun N hN => ?_) ?_
  · simp_arith only [G1]
    refine if_i (fun c => ?_) fun c => ?_
    · refine LsAt.sl (.inr ⟨v, rfl, hv1⟩) ?_
      rw [cut_to, ← List.map_take]
      refine ⟨_, _, rfl, rfl, ?_, ?_⟩
      · refine Nat.le_trans (m := 400) ?_ (by decide)
        simp only [List.length_map, List.length_take, List.length_cons, List.length_nil]
        omega
      refine LsAt.sl (.inr ⟨v, rfl, hv1⟩) ?_
      rw [show (i : Int) + 1 = ((i + 1 : Nat) : Int) by omega, cut_from, ← List.map_drop]
      refine ⟨_, _, rfl, rfl, ?_, ?_⟩
      · refine Nat.le_trans (m := 1000) ?_ (by decide)
        simp only [List.length_map, List.length_take, List.length_cons, List.length_nil, List.length_append, List.length_drop]
        omega
      · exact hN _ _ ⟨_, vs.take i ++ [z] ++ vs.drop (i + 1), rfl, rfl, .inl (by rw [List.map_append, List.map_append]; rfl), by simp only [List.length_append, List.length_cons, List.length_nil, List.length_take, List.length_drop]; omega⟩
    · exact hN _ _ ⟨_, vs, rfl, rfl, .inr ⟨v, rfl, hv1⟩, by omega⟩
  rintro ρ' S1 ⟨d3, vs', rfl, rfl, h3, l3⟩
  refine ss_split 2 (fun ρ' S' => ∃ (rs : List R3) (r : R3), ρ' = [some (.ref n), some (.int m), some d2, some d3, some (.int z), some (.ref S1.length), some (.int a), some (.int i), some (.int r.1), some (.int r.2.1), some (.int r.2.2), none, none] ∧ S' = S1 ++ [.lst (rs.map r3D)] ∧ rs.length = ws.length) (fun N hN => ?_) ?_
  · simp_arith only [G4]
    refine LsAt.zip h2 h3 ?_
    refine gather_map (fun p : Int × Int => D.tup [.int p.1, .int p.2]) (fun p => r3D (rdT m p.1 p.2)) (Nat.le_trans (show (ws'.zip vs').length ≤ 300 by rw [List.length_zip]; omega) (by decide)) ⟨h2.tl, h3.tl⟩ (fun q _ N2 hN2 => ?_) ?_
    · unfold DL.lcTurn
      simp_arith only [G4]
      exact ⟨trivial, m, q.1, q.2, rfl, m1, m2, hN2⟩
    · rw [show (ws'.zip vs').map (fun p => r3D (rdT m p.1 p.2)) = ((ws'.zip vs').map fun p => rdT m p.1 p.2).map r3D by rw [List.map_map]; rfl]
      have hlz : ((ws'.zip vs').map fun p => rdT m p.1 p.2).length = ws.length := by rw [List.length_map, List.length_zip]; omega
      generalize ((ws'.zip vs').map fun p => rdT m p.1 p.2) = rs at hlz ⊢
      have hr := List.getElem?_eq_getElem (show i < rs.length by omega)
      have hc0 : (S1 ++ [Cell.lst (rs.map r3D)])[S1.length]? = some (.lst (rs.map r3D)) := by simp
      refine ⟨_, by rw [hc0]; rfl, r3D rs[i], atI_nat' (by omega) (by rw [Int.toNat_natCast, List.getElem?_map, hr]; rfl), ?_⟩
      unfold r3D
      simp_arith only []
      refine ⟨trivial, ?_⟩
      exact hN _ _ ⟨rs, rs[i], rfl, rfl, hlz⟩
  rintro ρ' S2 ⟨rs, r, rfl, rfl, hrl⟩
  have put : ∀ (S3 : DStore) (us : List R3) (x : R3), (∃ g, S3 = S1 ++ [g]) → S3[S1.length]? = some (.lst (us.map r3D)) → us.length = ws.length → (∃ g, S3.set S1.length (.lst ((us.map r3D).set i (r3D x))) = S1 ++ [g]) ∧ (S3.set S1.length (.lst ((us.map r3D).set i (r3D x))))[S1.length]? = some (.lst ((us.set i x).map r3D)) ∧ (us.set i x).length = ws.length := by
    rintro S3 us x ⟨g, rfl⟩ e1 e2
    refine ⟨⟨.lst ((us.map r3D).set i (r3D x)), by simp⟩, ?_, by simpa using e2⟩
    rw [set_get e1, List.map_set]
  refine ss_split 1 (fun ρ' S' => ∃ (us : List R3), ρ' = [some (.ref n), some (.int m), some d2, some d3, some (.int z), some (.ref S1.length), some (.int a), some (.int i), some (.int r.1), some (.int r.2.1), some (.int r.2.2), none, none] ∧ (∃ g, S' = S1 ++ [g]) ∧ S'[S1.length]? = some (.lst (us.map r3D)) ∧ us.length = ws.length) (fun N hN => ?_) ?_
  · simp_arith only []
    refine if_i (fun c => ?_) fun c => ?_
    · have hc : (S1 ++ [Cell.lst (rs.map r3D)])[S1.length]? = some (.lst (rs.map r3D)) := by simp
      obtain ⟨e1, e2, e3⟩ := put _ rs (1 - r.1, 1 - r.2.1, r.2.2) ⟨_, rfl⟩ hc hrl
      exact ⟨_, hc, i, ixN_nt (by rw [List.length_map]; omega), hN _ _ ⟨_, rfl, e1, e2, e3⟩⟩
    · exact hN _ _ ⟨rs, rfl, ⟨_, rfl⟩, by simp, hrl⟩
  rintro ρ' S2 ⟨us, rfl, hg, hc, hul⟩
  refine ss_split 1 (fun ρ' S' => ∃ (us : List R3), ρ' = [some (.ref n), some (.int m), some d2, some d3, some (.int z), some (.ref S1.length), some (.int a), some (.int i), some (.int r.1), some (.int r.2.1), some (.int r.2.2), none, none] ∧ (∃ g, S' = S1 ++ [g]) ∧ S'[S1.length]? = some (.lst (us.map r3D)) ∧ us.length = ws.length) (fun N hN => ?_) ?_
  · simp_arith only []
    refine if_i (fun c => ?_) fun c => ?_
    · obtain ⟨e1, e2, e3⟩ := put _ us (r.1, r.2.1, 1 - r.2.2) hg hc hul
      exact ⟨_, hc, i, ixN_nt (by rw [List.length_map]; omega), hN _ _ ⟨_, rfl, e1, e2, e3⟩⟩
    · exact hN _ _ ⟨us, rfl, hg, hc, hul⟩
  rintro ρ' S2 ⟨us, rfl, ⟨g, rfl⟩, hc, hul⟩
  simp_arith only []
  exact h _ us _ P1.app (F1.trans Fr.app) F1.1 hc hul
noncomputable def oL (m b : Int) (rs : List R3) : List Q3 := rs.foldl (fun ks r => onL m r ks) [(b, 0, 3)]
theorem oL_snoc (m b : Int) (rs : List R3) (r : R3) : oL m b (rs ++ [r]) = onL m r (oL m b rs) := by simp [oL, List.foldl_append]
theorem oL_ref (m b : Int) : ∀ (k : Nat) (rs : List R3), rs.length = k → Ref (oL m b rs) (lay m b rs) := by
  intro k
  induction k with
  | zero =>
    intro rs h
    rw [List.eq_nil_of_length_eq_zero h]
    exact Ref.one b
  | succ k ih =>
    intro rs h
    rcases List.eq_nil_or_concat rs with rfl | ⟨rs', r, rfl⟩
    · simp at h
    · rw [List.concat_eq_append] at h ⊢
      rw [oL_snoc, lay_snoc]
      exact (ih rs' (by simpa using h)).on
theorem oL_len (m b : Int) (rs : List R3) : (oL m b rs).length ≤ 90 := by
  have h := (oL_ref m b _ rs rfl).len
  have := lay_len m b rs
  omega
theorem oL_take {m b : Int} {rs : List R3} {i : Nat} {r : R3} (h : rs[i]? = some r) : oL m b (rs.take (i + 1)) = onL m r (oL m b (rs.take i)) := by
  rw [List.take_add_one, h]
  exact oL_snoc m b _ r
/-- the own states that still lead to the end -/
noncomputable def oA (m b e : Int) (rs : List R3) (i : Nat) : List Q3 := (oL m b (rs.take i)).filter fun q => liveF m e (rs.drop i) (al q)
theorem drop_at {rs : List R3} {i : Nat} {r : R3} (h : rs[i]? = some r) : rs.drop i = r :: rs.drop (i + 1) := by
  obtain ⟨h1, h2⟩ := List.getElem?_eq_some_iff.mp h
  rw [← h2]
  exact List.drop_eq_getElem_cons h1
theorem own_prt {m : Int} {r : R3} {q q' : Q3} (h1 : 1 ≤ q.2.2) (h3 : q.2.2 ≤ 3) (h : OwnTo m r q q') : ∃ a o, a ∈ stS q ∧ o ∈ ofS q ∧ q' = nq q a o ∧ rdT m (q.1 + a) o = r ∧ (((q.1 + a, o), al q') : (Int × Int) × K3) ∈ prt m (al q) r := by
  obtain ⟨a, ha, o, ho, hr, rfl⟩ := h
  obtain ⟨c1, c2, c3⟩ := (own_onw h1 h3).mp ⟨ha, ho⟩
  exact ⟨a, o, ha, ho, rfl, hr, mem_prt.mpr ⟨a, c1, o, c2, c3, hr, rfl⟩⟩
theorem prt_own {m : Int} {r : R3} {q : Q3} {p : (Int × Int) × K3} (h1 : 1 ≤ q.2.2) (h3 : q.2.2 ≤ 3) (h : p ∈ prt m (al q) r) : ∃ a o, a ∈ stS q ∧ o ∈ ofS q ∧ p = ((q.1 + a, o), al (nq q a o)) ∧ rdT m (q.1 + a) o = r ∧ OwnTo m r q (nq q a o) := by
  obtain ⟨a, ha, o, ho, e1, e2, e3⟩ := mem_prt.mp h
  have e := onw_al h1 h3 (show onw (al q) (q.1 + a) o = some p.2 from e1)
  rw [e] at e1
  obtain ⟨c1, c2⟩ := (own_onw h1 h3).mpr ⟨ha, ho, e1⟩
  refine ⟨a, o, c1, c2, ?_, e2, a, c1, o, c2, e2, rfl⟩
  rw [← e, ← show p.1 = (q.1 + a, o) from e3]
/-- who lives on -/
theorem oA_live {m b e : Int} {rs : List R3} {i : Nat} {r : R3} (h : rs[i]? = some r) {q : Q3} (hq : q ∈ oL m b (rs.take i)) : ((onL m r [q]).any fun q' => decide (q' ∈ oA m b e rs (i + 1))) = liveF m e (rs.drop i) (al q) := by
  obtain ⟨b1, b3, _, _⟩ := (oL_ref m b _ (rs.take i) rfl).b q hq
  rw [drop_at h, Bool.eq_iff_iff, List.any_eq_true]
  show _ ↔ ((prt m (al q) r).any fun p => liveF m e (rs.drop (i + 1)) p.2) = true
  rw [List.any_eq_true]
  constructor
  · rintro ⟨q', h1, h2⟩
    obtain ⟨q0, hq0, ht⟩ := onL_mem.mp h1
    rw [List.mem_singleton.mp hq0] at ht
    obtain ⟨a, o, _, _, _, _, hp⟩ := own_prt b1 b3 ht
    exact ⟨_, hp, (List.mem_filter.mp (of_decide_eq_true h2)).2⟩
  · rintro ⟨p, hp, hl⟩
    obtain ⟨a, o, _, _, e1, _, ht⟩ := prt_own b1 b3 hp
    refine ⟨nq q a o, onL_mem.mpr ⟨q, List.mem_singleton.mpr rfl, ht⟩, decide_eq_true (List.mem_filter.mpr ⟨?_, ?_⟩)⟩
    · rw [oL_take h]
      exact onL_mem.mpr ⟨q, hq, ht⟩
    · rw [e1] at hl
      exact hl
theorem tl_last {m e : Int} : ∀ (rs : List R3) (s : K3), rs ≠ [] → liveF m e rs s = true → ∃ t p, taleF m e rs s = t ++ [p] ∧ p.1 = e
  | [], _, h, _ => absurd rfl h
  | r :: rs, s, _, h => by
    obtain ⟨q, l, _, h2, h3, h4⟩ := tale_step h
    rw [h2]
    by_cases z : rs = []
    · subst z
      refine ⟨[], q.1, rfl, ?_⟩
      have h3 : (q.2.1 == e) = true := h3
      obtain ⟨a, _, o, _, h1, _, h5⟩ := mem_prt.mp h4
      have := (onw_nx h1).1
      rw [h5, ← eq_of_beq h3, this]
      rfl
    · obtain ⟨t, p, e1, e2⟩ := tl_last rs q.2 z h3
      exact ⟨q.1 :: t, p, by rw [e1]; rfl, e2⟩
noncomputable abbrev PP := (Int × Int) × Q3
noncomputable def ppD (x : PP) : D := .tup [ptD x.1, t3D x.2]
noncomputable def ppP (x : PP) : PyData := .tuple [ptP x.1, r3P x.2]
noncomputable def okQ (m : Int) (r : R3) (A : List Q3) (q : Q3) (o : Int) : Bool := decide (decide (o ≠ 0) = decide (q.2.2 = 1)) && decide (rdT m q.1 o = r) && decide (q ∈ A)
noncomputable def prQ (m : Int) (r : R3) (A : List Q3) (q : Q3) (os : List Int) : List PP := (os.filter (okQ m r A q)).map fun o => ((q.1, o), q)
noncomputable def prs (m : Int) (r : R3) (A : List Q3) (qs : List Q3) : List PP := qs.flatMap fun q => prQ m r A q [-1, 0, 1]
theorem mem_prs {m : Int} {r : R3} {A qs : List Q3} {x : PP} : x ∈ prs m r A qs ↔ x.2 ∈ qs ∧ x.1.1 = x.2.1 ∧ x.1.2 ∈ st3 ∧ (x.1.2 ≠ 0 ↔ x.2.2.2 = 1) ∧ rdT m x.2.1 x.1.2 = r ∧ x.2 ∈ A := by
  unfold prs prQ
  simp only [List.mem_flatMap, List.mem_map, List.mem_filter, okQ, Bool.and_eq_true, decide_eq_true_eq, decide_eq_decide]
  constructor
  · rintro ⟨q, hq, o, ⟨ho, ⟨h1, h2⟩, h3⟩, rfl⟩
    exact ⟨hq, rfl, ho, h1, h2, h3⟩
  · rintro ⟨h1, h2, h3, h4, h5, h6⟩
    refine ⟨x.2, h1, x.1.2, ⟨h3, ⟨h4, h5⟩, h6⟩, ?_⟩
    rw [← h2]
theorem off_uniq {m p o o' : Int} {r : R3} (h1 : rdT m p o = r) (h2 : rdT m p o' = r) (a : o ∈ st3) (b : o' ∈ st3) : o = o' := by
  have := rd_mod (h1.trans h2.symm)
  rw [mem_st3] at a b
  omega
theorem prt1_at {m : Int} {s : K3} {r : R3} {a o : Int} {q : (Int × Int) × K3} (h : prt1 m s r a o = some q) : q.1 = (s.1 + a, o) := by
  unfold prt1 at h
  cases e : onw s (s.1 + a) o with
  | none => rw [e] at h; cases h
  | some t =>
    rw [e] at h
    simp only at h
    split at h
    · cases h; rfl
    · cases h
noncomputable def lexP (a b : (Int × Int) × K3) : Prop := a.1.1 < b.1.1 ∨ (a.1.1 = b.1.1 ∧ a.1.2 < b.1.2)
theorem prt_sorted (m : Int) (s : K3) (r : R3) : (prt m s r).Pairwise lexP := by
  unfold prt
  rw [List.pairwise_flatMap]
  have hs : st3.Pairwise (· < ·) := by decide
  refine ⟨fun a _ => ?_, hs.imp fun {a a'} hlt x hx y hy => ?_⟩
  · rw [List.pairwise_filterMap]
    refine hs.imp fun {o o'} hlt x hx y hy => ?_
    have e1 := prt1_at hx
    have e2 := prt1_at hy
    exact .inr ⟨by rw [e1, e2], by rw [e1, e2]; exact hlt⟩
  · obtain ⟨o, _, h1⟩ := List.mem_filterMap.mp hx
    obtain ⟨o', _, h2⟩ := List.mem_filterMap.mp hy
    have e1 := prt1_at h1
    have e2 := prt1_at h2
    refine .inl ?_
    rw [e1, e2]
    show s.1 + a < s.1 + a'
    omega
/-- what a tick says: the tale's part stands amid the pairs and before all others; what follows it -/
theorem tick_ok {m b e : Int} {rs : List R3} {i : Nat} {r : R3} (h : rs[i]? = some r) {q : Q3} (hq : q ∈ oL m b (rs.take i)) (hl : liveF m e (rs.drop i) (al q) = true) :
    ∃ (p : Int × Int) (s : K3), taleF m e (rs.drop i) (al q) = p :: taleF m e (rs.drop (i + 1)) s ∧
      (∃ q', (p, q') ∈ prs m r (oA m b e rs (i + 1)) (onL m r [q])) ∧
      ∀ x ∈ prs m r (oA m b e rs (i + 1)) (onL m r [q]), (x.1 = p ∨ p.1 < x.1.1 ∨ (p.1 = x.1.1 ∧ p.2 < x.1.2)) ∧ (x.1 = p → al x.2 = s ∧ x.2 ∈ oL m b (rs.take (i + 1)) ∧ liveF m e (rs.drop (i + 1)) (al x.2) = true) := by
  obtain ⟨b1, b3, _, _⟩ := (oL_ref m b _ (rs.take i) rfl).b q hq
  rw [drop_at h] at hl ⊢
  obtain ⟨p, l, f1, f2, f3, f4⟩ := tale_step hl
  have hin : ∀ x ∈ prs m r (oA m b e rs (i + 1)) (onL m r [q]), (x.1, al x.2) ∈ prt m (al q) r ∧ x.2 ∈ oL m b (rs.take (i + 1)) ∧ liveF m e (rs.drop (i + 1)) (al x.2) = true := fun x hx => by
    obtain ⟨x1, x2, x3, x4, x5, x6⟩ := mem_prs.mp hx
    obtain ⟨q0, hq0, ht⟩ := onL_mem.mp x1
    rw [List.mem_singleton.mp hq0] at ht
    obtain ⟨a, o, ha, ho, e1, e2, hp⟩ := own_prt b1 b3 ht
    have hst : o ∈ st3 := ((own_onw b1 b3).mp ⟨ha, ho⟩).2.1
    have e3 : x.2.1 = q.1 + a := by rw [e1]; rfl
    rw [e3] at x5
    have e4 := off_uniq e2 x5 hst x3
    refine ⟨?_, List.mem_filter.mp x6⟩
    rw [show x.1 = (q.1 + a, o) from Prod.ext (x2.trans e3) e4.symm]
    exact hp
  refine ⟨p.1, p.2, f2, ?_, fun x hx => ?_⟩
  · obtain ⟨a, o, ha, ho, e1, e2, ht⟩ := prt_own b1 b3 f4
    have hst : o ∈ st3 := ((own_onw b1 b3).mp ⟨ha, ho⟩).2.1
    refine ⟨nq q a o, mem_prs.mpr ⟨onL_mem.mpr ⟨q, List.mem_singleton.mpr rfl, ht⟩, by rw [e1]; rfl, by rw [e1]; exact hst, ?_, by rw [e1]; exact e2, List.mem_filter.mpr ⟨?_, ?_⟩⟩⟩
    · rw [e1]
      show o ≠ 0 ↔ (if o ≠ 0 then (1 : Int) else if q.2.2 + 1 < 3 then q.2.2 + 1 else 3) = 1
      by_cases z : o = 0
      · rw [if_neg (by simp [z])]
        split <;> omega
      · rw [if_pos z]
        exact ⟨fun _ => rfl, fun _ => z⟩
    · rw [oL_take h]
      exact onL_mem.mpr ⟨q, hq, ht⟩
    · rw [e1] at f3
      exact f3
  · obtain ⟨x1, x2, x3⟩ := hin x hx
    have hf : (x.1, al x.2) ∈ (prt m (al q) r).filter (fun q => liveF m e (rs.drop (i + 1)) q.2) := List.mem_filter.mpr ⟨x1, x3⟩
    have hp := (prt_sorted m (al q) r).filter (fun q => liveF m e (rs.drop (i + 1)) q.2)
    rw [f1] at hf hp
    refine ⟨?_, fun z => ⟨?_, x2, x3⟩⟩
    · rcases List.mem_cons.mp hf with z | z
      · exact .inl (by rw [← z])
      · exact .inr ((List.pairwise_cons.mp hp).1 _ z)
    · obtain ⟨a, _, o, _, h1, _, h3⟩ := mem_prt.mp x1
      obtain ⟨a', _, o', _, h1', _, h3'⟩ := mem_prt.mp f4
      have e1 := (onw_nx h1).1
      have e2 := (onw_nx h1').1
      show (x.1, al x.2).2 = p.2
      rw [e1, e2, ← show p.1 = ((al q).1 + a', o') from h3', ← z]
      have h3 : x.1 = ((al q).1 + a, o) := h3
      rw [h3]
theorem lt_pp (x y : PP) : PySem.W.dataLt (ppP x) (ppP y) = true ∨ x.1 = y.1 ∨ ¬ (x.1.1 < y.1.1 ∨ (x.1.1 = y.1.1 ∧ x.1.2 < y.1.2)) := by
  by_cases c : x.1 = y.1
  · exact .inr (.inl c)
  · by_cases d : x.1.1 < y.1.1 ∨ (x.1.1 = y.1.1 ∧ x.1.2 < y.1.2)
    · refine .inl ?_
      unfold ppP
      rw [PySem.W.dataLt_tuple, PySem.W.dataLt_cons (by simp [ptP, r3P, PySem.W.alike, PySem.W.alikeAll])]
      have e : PyData.eqv (ptP x.1) (ptP y.1) = false := by
        show ((x.1.1 == y.1.1) && ((x.1.2 == y.1.2) && true)) = _
        rw [Bool.and_true]
        by_cases h1 : x.1.1 = y.1.1 <;> by_cases h2 : x.1.2 = y.1.2 <;> simp [h1, h2]
        exact c (Prod.ext h1 h2)
      rw [e, if_neg (by decide)]
      show PySem.W.dataLt (.tuple [.int x.1.1, .int x.1.2]) (.tuple [.int y.1.1, .int y.1.2]) = true
      rw [PySem.W.dataLt_ii]
      exact decide_eq_true d
    · exact .inr (.inr d)
theorem any_r3 (q : Q3) : ∀ ks : List Q3, ((ks.map r3P).any fun z => PyData.eqv z (r3P q)) = decide (q ∈ ks)
  | [] => rfl
  | a :: l => by
    have e1 : PyData.eqv (r3P a) (r3P q) = decide (a = q) := eqv_r3 a q
    rw [List.map_cons, List.any_cons, any_r3 q l, e1]
    by_cases z : a = q
    · subst z; simp
    · simp [z, Ne.symm z]
theorem in_ls {S : DStore} (q : Q3) {ks : List Q3} {Q : Bool → Prop} (h : Q (decide (q ∈ ks))) : cmpD .In S (t3D q) (.lst (ks.map t3D)) Q := by
  show inD S (t3D q) (.lst (ks.map t3D)) Q
  unfold t3D
  refine .inr (.inr ⟨r3P q, ks.map r3P, rfl, ?_, ?_, ?_, ?_, ?_⟩)
  · show ((purs (ks.map r3D)).map PyData.list) = _
    rw [purs_r3]
    rfl
  · rfl
  · have := dep_r3 ks
    simp only [SeqAt.shaped, PyData.canLay0, PyData.depth, lay_r3, Bool.true_and]
    exact decide_eq_true (Nat.le_trans (Nat.succ_le_succ this) (by decide))
  · simp [r3P, PyData.depth, PyData.depthAll]
  · rw [any_r3]; exact h
theorem eq_pt {S : DStore} (a c : Int × Int) {Q : Bool → Prop} (h : Q (decide (a = c))) : cmpD .Eq S (ptD a) (ptD c) Q := by
  show eqD S (ptD a) (ptD c) Q
  refine ⟨ptP a, ptP c, rfl, rfl, rfl, rfl, ?_⟩
  have e : PyData.eqv (ptP a) (ptP c) = decide (a = c) := by
    obtain ⟨a, b⟩ := a
    obtain ⟨c, d⟩ := c
    show ((a == c) && ((b == d) && true)) = _
    rw [Bool.and_true]
    by_cases h1 : a = c <;> by_cases h2 : b = d <;> simp [h1, h2]
  rw [e]
  exact h
theorem ne_pt {S : DStore} (a c : Int × Int) {Q : Bool → Prop} (h : Q (!decide (a = c))) : cmpD .NotEq S (ptD a) (ptD c) Q := eq_pt (Q := fun b => Q (!b)) a c h
theorem at_m1 {α : Type} {l : List α} {x : α} (h : l[l.length - 1]? = some x) : atI l (-1) = some x := by
  have hl := (List.getElem?_eq_some_iff.mp h).1
  unfold atI ixN
  rw [if_neg (by omega), if_pos (by omega)]
  simp only [show (-1 + (l.length : Int)).toNat = l.length - 1 by omega, Option.bind_some]
  exact h
theorem gath_k {α : Type} {xs : List α} (mk : α → D) (keep : α → Bool) (f : α → D) {I : DStore → Prop} {S : DStore} {turn : D → DStore → (Option D → DStore → Prop) → Prop} {Q : List D → DStore → Prop} (P : DStore → Prop) (hl : xs.length ≤ sizeLine) (h0 : P S) (hI : ∀ S', P S' → I S')
    (hs : ∀ x ∈ xs, ∀ S', P S' → ∀ N : Option D → DStore → Prop, (∀ S2, P S2 → keep x = true → N (some (f x)) S2) → (∀ S2, P S2 → keep x = false → N none S2) → turn (mk x) S' N) (hQ : ∀ S', P S' → Q ((xs.filter keep).map f) S') : wpGather (xs.map mk) I S turn Q := by
  refine gather_inv (fun i acc S' => P S' ∧ acc = ((xs.take i).filter keep).map f) (by simpa using hl) ⟨h0, by simp⟩ (fun i acc S' h => ⟨hI _ h.1, by rw [h.2, List.length_map]; exact Nat.le_trans (List.length_filter_le _ _) (by simp; omega)⟩) (fun i x acc S' hx hp N h1 h2 => ?_) (fun acc S' hp => ?_)
  · obtain ⟨hp, rfl⟩ := hp
    rw [List.getElem?_map] at hx
    obtain ⟨y, hy, rfl⟩ := Option.map_eq_some_iff.mp hx
    refine hs y (List.mem_of_getElem? hy) S' hp N (fun S2 p2 k => h1 _ _ ⟨p2, ?_⟩) (fun S2 p2 k => h2 _ ⟨p2, ?_⟩)
    · rw [List.take_add_one, hy, List.filter_append, List.map_append]; simp [k]
    · rw [List.take_add_one, hy, List.filter_append, List.map_append]; simp [k]
  · obtain ⟨hp, rfl⟩ := hp
    rw [List.length_map, List.take_length]; exact hQ _ hp
/-- the layers of own states -/
noncomputable def LyAt (S : DStore) (a : Nat) (m b : Int) (rs : List R3) (i : Nat) : Prop := ∃ ls : List Nat, S[a]? = some (.lst (ls.map D.ref)) ∧ ls.length = i + 1 ∧ ∀ j k, ls[j]? = some k → dctOf S k = some (ownK (oL m b (rs.take j)))
theorem LyAt.kd {S S' : DStore} {a : Nat} {m b : Int} {rs : List R3} {i : Nat} (h : LyAt S a m b rs i) (k : Kd S S') : LyAt S' a m b rs i := by
  obtain ⟨ls, h1, h2, h3⟩ := h
  exact ⟨ls, k.lst h1, h2, fun j n e => k.dct (h3 j n e)⟩
theorem dct_set {S : DStore} {n k : Nat} {c : Cell} {xs : List D} {kvs : List (List L2.Key × D)} (hc : S[n]? = some (.lst xs)) (h : dctOf S k = some kvs) : dctOf (S.set n c) k = some kvs := by
  have hn : k ≠ n := fun z => by
    subst z
    unfold dctOf at h
    rw [hc] at h
    cases h
  unfold dctOf at h ⊢
  rw [List.getElem?_set_ne (Ne.symm hn)]
  exact h
theorem LyAt.set {S : DStore} {a n : Nat} {m b : Int} {rs : List R3} {i : Nat} {c : Cell} {xs : List D} (h : LyAt S a m b rs i) (hc : S[n]? = some (.lst xs)) (hn : n ≠ a) : LyAt (S.set n c) a m b rs i := by
  obtain ⟨ls, h1, h2, h3⟩ := h
  exact ⟨ls, by rw [List.getElem?_set_ne hn]; exact h1, h2, fun j k e => dct_set hc (h3 j k e)⟩
theorem Kd.setN {S S' : DStore} {n : Nat} {c : Cell} (h : Kd S S') (hn : S.length ≤ n) : Kd S (S'.set n c) := fun j d e => by
  have := (List.getElem?_eq_some_iff.mp e).1
  rw [List.getElem?_set_ne (by omega)]
  exact h j d e
theorem LyAt.at {S : DStore} {a : Nat} {m b : Int} {rs : List R3} {i j : Nat} (h : LyAt S a m b rs i) (hj : j ≤ i) : ∃ (ls : List Nat) (k : Nat), S[a]? = some (.lst (ls.map D.ref)) ∧ ls.length = i + 1 ∧ ls[j]? = some k ∧ dctOf S k = some (ownK (oL m b (rs.take j))) := by
  obtain ⟨ls, h1, h2, h3⟩ := h
  exact ⟨ls, ls[j]'(by omega), h1, h2, List.getElem?_eq_getElem _, h3 j _ (List.getElem?_eq_getElem _)⟩
theorem prQ_len (m : Int) (r : R3) (A : List Q3) (q : Q3) (os : List Int) : (prQ m r A q os).length ≤ os.length := by
  unfold prQ
  rw [List.length_map]
  exact List.length_filter_le _ _
theorem prs_len (m : Int) (r : R3) (A : List Q3) : ∀ qs : List Q3, (prs m r A qs).length ≤ 3 * qs.length
  | [] => by simp [prs]
  | q :: qs => by
    have h1 := prQ_len m r A q [-1, 0, 1]
    have h2 := prs_len m r A qs
    unfold prs at h2 ⊢
    rw [List.flatMap_cons, List.length_append, List.length_cons]
    simp only [List.length_cons, List.length_nil] at h1
    omega
noncomputable abbrev eL (m b : Int) (q : Nat) (tl : List (Int × Int)) (d4 d5 d6 d7 d8 d9 d10 d11 d12 d14 d16 : Option D) : DEnv := [some (.int m), some (.int b), some (.ref q), some (.tup (tl.map ptD)), d4, d5, d6, d7, d8, d9, d10, d11, d12, none, d14, none, d16, none]
noncomputable def lsE (js : Nat) : List CS := [.asg (.name 16) (.and_ (.cmp .Eq (.cmp .NotEq (.var 14) (.con (.int 0))) (.cmp .Eq (.ix (.var 12) (.con (.int 2))) (.con (.int 1)))) (.cmp .Eq (.call js [(.var 0), (.ix (.var 12) (.con (.int 0))), (.var 14)]) (.ix (.var 2) (.var 6)))),
    .extend (.var 11) (.bin .Mult false (.lst false [(.tup [(.tup [(.ix (.var 12) (.con (.int 0))), (.var 14)]), (.var 12)])]) (.bi .int1 false [(.and_ (.var 16) (.cmp .In (.var 12) (.ix (.var 7) (.bin .Add false (.var 6) (.con (.int 1))))))]))]
section
variable {G : Fns} {js q f c : Nat} {m b : Int} {r : R3} {i : Nat} {A : List Q3} {rs : List R3} {tl : List (Int × Int)} {S : DStore} {N : DEnv → DStore → Prop} {rt : QE} {bk ct : DEnv → DStore → Prop} {d4 d5 d8 d9 d10 d14 d16 : Option D} {ys : List D}
theorem lsE_ok (hs : G.fn js = spSg) (m1 : 8 ≤ m) (m2 : m ≤ 400) {u : Q3} {o : Int} {acc : List PP} (hq : S[q]? = some (.lst (rs.map r3D))) (hr : rs[i]? = some r) (hc : S[c]? = some (.lst ys)) (hy : ys[i + 1]? = some (.lst (A.map t3D))) (hf : S[f]? = some (.lst (acc.map ppD))) (hl : acc.length < 1000)
    (hN : ∀ d16 S', Ke [f] S S' → S'[f]? = some (.lst ((acc ++ prQ m r A u [o]).map ppD)) → N (eL m b q tl d4 d5 (some (.int i)) (some (.ref c)) d8 d9 d10 (some (.ref f)) (some (t3D u)) (some (.int o)) d16) S') :
    wpSs G (lsE js) (eL m b q tl d4 d5 (some (.int i)) (some (.ref c)) d8 d9 d10 (some (.ref f)) (some (t3D u)) (some (.int o)) d16) S ⟨N, rt, bk, ct⟩ := by
  unfold lsE eL t3D
  have hcons : prQ m r A u [o] = if okQ m r A u o = true then [((u.1, o), u)] else [] := by
    unfold prQ
    rw [List.filter_cons]
    split <;> rfl
  rw [hcons] at hN
  have hat : atI (rs.map r3D) (i : Int) = some (r3D r) := atI_nat' (by omega) (by rw [Int.toNat_natCast, List.getElem?_map, hr]; rfl)
  have hay : atI ys ((i : Int) + 1) = some (.lst (A.map t3D)) := atI_nat' (by omega) (by rw [show ((i : Int) + 1).toNat = i + 1 by omega]; exact hy)
  have hlen : (acc.map ppD).length + ([] : List D).length ≤ sizeLine := by rw [List.length_map]; exact Nat.le_trans (Nat.le_of_lt hl) (by decide)
  have nofit : okQ m r A u o = false → ∀ d16, N (eL m b q tl d4 d5 (some (.int i)) (some (.ref c)) d8 d9 d10 (some (.ref f)) (some (t3D u)) (some (.int o)) d16) (S.set f (.lst (acc.map ppD ++ []))) := fun h d16 => by
    rw [h] at hN
    refine hN d16 _ (ke_set (List.mem_singleton.mpr rfl)) ?_
    rw [set_get hf]
    simp
  simp_arith only [hs]
  refine if_i (fun c1 => ?_) fun c1 => ?_
  · refine ⟨m, u.1, o, rfl, m1, m2, _, by rw [hq]; rfl, _, hat, eq_r3 ?_⟩
    refine ⟨lat hf, ?_⟩
    by_cases c2 : rdT m u.1 o = r
    · rw [decide_eq_true c2, if_pos rfl]
      refine ⟨_, by rw [hc]; rfl, _, hay, in_ls u ?_⟩
      by_cases c3 : u ∈ A
      · have ok : okQ m r A u o = true := by
          unfold okQ
          rw [decide_eq_true c2, decide_eq_true c3, Bool.and_true, Bool.and_true]
          refine decide_eq_true ?_
          rw [← c1]
          by_cases z : o = 0 <;> simp [z]
        rw [ok] at hN
        rw [decide_eq_true c3]
        refine ⟨by decide, by decide, by decide, _, _, hf, rfl, by rw [List.length_map]; exact Nat.le_trans (Nat.add_le_add_right (Nat.le_of_lt hl) _) (show 1000 + 1 ≤ sizeLine by decide), ?_⟩
        refine hN _ _ (ke_set (List.mem_singleton.mpr rfl)) ?_
        rw [set_get hf, List.map_append]
        rfl
      · have ok : okQ m r A u o = false := by
          unfold okQ
          rw [decide_eq_false c3, Bool.and_false]
        rw [decide_eq_false c3]
        exact ⟨by decide, by decide, by decide, _, [], hf, rfl, hlen, nofit ok _⟩
    · have ok : okQ m r A u o = false := by
        unfold okQ
        rw [decide_eq_false c2, Bool.and_false, Bool.false_and]
      rw [decide_eq_false c2]
      exact ⟨by decide, by decide, by decide, _, [], hf, rfl, hlen, nofit ok _⟩
  · have ok : okQ m r A u o = false := by
      unfold okQ
      rw [decide_eq_false (p := decide (o ≠ 0) = decide (u.2.2 = 1)), Bool.false_and, Bool.false_and]
      intro z
      refine c1 ?_
      rw [← z]
      by_cases z : o = 0 <;> simp [z]
    exact ⟨lat hf, by decide, by decide, by decide, _, [], hf, rfl, hlen, nofit ok _⟩
theorem lsQ_walk (hs : G.fn js = spSg) (m1 : 8 ≤ m) (m2 : m ≤ 400) {u : Q3} {acc : List PP} (hq : S[q]? = some (.lst (rs.map r3D))) (hr : rs[i]? = some r) (hc : S[c]? = some (.lst ys)) (hy : ys[i + 1]? = some (.lst (A.map t3D))) (hf : S[f]? = some (.lst (acc.map ppD))) (hl : acc.length < 990) (nq : q ≠ f) (nc : c ≠ f)
    (hN : ∀ d14 d16 S', Ke [f] S S' → S'[f]? = some (.lst ((acc ++ prQ m r A u [-1, 0, 1]).map ppD)) → N (eL m b q tl d4 d5 (some (.int i)) (some (.ref c)) d8 d9 d10 (some (.ref f)) (some (t3D u)) d14 d16) S') :
    wpWalk ([-1, 0, 1].map D.int) (fun _ => True) (eL m b q tl d4 d5 (some (.int i)) (some (.ref c)) d8 d9 d10 (some (.ref f)) (some (t3D u)) d14 d16) S (DL.forTurn G (.name 14) (lsE js) rt N) N := by
  refine walk_list (fun k ρ S' => ∃ d14 d16, ρ = eL m b q tl d4 d5 (some (.int i)) (some (.ref c)) d8 d9 d10 (some (.ref f)) (some (t3D u)) d14 d16 ∧ Ke [f] S S' ∧ S'[f]? = some (.lst ((acc ++ prQ m r A u (([-1, 0, 1] : List Int).take k)).map ppD)) ∧ k ≤ 3)
    ⟨_, _, rfl, .refl, by simpa [prQ] using hf, by omega⟩ (fun _ _ _ _ => trivial) (fun k x ρ S' hx hp => ?_) (fun ρ S' hp => ?_)
  · obtain ⟨d14, d16, rfl, hk, hcf, hk3⟩ := hp
    obtain ⟨o, ho, rfl⟩ := map_at hx
    have hkl := (List.getElem?_eq_some_iff.mp ho).1
    have hpl := prQ_len m r A u (([-1, 0, 1] : List Int).take k)
    rw [List.length_take] at hpl
    simp only [List.length_cons, List.length_nil] at hkl
    unfold DL.forTurn
    rw [g_name]
    refine lsE_ok (u := u) (o := o) hs m1 m2 (hk _ _ (by simpa using nq) hq) hr (hk _ _ (by simpa using nc) hc) hy hcf (by rw [List.length_append]; omega) fun d16' S2 k2 c2 => ?_
    refine ⟨_, _, rfl, hk.trans k2, ?_, by omega⟩
    have e : prQ m r A u (([-1, 0, 1] : List Int).take k ++ [o]) = prQ m r A u (([-1, 0, 1] : List Int).take k) ++ prQ m r A u [o] := by unfold prQ; rw [List.filter_append, List.map_append]
    rw [c2, List.take_add_one, ho, show (some o).toList = [o] from rfl, e, List.append_assoc]
  · obtain ⟨d14, d16, rfl, hk, hcf, _⟩ := hp
    exact hN _ _ S' hk hcf
theorem lsT_walk (hs : G.fn js = spSg) (m1 : 8 ≤ m) (m2 : m ≤ 400) {qs : List Q3} {d12 : Option D} (hq : S[q]? = some (.lst (rs.map r3D))) (hr : rs[i]? = some r) (hc : S[c]? = some (.lst ys)) (hy : ys[i + 1]? = some (.lst (A.map t3D))) (hf : S[f]? = some (.lst [])) (hl : qs.length ≤ 100) (nq : q ≠ f) (nc : c ≠ f)
    (hN : ∀ d12 d14 d16 S', Ke [f] S S' → S'[f]? = some (.lst ((prs m r A qs).map ppD)) → N (eL m b q tl d4 d5 (some (.int i)) (some (.ref c)) d8 d9 d10 (some (.ref f)) d12 d14 d16) S') :
    wpWalk (qs.map t3D) (fun _ => True) (eL m b q tl d4 d5 (some (.int i)) (some (.ref c)) d8 d9 d10 (some (.ref f)) d12 d14 d16) S (DL.forTurn G (.name 12) [.for_ (.name 14) (.seq (.tup [(.neg (.con (.int 1))), (.con (.int 0)), (.con (.int 1))])) (lsE js)] rt N) N := by
  refine walk_list (fun k ρ S' => ∃ d12 d14 d16, ρ = eL m b q tl d4 d5 (some (.int i)) (some (.ref c)) d8 d9 d10 (some (.ref f)) d12 d14 d16 ∧ Ke [f] S S' ∧ S'[f]? = some (.lst ((prs m r A (qs.take k)).map ppD)))
    ⟨_, _, _, rfl, .refl, by simpa [prs] using hf⟩ (fun _ _ _ _ => trivial) (fun k x ρ S' hx hp => ?_) (fun ρ S' hp => ?_)
  · obtain ⟨d12, d14, d16, rfl, hk, hcf⟩ := hp
    obtain ⟨u, hu, rfl⟩ := map_at hx
    have hkl := (List.getElem?_eq_some_iff.mp hu).1
    have hpl := prs_len m r A (qs.take k)
    rw [List.length_take] at hpl
    unfold DL.forTurn eL
    simp_arith only []
    refine lsQ_walk (u := u) hs m1 m2 (hk _ _ (by simpa using nq) hq) hr (hk _ _ (by simpa using nc) hc) hy hcf (by omega) nq nc fun d14' d16' S2 k2 c2 => ?_
    refine ⟨_, _, _, rfl, hk.trans k2, ?_⟩
    rw [c2, List.take_add_one, hu]
    unfold prs
    rw [List.flatMap_append]
    simp
  · obtain ⟨d12, d14, d16, rfl, hk, hcf⟩ := hp
    rw [List.length_map, List.take_length] at hcf
    exact hN _ _ _ S' hk hcf
end
theorem g_two {G : Fns} {i j : Nat} {x y : D} {r : Option D} {ρ : DEnv} {S : DStore} {Q : DEnv → DStore → Prop} (h : Q (((r :: ρ).set i (some x)).set j (some y)) S) : wpG G (.tup [.name i, .name j]) (.tup [x, y]) (r :: ρ) S Q := by
  simp only [wpG, wpGs, unpD]
  exact ⟨rfl, _, _, rfl, _, _, rfl, h⟩
theorem body21 : ∀ ds S Q, G.fn 21 ds S Q → wpSs G c21 (startD n21.length ds) S { nx := fun _ S' => Q .non S', rt := Q } := by
  rintro ds S Q ⟨m, b, q, rs, e, rfl, m1, m2, hq, hr1, hr3, hfit, hQ⟩
  have hlive := live_first hfit
  have hlast := tl_last rs _ (fun z => by rw [z] at hr1; simp at hr1) hlive
  have htl : (taleF m e rs (b, false, 2)).length = rs.length := tlOk_len _ _ _ (tlOk_tale rs _ hlive)
  generalize htd : taleF m e rs (b, false, 2) = tl at hlast htl hQ
  show wpSs _ _ (eL m b q tl none none none none none none none none none none none) _ _
  have ltq := (List.getElem?_eq_some_iff.mp hq).1
  unfold c21 eL
  refine ss_split 1 (fun ρ' S' => ρ' = eL m b q tl none none none (some (.ref (S.length + 2))) none (some (.ref (S.length + 1))) none none none none none ∧ Kd S S' ∧ S'[S.length + 2]? = some (.lst []) ∧ LyAt S' (S.length + 1) m b rs 0) (fun N hN => ?_) ?_
  · simp_arith only [e_dnew1]
    refine ⟨_, rfl, by simp, hN _ _ ⟨?_, ?_, ?_, ?_⟩⟩
    · simp [eL]
    · exact (kd_app.setN (Nat.le_refl _)).trans (kd_app.trans kd_app)
    · simp
    · refine ⟨[S.length], by simp, rfl, fun j k hj => ?_⟩
      have hj0 : j = 0 := by
        have := (List.getElem?_eq_some_iff.mp hj).1
        simpa using this
      subst hj0
      cases hj
      refine dct_at ?_
      simp
      rfl
  rintro ρ' S1 ⟨rfl, K1, hc1, L1⟩
  unfold eL
  refine ss_split 1 (fun ρ' S' => ∃ d4, ρ' = eL m b q tl d4 none none (some (.ref (S.length + 2))) none (some (.ref (S.length + 1))) none none none none none ∧ Kd S S' ∧ S'[S.length + 2]? = some (.lst []) ∧ LyAt S' (S.length + 1) m b rs rs.length) (fun N hN => ?_) ?_
  · simp_arith only []
    refine ⟨_, K1.lst hq, ?_⟩
    refine walk_list (fun i ρ S' => i ≤ rs.length ∧ ∃ d4, ρ = eL m b q tl d4 none none (some (.ref (S.length + 2))) none (some (.ref (S.length + 1))) none none none none none ∧ Kd S S' ∧ S'[S.length + 2]? = some (.lst []) ∧ LyAt S' (S.length + 1) m b rs i)
      ⟨by omega, _, rfl, K1, hc1, L1⟩ (fun i ρ S' h => h.2.choose_spec.2.1.lst hq) (fun i x ρ S' hx hp => ?_) (fun ρ S' hp => ?_)
    · obtain ⟨hi, d4, rfl, K, hc, L⟩ := hp
      obtain ⟨r, hr, rfl⟩ := map_at hx
      have hil := (List.getElem?_eq_some_iff.mp hr).1
      obtain ⟨ls, k, l1, l2, l3, l4⟩ := L.at (Nat.le_refl i)
      have lta := (List.getElem?_eq_some_iff.mp l1).1
      unfold DL.forTurn eL
      simp_arith only [G12]
      refine ⟨lat l1, _, by rw [l1]; rfl, .ref k, at_m1 (by rw [List.length_map, l2, Nat.add_sub_cancel, List.getElem?_map, l3]; rfl), ?_⟩
      refine ⟨m, .ref k, oL m b (rs.take i), r, rfl, m1, m2, Nat.le_trans (oL_len m b _) (by decide), .inr ⟨k, rfl, l4⟩, fun S2 K2 _ hd => ⟨_, K2.lst l1, by rw [List.length_map]; exact Nat.lt_of_le_of_lt (show ls.length ≤ 301 by omega) (by decide), ?_⟩⟩
      refine ⟨by omega, _, rfl, (K.trans K2).setN (by omega), ?_, ls ++ [S'.length], ?_, by simp [l2], fun j n hj => ?_⟩
      · rw [List.getElem?_set_ne (by omega)]
        exact K2.lst hc
      · rw [set_get (K2.lst l1), List.map_append]
        rfl
      · refine dct_set (K2.lst l1) ?_
        rcases Nat.lt_or_ge j ls.length with z | z
        · rw [List.getElem?_append_left z] at hj
          obtain ⟨ls', e1, e2, e3⟩ := L
          have : ls' = ls := by
            rw [l1] at e1
            have := Cell.lst.inj (Option.some.inj e1)
            exact (List.map_inj_right (fun a b h => D.ref.inj h)).mp this.symm
          subst this
          exact K2.dct (e3 j n hj)
        · rw [List.getElem?_append_right z] at hj
          have hj0 : j - ls.length = 0 := by
            have := (List.getElem?_eq_some_iff.mp hj).1
            simpa using this
          rw [hj0] at hj
          cases hj
          rw [show j = i + 1 by omega, oL_take hr]
          exact dct_at hd
    · obtain ⟨_, d4, rfl, K, hc, L⟩ := hp
      rw [List.length_map] at L
      exact hN _ _ ⟨_, rfl, K, hc, L⟩
  rintro ρ' S2 ⟨d4, rfl, K2, hc2, L2⟩
  unfold eL
  refine ss_split 2 (fun ρ' S' => ρ' = eL m b q tl d4 (some (.lst ((oA m b e rs rs.length).map t3D))) none (some (.ref (S.length + 2))) none (some (.ref (S.length + 1))) none none none none none ∧ Kd S S' ∧ S'[S.length + 2]? = some (.lst [.lst ((oA m b e rs rs.length).map t3D)]) ∧ LyAt S' (S.length + 1) m b rs rs.length) (fun N hN => ?_) ?_
  · simp_arith only []
    obtain ⟨ls, k, l1, l2, l3, l4⟩ := L2.at (Nat.le_refl _)
    refine ⟨_, by rw [l1]; rfl, .ref k, at_m1 (by rw [List.length_map, l2, Nat.add_sub_cancel, List.getElem?_map, l3]; rfl), k, _, rfl, keysF_g l4 fun S3 K3 _ _ => ?_⟩
    refine gath_f t3D (fun s => decide (s.1 = e)) t3D (Nat.le_trans (oL_len m b _) (by decide)) trivial (fun s _ N2 h6 h7 => ?_) ?_
    · unfold DL.lcTurn t3D
      obtain ⟨t, p, rfl, hp⟩ := hlast
      simp_arith only []
      refine ⟨ptD p, at_m1 (by simp), ?_⟩
      unfold ptD
      simp_arith only []
      rw [hp]
      exact h67 _ h6 h7
    · have eA : (oL m b (rs.take rs.length)).filter (fun s => decide (s.1 = e)) = oA m b e rs rs.length := by
        unfold oA
        refine List.filter_congr fun s _ => ?_
        rw [List.drop_length]
        show decide (s.1 = e) = (s.1 == e)
        by_cases z : s.1 = e <;> simp [z]
      rw [eA]
      have c3 := K3.lst hc2
      refine ⟨lat c3, _, c3, by show (0 : Nat) < _; decide, ?_⟩
      have lta := (List.getElem?_eq_some_iff.mp c3).1
      refine hN _ _ ⟨rfl, (K2.trans K3).setN (by omega), set_get c3, (L2.kd K3).set c3 (by omega)⟩
  rintro ρ' S3 ⟨rfl, K3, hc3, L3⟩
  unfold eL
  refine ss_split 1 (fun ρ' S' => ∃ d5 d6, ρ' = eL m b q tl d4 d5 d6 (some (.ref (S.length + 2))) none (some (.ref (S.length + 1))) none none none none none ∧ Kd S S' ∧ ∃ xs, S'[S.length + 2]? = some (.lst xs) ∧ xs.length = rs.length + 1 ∧ ∀ k, k ≤ rs.length → xs[k]? = some (D.lst ((oA m b e rs (rs.length - k)).map t3D))) (fun N hN => ?_) ?_
  · simp_arith only []
    refine ⟨_, by rw [K3.lst hq]; rfl, ?_⟩
    rw [List.length_map]
    have hrc := RgC.neg (i := (rs.length : Int) - 1) (j := -1) (by omega) (by omega) (by omega) (by omega)
    rw [show ((rs.length : Int) - 1 - -1).toNat = rs.length by omega] at hrc
    refine ⟨_, _, _, rs.length, rfl, rfl, rfl, hrc, ?_⟩
    refine walk_list (fun j ρ S' => j ≤ rs.length ∧ ∃ d6, ρ = eL m b q tl d4 (some (.lst ((oA m b e rs (rs.length - j)).map t3D))) d6 (some (.ref (S.length + 2))) none (some (.ref (S.length + 1))) none none none none none ∧ Kd S S' ∧ LyAt S' (S.length + 1) m b rs rs.length ∧ ∃ xs, S'[S.length + 2]? = some (.lst xs) ∧ xs.length = j + 1 ∧ ∀ k, k ≤ j → xs[k]? = some (D.lst ((oA m b e rs (rs.length - k)).map t3D)))
      ⟨by omega, _, rfl, K3, L3, _, hc3, rfl, fun k hk => ?_⟩ (fun _ _ _ _ => trivial) (fun j x ρ S' hx hp => ?_) (fun ρ S' hp => ?_)
    · rw [show k = 0 by omega]
      rfl
    · obtain ⟨hj0, d6, rfl, K, L, xs, hc, xl, xk⟩ := hp
      have hj : j < rs.length := by
        have := (List.getElem?_eq_some_iff.mp hx).1
        simpa [range3D] using this
      unfold range3D at hx
      rw [List.getElem?_map, List.getElem?_range hj] at hx
      cases hx
      dsimp only
      rw [show (rs.length : Int) - 1 + (j : Int) * -1 = ((rs.length - 1 - j : Nat) : Int) by omega]
      obtain ⟨i, hi⟩ : ∃ t, t = rs.length - 1 - j := ⟨_, rfl⟩
      rw [← hi, show rs.length - j = i + 1 by omega]
      have hil : i < rs.length := by omega
      have hr := List.getElem?_eq_getElem hil
      generalize rs[i] = r at hr
      obtain ⟨ls, k, l1, l2, l3, l4⟩ := L.at (j := i) (by omega)
      unfold DL.forTurn eL
      simp_arith only [G12]
      refine ⟨_, by rw [l1]; rfl, .ref k, atI_nat' (by omega) (by rw [Int.toNat_natCast, List.getElem?_map, l3]; rfl), k, _, rfl, keysF_g l4 fun S5 K5 _ _ => ?_⟩
      refine gath_k t3D (fun qq => liveF m e (rs.drop i) (al qq)) t3D (Kd S5) (Nat.le_trans (oL_len m b _) (by decide)) .refl (fun _ _ => trivial) (fun qq hqq S6 K6 N2 h6 h7 => ?_) (fun S6 K6 => ?_)
      · unfold DL.lcTurn
        simp_arith only [G12]
        have hq6 := (K.trans (K5.trans K6)).lst hq
        refine ⟨_, by rw [hq6]; rfl, r3D r, atI_nat' (by omega) (by rw [Int.toNat_natCast, List.getElem?_map, hr]; rfl), ?_⟩
        refine ⟨m, _, [qq], r, rfl, m1, m2, by show (1 : Nat) ≤ 200; decide, .inl rfl, fun S7 K7 _ hd => ?_⟩
        refine ⟨_, _, rfl, keysF_g (dct_at hd) fun S8 K8 _ _ => ?_⟩
        refine gather_map t3D (fun q' => D.bl (decide (q' ∈ oA m b e rs (i + 1)))) (Nat.le_trans (onL_len (m := m) (r := r) [qq]) (show 9 * 1 ≤ sizeLine by decide)) trivial (fun q' _ N3 hN3 => ?_) ?_
        · unfold DL.lcTurn
          simp_arith only []
          exact in_ls q' hN3
        · rw [show (onL m r [qq]).map (fun q' => D.bl (decide (q' ∈ oA m b e rs (i + 1)))) = ((onL m r [qq]).map fun q' => decide (q' ∈ oA m b e rs (i + 1))).map D.bl by rw [List.map_map]; rfl, f_anyB]
          have e3 : (((onL m r [qq]).map fun q' => decide (q' ∈ oA m b e rs (i + 1))).any id) = liveF m e (rs.drop i) (al qq) := by
            rw [List.any_map]
            exact oA_live hr hqq
          rw [e3, t_bl]
          have K8' := K6.trans (K7.trans K8)
          cases hl : liveF m e (rs.drop i) (al qq) with
          | true => rw [if_pos rfl]; exact h6 _ K8' hl
          | false => rw [if_neg (by decide)]; exact h7 _ K8' hl
      · rw [show (oL m b (rs.take i)).filter (fun qq => liveF m e (rs.drop i) (al qq)) = oA m b e rs i from rfl]
        have K6' := K5.trans K6
        have c6 := K6'.lst hc
        refine ⟨lat c6, _, c6, Nat.lt_of_le_of_lt (show xs.length ≤ 301 by omega) (by decide), ?_⟩
        refine ⟨by omega, _, by rw [show rs.length - (j + 1) = i by omega], (K.trans K6').setN (by omega), (L.kd K6').set c6 (by omega), _, set_get c6, by simp [xl], fun k hk => ?_⟩
        rcases Nat.lt_or_ge k xs.length with z | z
        · rw [List.getElem?_append_left z]
          exact xk k (by omega)
        · rw [List.getElem?_append_right z, show k - xs.length = 0 by omega, show rs.length - k = i by omega]
          rfl
    · obtain ⟨_, d6, rfl, K, L, xs, hc, xl, xk⟩ := hp
      have el : (range3D ((rs.length : Int) - 1) (-1) rs.length).length = rs.length := by simp [range3D]
      rw [el] at xl xk
      exact hN _ _ ⟨_, _, rfl, K, xs, hc, xl, xk⟩
  rintro ρ' S4 ⟨d5, d6, rfl, K4, xs, hc4, xl, xk⟩
  unfold eL
  refine ss_split 2 (fun ρ' S' => ∃ (c : Nat) (ys : List D), ρ' = eL m b q tl d4 d5 d6 (some (.ref c)) (some (t3D (b, 0, 3))) (some (.ref (S.length + 1))) none none none none none ∧ Kd S S' ∧ S.length ≤ c ∧ c < S'.length ∧ S'[c]? = some (.lst ys) ∧ ∀ k, k ≤ rs.length → ys[k]? = some (D.lst ((oA m b e rs k).map t3D))) (fun N hN => ?_) ?_
  · simp_arith only []
    refine ⟨xs, by simp only [lstOf, hc4], hN _ _ ⟨S4.length, xs.reverse, rfl, K4.trans kd_app, K4.len, by simp, by simp, fun k hk => ?_⟩⟩
    rw [List.getElem?_reverse (by omega), xl, show rs.length + 1 - 1 - k = rs.length - k by omega, xk _ (by omega), show rs.length - (rs.length - k) = k by omega]
  rintro ρ' S5 ⟨c, ys, rfl, K5, hcl, hcl2, hc5, hys⟩
  unfold eL
  simp_arith only []
  refine walk_list (fun i ρ S' => ∃ (h : Q3) (d6 d10 d11 d12 d14 d16 : Option D), ρ = eL m b q tl d4 d5 d6 (some (.ref c)) (some (t3D h)) (some (.ref (S.length + 1))) d10 d11 d12 d14 d16 ∧ Kd S S' ∧ S'[c]? = some (.lst ys) ∧ h ∈ oL m b (rs.take i) ∧ liveF m e (rs.drop i) (al h) = true ∧ tl.drop i = taleF m e (rs.drop i) (al h))
    ⟨(b, 0, 3), d6, _, _, _, _, _, rfl, K5, hc5, by simp [oL], hlive, htd.symm⟩ (fun _ _ _ _ => trivial) (fun i x ρ S' hx hp => ?_) (fun ρ S' hp => ?_)
  · obtain ⟨h, d6, d10, d11, d12, d14, d16, rfl, K, hc, hm, hl, ht⟩ := hp
    unfold enumD at hx
    rw [List.getElem?_map] at hx
    obtain ⟨p0, hp0, rfl⟩ := Option.map_eq_some_iff.mp hx
    rw [List.getElem?_zipIdx, List.getElem?_map] at hp0
    obtain ⟨p1, hp1, rfl⟩ := Option.map_eq_some_iff.mp hp0
    obtain ⟨pt, hpt, rfl⟩ := Option.map_eq_some_iff.mp hp1
    have hil : i < rs.length := by rw [← htl]; exact (List.getElem?_eq_some_iff.mp hpt).1
    have hr := List.getElem?_eq_getElem hil
    generalize rs[i] = r at hr
    obtain ⟨p, s, t1, ⟨q', t2⟩, t3⟩ := tick_ok hr hm hl
    have hd : tl.drop i = pt :: tl.drop (i + 1) := by
      obtain ⟨h1, h2⟩ := List.getElem?_eq_some_iff.mp hpt
      rw [← h2]
      exact List.drop_eq_getElem_cons h1
    rw [hd, t1] at ht
    obtain ⟨rfl, ht2⟩ := List.cons.inj ht
    unfold DL.forTurn eL
    simp only [Nat.zero_add]
    refine g_two ?_
    have K' := K.lst hq
    refine ss_split 2 (fun ρ' S2 => ∃ (f : Nat) (d12 d14 d16 : Option D), ρ' = eL m b q tl d4 d5 (some (.int i)) (some (.ref c)) (some (t3D h)) (some (.ref (S.length + 1))) (some (ptD pt)) (some (.ref f)) d12 d14 d16 ∧ Kd S S2 ∧ S2[c]? = some (.lst ys) ∧ S2[f]? = some (.lst ((prs m r (oA m b e rs (i + 1)) (onL m r [h])).map ppD))) (fun N hN => ?_) ?_
    · simp_arith only [G12]
      have hq6 : (S' ++ [Cell.lst []])[q]? = some (.lst (rs.map r3D)) := app_get K'
      refine ⟨_, by rw [hq6]; rfl, r3D r, atI_nat' (by omega) (by rw [Int.toNat_natCast, List.getElem?_map, hr]; rfl), ?_⟩
      refine ⟨m, _, [h], r, rfl, m1, m2, by show (1 : Nat) ≤ 200; decide, .inl rfl, fun S7 K7 _ hd => ?_⟩
      refine ⟨_, _, rfl, keysF_w (dct_at hd) fun S8 K8 _ _ => ?_⟩
      have K78 := K7.trans K8
      have hf8 : S8[S'.length]? = some (.lst []) := K78.lst (by simp)
      have ltc := (List.getElem?_eq_some_iff.mp hc).1
      have ltq' := (List.getElem?_eq_some_iff.mp K').1
      have K8' := kd_app.trans K78
      refine lsT_walk (A := oA m b e rs (i + 1)) G4 m1 m2 (K78.lst hq6) hr (K8'.lst hc) (hys (i + 1) (by omega)) hf8 (Nat.le_trans (onL_len (m := m) (r := r) [h]) (show 9 * 1 ≤ 100 by decide)) (by omega) (by omega) fun d12 d14 d16 S9 k9 c9 => ?_
      refine hN _ _ ⟨_, _, _, _, rfl, ?_, k9 _ _ (by simp; omega) (K8'.lst hc), c9⟩
      intro j cc ej
      have ltj := (List.getElem?_eq_some_iff.mp ej).1
      have hjl := K.len
      rcases (K.trans K8') j cc ej with z | ⟨kvs, z1, z2⟩
      · exact .inl (k9 _ _ (by simp; omega) z)
      · exact .inr ⟨kvs, z1, k9 _ _ (by simp; omega) z2⟩
    rintro ρ' S2 ⟨f, d12, d14, d16, rfl, K2', hc2', hf⟩
    unfold eL
    have hpl : (prs m r (oA m b e rs (i + 1)) (onL m r [h])).length ≤ 100 := by
      have h1 := prs_len m r (oA m b e rs (i + 1)) (onL m r [h])
      have h2 : (onL m r [h]).length ≤ 9 * 1 := onL_len (m := m) (r := r) [h]
      omega
    generalize prs m r (oA m b e rs (i + 1)) (onL m r [h]) = ps at hf t2 t3 hpl
    simp_arith only []
    refine ⟨ps.map fun x => (ppD x, ppP x), ?_, ?_, ?_, ?_, ?_⟩
    · rw [List.map_map]
      simp only [lstOf, hf]
      rfl
    · intro z
      rw [List.map_eq_nil_iff] at z
      rw [z] at t2
      cases t2
    · intro x hx
      obtain ⟨y, _, rfl⟩ := List.mem_map.mp hx
      exact ⟨rfl, by simp [ppP, ptP, r3P, PyData.depth, PyData.depthAll]⟩
    · rw [List.map_map]
      refine ⟨fun x hx y hy => ?_, fun x hx => ?_⟩
      · obtain ⟨t, _, rfl⟩ := List.mem_map.mp hx
        obtain ⟨u, _, rfl⟩ := List.mem_map.mp hy
        simp [ppP, ptP, r3P, PySem.W.alike, PySem.W.alikeAll]
      · obtain ⟨t, _, rfl⟩ := List.mem_map.mp hx
        exact fun z => nomatch z
    · intro x hx hmin
      obtain ⟨y, hy, rfl⟩ := List.mem_map.mp hx
      have hyp : y.1 = pt := by
        rcases (t3 y hy).1 with z | z
        · exact z
        · have h1 := hmin (ppD (pt, q'), ppP (pt, q')) (List.mem_map.mpr ⟨_, t2, rfl⟩)
          rcases lt_pp (pt, q') y with w | w | w
          · simp only at h1
            rw [h1] at w
            cases w
          · exact w.symm
          · exact absurd z w
      unfold ppD
      simp_arith only []
      refine ne_pt _ _ ?_
      rw [decide_eq_true hyp]
      simp only [Bool.not_true, Bool.false_eq_true, if_false]
      refine ⟨_, hf, gath_f ppD (fun x => decide (x.1 = pt)) (fun x => t3D x.2) (Nat.le_trans hpl (by decide)) hf (fun u _ N2 h6 h7 => ?_) ?_⟩
      · unfold DL.lcTurn ppD
        simp_arith only []
        refine ⟨trivial, eq_pt _ _ ?_⟩
        by_cases z : u.1 = pt
        · rw [decide_eq_true z, if_pos rfl]
          exact h6 (decide_eq_true z)
        · rw [decide_eq_false z, if_neg (by decide)]
          exact h7 (decide_eq_false z)
      · have hin : (pt, q') ∈ ps.filter fun x => decide (x.1 = pt) := List.mem_filter.mpr ⟨t2, by simp⟩
        cases ef : ps.filter fun x => decide (x.1 = pt) with
        | nil => rw [ef] at hin; cases hin
        | cons v l =>
          have hv : v ∈ ps.filter fun x => decide (x.1 = pt) := by rw [ef]; exact List.mem_cons_self ..
          obtain ⟨v1, v2⟩ := List.mem_filter.mp hv
          obtain ⟨w1, w2, w3⟩ := (t3 v v1).2 (of_decide_eq_true v2)
          exact ⟨t3D v.2, by rw [List.map_cons, a_0], v.2, _, _, _, _, _, _, rfl, K2', hc2', w2, w3, by rw [w1]; exact ht2⟩
  · obtain ⟨h, d6, d10, d11, d12, d14, d16, rfl, K, hc, hm, hl, ht⟩ := hp
    simp_arith only []
    exact hQ _ K
theorem tlOk_bd {m : Int} : ∀ (rs : List R3) (t : Tl) (s : K3), tlOk m rs t s = true → ∀ p ∈ t, s.1 - rs.length ≤ p.1 ∧ p.1 ≤ s.1 + rs.length ∧ -1 ≤ p.2 ∧ p.2 ≤ 1
  | _, [], _, _, p, hp => nomatch hp
  | [], q :: t, s, h, p, hp => by
    have := tlOk_len _ _ _ h
    simp at this
  | r :: rs, q :: t, s, h, p, hp => by
    obtain ⟨h1, _, h3⟩ := tlOk_inv h
    obtain ⟨_, h5, h6, _⟩ := onw_nx h1
    simp only [st3, List.mem_cons, List.not_mem_nil, or_false] at h5 h6
    rcases List.mem_cons.mp hp with rfl | hp
    · simp only [List.length_cons]
      omega
    · have := tlOk_bd rs t (nx s q) h3 p hp
      have e : (nx s q).1 = q.1 := rfl
      rw [e] at this
      simp only [List.length_cons]
      omega
theorem okP_tl : ∀ t : Tl, (∀ p ∈ t, p.1.natAbs < 10 ^ 12 ∧ p.2.natAbs < 10 ^ 12) → okPs (t.map ptP) = true ∧ szPs (t.map ptP) = 46 * t.length
  | [], _ => ⟨rfl, rfl⟩
  | p :: t, h => by
    obtain ⟨h1, h2⟩ := okP_tl t fun y hy => h y (List.mem_cons_of_mem _ hy)
    have hp := h p (List.mem_cons_self ..)
    have e1 : okP (.int p.1) = true := decide_eq_true hp.1
    have e2 : okP (.int p.2) = true := decide_eq_true hp.2
    refine ⟨?_, ?_⟩
    · simp only [List.map_cons, ptP, okPs, okP, h1, Bool.and_true]
      simp only [okP] at e1 e2
      rw [e1, e2]; rfl
    · have : szP (ptP p) = 44 := rfl
      simp only [List.map_cons, szPs, this, h2, List.length_cons]; omega
theorem rep_tl {S : DStore} {mm : Bool} {t : Tl} {Q : QE} (hl : t.length ≤ 1000) (h : ∀ p ∈ t, p.1.natAbs < 10 ^ 12 ∧ p.2.natAbs < 10 ^ 12) (q : Q (.str (PyData.tuple (t.map ptP)).shown) S) : biD .repr1 mm [.tup (t.map ptD)] S Q := by
  obtain ⟨h1, h2⟩ := okP_tl t h
  refine ⟨.tuple (t.map ptP), pur_pt t, rep_ok2 h1 ?_ ?_, q⟩
  · simp only [szP]; omega
  · have := dep_pt t
    simp only [PyData.depth]; omega
theorem okP_is : ∀ xs : List Int, (∀ x ∈ xs, x.natAbs < 10 ^ 12) → okPs (xs.map .int) = true ∧ szPs (xs.map .int) = 18 * xs.length
  | [], _ => ⟨rfl, rfl⟩
  | x :: xs, h => by
    obtain ⟨h1, h2⟩ := okP_is xs fun y hy => h y (List.mem_cons_of_mem _ hy)
    have hx := h x (by simp)
    have e : okP (.int x) = true := decide_eq_true hx
    refine ⟨?_, ?_⟩
    · simp only [List.map_cons, okPs, e, h1]; rfl
    · simp only [List.map_cons, szPs, szP, h2, List.length_cons]; omega
theorem rep_is {S : DStore} {m : Bool} {xs : List Int} {Q : QE} (hl : xs.length ≤ 1000) (h : ∀ x ∈ xs, x.natAbs < 10 ^ 12) (q : Q (.str (PyData.tuple (xs.map .int)).shown) S) : biD .repr1 m [.tup (xs.map D.int)] S Q := by
  obtain ⟨h1, h2⟩ := okP_is xs h
  refine ⟨.tuple (xs.map .int), pur_ints xs, rep_ok2 h1 ?_ ?_, q⟩
  · simp only [szP]; omega
  · simp only [PyData.depth, depth_i]; decide
theorem rep_b {S : DStore} {m : Bool} {t : Bool} {Q : QE} (q : Q (.str (PyData.bool t).shown) S) : biD .repr1 m [.bl t] S Q := by
  cases t
  · exact repr4 (p := .bool false) rfl rfl q
  · exact repr4 (p := .bool true) rfl rfl q
theorem lay_bd (m b : Int) : ∀ (k : Nat) (rs : List R3), rs.length = k → ∀ s ∈ lay m b rs, b - k ≤ s.1 ∧ s.1 ≤ b + k := by
  intro k
  induction k with
  | zero =>
    intro rs h s hs
    rw [List.eq_nil_of_length_eq_zero h, lay_nil, List.mem_singleton] at hs
    rw [hs]
    show b - 0 ≤ b ∧ b ≤ b + 0
    omega
  | succ k ih =>
    intro rs h s hs
    rcases List.eq_nil_or_concat rs with rfl | ⟨rs', r, rfl⟩
    · simp at h
    · rw [List.concat_eq_append] at h hs
      rw [lay_snoc, mem_nxt] at hs
      obtain ⟨s0, hs0, q, hq, rfl⟩ := hs
      obtain ⟨a, ha, o, _, h1, _, _⟩ := mem_prt.mp hq
      have e := (onw_nx h1).1
      have e2 : q.2.1 = s0.1 + a := by rw [e]; rfl
      have := ih rs' (by simpa using h) s0 hs0
      rw [mem_st3] at ha
      omega
theorem fits_len {m b : Int} {rs : List R3} {ns : List Int} (h : FitsOf (lay m b rs) ns) : ns.length ≤ 30 := by
  have nd : ns.Nodup := h.1.imp fun z e => by omega
  refine Nat.le_trans (nodup_len (M := (lay m b rs).map (·.1)) nd fun k hk => ?_) (by rw [List.length_map]; exact lay_len m b rs)
  obtain ⟨s, hs, rfl⟩ := (h.2 k).mp hk
  exact List.mem_map_of_mem hs
theorem fits_bd {m b : Int} {rs : List R3} {ns : List Int} (h : FitsOf (lay m b rs) ns) (hb : -2000 ≤ b ∧ b ≤ 2000) (hl : rs.length ≤ 1000) : ∀ x ∈ ns, x.natAbs < 10 ^ 12 := fun x hx => by
  obtain ⟨s, hs, rfl⟩ := (h.2 x).mp hx
  have := lay_bd m b _ rs rfl s hs
  omega
theorem fits_emp {m b : Int} {rs : List R3} {ns : List Int} (h : FitsOf (lay m b rs) ns) : ns.isEmpty = (lay m b rs).isEmpty := by
  rw [Bool.eq_iff_iff, List.isEmpty_iff, List.isEmpty_iff]
  constructor
  · intro z
    rw [List.eq_nil_iff_forall_not_mem]
    intro s hs
    have := (h.2 s.1).mpr ⟨s, hs, rfl⟩
    rw [z] at this
    cases this
  · intro z
    rw [List.eq_nil_iff_forall_not_mem]
    intro k hk
    obtain ⟨s, hs, _⟩ := (h.2 k).mp hk
    rw [z] at hs
    cases hs
/-- the own states' places are the fits -/
theorem own_fits {m b : Int} {rs : List R3} {ns : List Int} (h1 : ns.Pairwise (· < ·)) (h2 : ∀ k, k ∈ ns ↔ k ∈ (oL m b rs).map (·.1)) : FitsOf (lay m b rs) ns := by
  have R := oL_ref m b _ rs rfl
  refine ⟨h1, fun k => ?_⟩
  rw [h2, List.mem_map]
  constructor
  · rintro ⟨q, hq, rfl⟩
    exact ⟨al q, (R.b q hq).2.2.2, rfl⟩
  · rintro ⟨s, hs, rfl⟩
    obtain ⟨q, hq, rfl⟩ := R.s s hs
    exact ⟨q, hq, rfl⟩
theorem own_nil {m b : Int} {rs : List R3} (h : oL m b rs = []) : lay m b rs = [] := by
  have R := oL_ref m b _ rs rfl
  rw [List.eq_nil_iff_forall_not_mem]
  intro s hs
  obtain ⟨q, hq, _⟩ := R.s s hs
  rw [h] at hq
  cases hq
theorem lay_app_nil {m b : Int} {rs : List R3} (h : lay m b rs = []) : ∀ us : List R3, lay m b (rs ++ us) = [] := by
  intro us
  have e : ∀ us : List R3, us.foldl (nxt m) [] = [] := fun us => by
    induction us with
    | nil => rfl
    | cons u us ih => exact ih
  unfold lay at h ⊢
  rw [List.foldl_append, h, e]
theorem tel_kq {S S' : DStore} {n r l d : Nat} (kvs : List (List L2.Key × D)) {xs ys : List D} (k : Kq r l S S') (h1 : S[r]? = some (.lst xs)) (h2 : S[l]? = some (.lst ys)) (hd : dctOf S d = some kvs) : dctOf S' d = some kvs := by
  have hr : d ≠ r := fun z => by subst z; unfold dctOf at hd; rw [h1] at hd; cases hd
  have hl : d ≠ l := fun z => by subst z; unfold dctOf at hd; rw [h2] at hd; cases hd
  rcases dct_cell hd with h | h
  · exact dct_at (k d _ hr hl h)
  · exact dlk_at (k d _ hr hl h)
noncomputable def keptD (t : Tl) : D := .tup [.tup (t.map ptD), .str (PyData.tuple (t.map ptP)).shown]
structure LS (S : DStore) (q kp n r l d : Nat) (m b : Int) (RS rs ss : List R3) (ts : List Tl) : Prop where
  row : S[q]? = some (.lst (RS.map r3D))
  tel : TelA S n r l m b rs
  st : dctOf S d = some (ownK (oL m b ss))
  kl : S[kp]? = some (.lst (ts.map keptD))
  ne : q ≠ r ∧ q ≠ l ∧ kp ≠ r ∧ kp ≠ l ∧ kp ≠ q
  bd : ∀ t ∈ ts, t.length ≤ 1000 ∧ ∀ p ∈ t, p.1.natAbs < 10 ^ 12 ∧ p.2.natAbs < 10 ^ 12
theorem LS.kd {S S' : DStore} {q kp n r l d : Nat} {m b : Int} {RS rs ss : List R3} {ts : List Tl} (h : LS S q kp n r l d m b RS rs ss ts) (k : Kd S S') : LS S' q kp n r l d m b RS rs ss ts :=
  ⟨k.lst h.row, k.tel h.tel, k.dct h.st, k.lst h.kl, h.ne, h.bd⟩
theorem LS.kq {S S' : DStore} {q kp n r l d : Nat} {m b : Int} {RS rs rs' ss : List R3} {ts : List Tl} (h : LS S q kp n r l d m b RS rs ss ts) (k : Kq r l S S') (T : TelA S' n r l m b rs') : LS S' q kp n r l d m b RS rs' ss ts := by
  obtain ⟨ls, a, _, _⟩ := h.tel.ly
  exact ⟨k _ _ h.ne.1 h.ne.2.1 h.row, T, tel_kq (n := n) _ k h.tel.rd a h.st, k _ _ h.ne.2.2.1 h.ne.2.2.2.1 h.kl, h.ne, h.bd⟩
theorem LS.keep {S : DStore} {q kp n r l d : Nat} {m b : Int} {RS rs ss : List R3} {ts : List Tl} (h : LS S q kp n r l d m b RS rs ss ts) {t : Tl} (ht : t.length ≤ 1000 ∧ ∀ p ∈ t, p.1.natAbs < 10 ^ 12 ∧ p.2.natAbs < 10 ^ 12) : LS (S.set kp (.lst (ts.map keptD ++ [keptD t]))) q kp n r l d m b RS rs ss (ts ++ [t]) := by
  have o : ∀ j c, j ≠ kp → S[j]? = some c → (S.set kp (Cell.lst (ts.map keptD ++ [keptD t])))[j]? = some c := fun j c hj e => by rw [List.getElem?_set_ne (Ne.symm hj)]; exact e
  refine ⟨o _ _ (Ne.symm h.ne.2.2.2.2) h.row, h.tel.keep fun j c hj e => o _ _ (fun z => ?_) e, dct_set h.kl h.st, by rw [set_get h.kl, List.map_append]; rfl, h.ne, fun x hx => ?_⟩
  · subst z
    rcases hj with rfl | rfl | rfl | ⟨ks, rfl⟩
    · cases h.kl.symm.trans h.tel.o
    · exact h.ne.2.2.1 rfl
    · exact h.ne.2.2.2.1 rfl
    · cases h.kl.symm.trans e
  · rcases List.mem_append.mp hx with z | z
    · exact h.bd x z
    · rw [List.mem_singleton.mp z]; exact ht
theorem LS.row2 {S : DStore} {q kp n r l d : Nat} {m b : Int} {RS rs ss : List R3} {ts : List Tl} (h : LS S q kp n r l d m b RS rs ss ts) (x : R3) : LS (S.set q (.lst (RS.map r3D ++ [r3D x]))) q kp n r l d m b (RS ++ [x]) rs ss ts := by
  have o : ∀ j c, j ≠ q → S[j]? = some c → (S.set q (Cell.lst (RS.map r3D ++ [r3D x])))[j]? = some c := fun j c hj e => by rw [List.getElem?_set_ne (Ne.symm hj)]; exact e
  refine ⟨by rw [set_get h.row, List.map_append]; rfl, h.tel.keep fun j c hj e => o _ _ (fun z => ?_) e, dct_set h.row h.st, o _ _ h.ne.2.2.2.2 h.kl, h.ne, h.bd⟩
  subst z
  rcases hj with rfl | rfl | rfl | ⟨ks, rfl⟩
  · cases h.row.symm.trans h.tel.o
  · exact h.ne.1 rfl
  · exact h.ne.2.1 rfl
  · cases h.row.symm.trans e
theorem ls_last {fs : List Int} (h : fs ≠ []) : ∃ g e, fs = g ++ [e] ∧ e ∈ fs := by
  rcases List.eq_nil_or_concat fs with rfl | ⟨g, e, rfl⟩
  · exact absurd rfl h
  · exact ⟨g, e, List.concat_eq_append .., by simp⟩
theorem tale_bd {m b e : Int} {rs : List R3} (hl : liveF m e rs (b, false, 2) = true) (hb : -2000 ≤ b ∧ b ≤ 2000) (h : rs.length ≤ 1000) : (taleF m e rs (b, false, 2)).length ≤ 1000 ∧ ∀ p ∈ taleF m e rs (b, false, 2), p.1.natAbs < 10 ^ 12 ∧ p.2.natAbs < 10 ^ 12 := by
  have ok := tlOk_tale rs _ hl
  have hlen := tlOk_len _ _ _ ok
  refine ⟨by omega, fun p hp => ?_⟩
  have := tlOk_bd rs _ _ ok p hp
  simp only at this
  omega
noncomputable def turnC : List CS := [.asg (.name 12) (.call 12 [(.var 7), (.var 12), (.var 15)]),
    .asg (.name 16) (.bi .tuple1 false [(.sSet false (.lc false (.ix (.var 19) (.con (.int 0))) (.name 19) (.keysF (.var 12)) [] [19]))]),
    .if_ (.cor (.ccmp .NotEq (.bi .repr1 false [(.meth "Teller" (.var 11) "take" 22 [(.var 15)])]) (.bi .repr1 false [(.cmp .NotEq (.var 16) (.tup []))])) (.ccmp .NotEq (.bi .repr1 false [(.meth "Teller" (.var 11) "fits" 6 [])]) (.bi .repr1 false [(.var 16)]))) [.ret (.con (.bl false))] [],
    .if_ (.cand (.ccmp .NotEq (.var 16) (.tup [])) (.ccmp .Eq (.bin .Mod false (.var 14) (.var 13)) (.con (.int 0)))) [.asg (.name 17) (.meth "Teller" (.var 11) "tale" 18 [(.ix (.var 16) (.neg (.con (.int 1))))]),
    .append (.var 5) (.tup [(.var 17), (.bi .repr1 false [(.var 17)])]),
    .if_ (.cor (.cnot (.cval (.call 20 [(.var 7), (.var 3), (.sl false (.var 4) .no (.yes (.bin .Add false (.var 14) (.con (.int 1))))), (.var 17)]))) (.ccmp .NotEq (.ix (.ix (.var 17) (.neg (.con (.int 1)))) (.con (.int 0))) (.ix (.var 16) (.neg (.con (.int 1)))))) [.ret (.con (.bl false))] []] []]
noncomputable abbrev eW (d0 d1 d2 : Option D) (b : Int) (q kp : Nat) (d6 : Option D) (m : Int) (d8 d9 d10 : Option D) (n d : Nat) (lk : Int) (d14 d15 d16 d17 : Option D) : DEnv := [d0, d1, d2, some (.int b), some (.ref q), some (.ref kp), d6, some (.int m), d8, d9, d10, some (.ref n), some (.ref d), some (.int lk), d14, d15, d16, d17, none, none]
theorem turn_ok {d0 d1 d2 d6 d8 d9 d10 d16 d17 : Option D} {q kp n r l d i : Nat} {m b lk : Int} {RS : List R3} {x : R3} {ts : List Tl} {S : DStore} {N : DEnv → DStore → Prop} {rt : QE} {bk ct : DEnv → DStore → Prop}
    (m1 : 8 ≤ m) (m2 : m ≤ 400) (hb : -2000 ≤ b ∧ b ≤ 2000) (hlk : 0 < lk) (hRS : RS.length ≤ 300) (hx : RS[i]? = some x) (h : LS S q kp n r l d m b RS (RS.take i) (RS.take i) ts) (htl : ts.length ≤ i)
    (hN : ∀ (d' : Nat) (ts' : List Tl) (d16 d17 : Option D) (S' : DStore), LS S' q kp n r l d' m b RS (RS.take (i + 1)) (RS.take (i + 1)) ts' → ts'.length ≤ i + 1 → N (eW d0 d1 d2 b q kp d6 m d8 d9 d10 n d' lk (some (.int i)) (some (r3D x)) d16 d17) S') :
    wpSs G turnC (eW d0 d1 d2 b q kp d6 m d8 d9 d10 n d lk (some (.int i)) (some (r3D x)) d16 d17) S ⟨N, rt, bk, ct⟩ := by
  have hi := (List.getElem?_eq_some_iff.mp hx).1
  have htk : RS.take i ++ [x] = RS.take (i + 1) := by rw [List.take_succ, hx]; rfl
  unfold turnC eW
  refine ss_split 1 (fun ρ' S' => ∃ d', ρ' = eW d0 d1 d2 b q kp d6 m d8 d9 d10 n d' lk (some (.int i)) (some (r3D x)) d16 d17 ∧ LS S' q kp n r l d' m b RS (RS.take i) (RS.take (i + 1)) ts) (fun N hN => ?_) ?_
  · simp_arith only [G12]
    refine ⟨m, _, oL m b (RS.take i), x, rfl, m1, m2, Nat.le_trans (oL_len m b _) (by decide), .inr ⟨d, rfl, h.st⟩, fun S1 K1 _ hd => ?_⟩
    have h1 := h.kd K1
    refine hN _ _ ⟨_, rfl, h1.row, h1.tel, ?_, h1.kl, h1.ne, h1.bd⟩
    rw [oL_take hx]
    exact dct_at hd
  rintro ρ' S1 ⟨d', rfl, h⟩
  unfold eW
  refine ss_split 1 (fun ρ' S' => ∃ fs : List Int, ρ' = eW d0 d1 d2 b q kp d6 m d8 d9 d10 n d' lk (some (.int i)) (some (r3D x)) (some (.tup (fs.map D.int))) d17 ∧ FitsOf (lay m b (RS.take (i + 1))) fs ∧ LS S' q kp n r l d' m b RS (RS.take i) (RS.take (i + 1)) ts) (fun N hN => ?_) ?_
  · simp_arith only []
    refine ⟨d', _, rfl, keysF_g h.st fun S2 K2 _ _ => ?_⟩
    refine gather_map t3D (fun s => D.int s.1) (Nat.le_trans (oL_len m b _) (by decide)) trivial (fun s _ N2 hN2 => ?_) ?_
    · unfold DL.lcTurn t3D
      simp_arith only []
      exact hN2
    · rw [show (oL m b (RS.take (i + 1))).map (fun s => D.int s.1) = ((oL m b (RS.take (i + 1))).map (·.1)).map D.int by rw [List.map_map]; rfl]
      refine ⟨_, (lay m b (RS.take (i + 1))).map (·.1), rfl, ?_, by rw [List.length_map]; exact lay64 m b _, fun k hk => ?_, fun fs hp hm => hN _ _ ⟨fs, rfl, own_fits hp hm, h.kd K2⟩⟩
      · rw [List.length_map]
        have := oL_len m b (RS.take (i + 1))
        omega
      · obtain ⟨u, hu, rfl⟩ := List.mem_map.mp hk
        exact List.mem_map.mpr ⟨al u, ((oL_ref m b _ _ rfl).b u hu).2.2.2, rfl⟩
  rintro ρ' S2 ⟨fs, rfl, hF, h⟩
  unfold eW
  have hfl := fits_len hF
  have hlt : (RS.take (i + 1)).length ≤ 1000 := by rw [List.length_take]; omega
  have hfb := fits_bd hF hb hlt
  have hfe := fits_emp hF
  refine ss_split 1 (fun ρ' S' => ρ' = eW d0 d1 d2 b q kp d6 m d8 d9 d10 n d' lk (some (.int i)) (some (r3D x)) (some (.tup (fs.map D.int))) d17 ∧ LS S' q kp n r l d' m b RS (RS.take (i + 1)) (RS.take (i + 1)) ts) (fun N hN => ?_) ?_
  · simp_arith only [G22, G6]
    refine ⟨n, _, rfl, h.tel.o, tF_take, n, r, l, m, b, RS.take i, x, rfl, h.tel, by omega, by rw [List.length_take]; omega, lay100k m b _, fun S3 K3 L3 T3' => ?_⟩
    rw [htk] at T3' ⊢
    refine rep_b ?_
    refine ne_nilT ?_
    refine rep_b ?_
    rw [hfe, q_neS, decide_eq_true rfl]
    simp only [Bool.not_true, Bool.false_eq_true, if_false]
    refine ⟨n, _, rfl, T3'.o, tF_fits, n, r, l, m, b, _, rfl, T3', lay64 m b _, fun fs' hF' => ?_⟩
    have e := hF'.uniq hF
    subst e
    refine rep_is (by omega) hfb ?_
    refine rep_is (by omega) hfb ?_
    rw [q_neS, decide_eq_true rfl]
    simp only [Bool.not_true, Bool.false_eq_true, if_false]
    exact hN _ _ ⟨rfl, h.kq K3 T3'⟩
  rintro ρ' S3 ⟨rfl, h⟩
  unfold eW
  simp_arith only [G18, G20]
  refine ne_nilT ?_
  by_cases hz : fs = []
  · subst hz
    exact hN _ _ _ _ _ h (by omega)
  rw [show fs.isEmpty = false by cases fs with | nil => exact absurd rfl hz | cons a l => rfl]
  simp only [Bool.not_false, if_true]
  refine ⟨by omega, if_i (fun c => ?_) fun c => ?_⟩
  rotate_left
  · exact hN _ _ _ _ _ h (by omega)
  obtain ⟨g, e, rfl, he⟩ := ls_last hz
  have hfit := (hF.2 e).mp he
  have hlive := live_first hfit
  have htb := tale_bd hlive hb hlt
  obtain ⟨t, p, et, ep⟩ := tl_last (RS.take (i + 1)) _ (fun z => by have := congrArg List.length z; rw [List.length_take, List.length_nil] at this; omega) hlive
  have hat : atI ((g ++ [e]).map D.int) (-1) = some (.int e) := at_m1 (by simp)
  refine ⟨n, _, rfl, h.tel.o, tF_tale, .int e, hat, n, r, l, m, b, RS.take (i + 1), e, rfl, h.tel, by omega, hlt, hfit, fun S4 K4 L4 => ?_⟩
  have h4 := h.kd (kp_kd K4)
  refine ⟨lat h4.kl, rep_tl htb.1 htb.2 ⟨_, h4.kl, by rw [List.length_map]; exact Nat.lt_of_le_of_lt (show ts.length ≤ 300 by omega) (by decide), ?_⟩⟩
  have h5 := h4.keep htb
  change LS (S4.set kp (Cell.lst (ts.map keptD ++ [D.tup [.tup ((taleF m e (RS.take (i + 1)) (b, false, 2)).map ptD), .str (PyData.tuple ((taleF m e (RS.take (i + 1)) (b, false, 2)).map ptP)).shown]]))) _ _ _ _ _ _ _ _ _ _ _ _ at h5
  refine LsAt.sl (.inr ⟨q, rfl, h5.row⟩) ?_
  rw [show (i : Int) + 1 = ((i + 1 : Nat) : Int) by omega, cut_to, ← List.map_take]
  refine ⟨m, b, _, RS.take (i + 1), _, rfl, m1, m2, .inl rfl, hlt, tlOk_tale _ _ hlive, ?_⟩
  dsimp only
  rw [t_bl, if_neg (by decide)]
  rw [et, x_tup]
  refine ⟨ptD p, at_m1 (by simp), ?_⟩
  unfold ptD
  rw [x_tup]
  refine ⟨.int p.1, rfl, .int e, hat, ?_⟩
  rw [ep, q_neI, decide_eq_true rfl]
  simp only [Bool.not_true, Bool.false_eq_true, if_false]
  rw [et] at h5
  exact hN _ _ _ _ _ h5 (by rw [List.length_append, List.length_singleton]; omega)
theorem body24 : ∀ ds S Q, spLaw ds S Q → wpSs G c24 (startD n24.length ds) S { nx := fun _ S' => Q .non S', rt := Q } := by
  rintro ds S Q ⟨ns, rfl, hns, hQ⟩
  unfold c24 n24
  simp_arith only [List.length_map]
  have hc1 : 1 ≤ (if (if (ns.length : Int) < 3 then (ns.length : Int) else 3) > 1 then (if (ns.length : Int) < 3 then (ns.length : Int) else 3) else 1) ∧ (if (if (ns.length : Int) < 3 then (ns.length : Int) else 3) > 1 then (if (ns.length : Int) < 3 then (ns.length : Int) else 3) else 1) ≤ 3 := by
    split <;> (try split) <;> omega
  generalize (if (if (ns.length : Int) < 3 then (ns.length : Int) else 3) > 1 then (if (ns.length : Int) < 3 then (ns.length : Int) else 3) else 1) = cells at *
  (repeat (refine And.intro (by first | omega | exact DL.mul_small_left (by omega) (by omega) | exact DL.mul_small_right (by omega) (by omega) | exact DL.div_om (by omega) (by omega) (by omega) | exact DL.cpow1 (by omega) (by omega) | exact ⟨by omega, by omega⟩ | exact DL.len_le (by (try simp only [List.length_map, List.length_append, List.length_cons, List.length_nil]); omega) | exact DL.len_lt (by (try simp only [List.length_map, List.length_append, List.length_cons, List.length_nil]); omega) | trivial | decide) ?_))
  refine walk_range (fun i ρ S' => ∃ r1 r2 r3 r4 r5 r6 r7 r8 r9 r10 r11 r12 r13 r14 r15 r16 r17 : Option D, ρ = [some (.scr (ns.map D.int)), r1, r2, r3, r4, r5, r6, r7, r8, r9, r10, r11, r12, r13, r14, r15, r16, r17, none, none]) ⟨_, _, _, _, _, _, _, _, _, _, _, _, _, _, _, _, _, rfl⟩ (fun _ _ _ _ => trivial) (fun i ρ S' hi hp => ?_) (fun ρ S' hp => ?_)
  rotate_left
  · obtain ⟨r1, r2, r3, r4, r5, r6, r7, r8, r9, r10, r11, r12, r13, r14, r15, r16, r17, rfl⟩ := hp
    (try simp_arith only [])
    exact hQ _
  obtain ⟨r1, r2, r3, r4, r5, r6, r7, r8, r9, r10, r11, r12, r13, r14, r15, r16, r17, rfl⟩ := hp
  unfold DL.forTurn
  rw [g_name]
  refine ss_split 7 (fun ρ' S' => ∃ (d1 d2 r6 r8 r9 r10 r14 r15 r16 r17 : Option D) (q kp n r l d : Nat) (m b lk : Int) (RS : List R3), ρ' = eW (some (.scr (ns.map D.int))) d1 d2 b q kp r6 m r8 r9 r10 n d lk r14 r15 r16 r17 ∧ 8 ≤ m ∧ m ≤ 400 ∧ (-2000 ≤ b ∧ b ≤ 2000) ∧ 0 < lk ∧ 1 ≤ RS.length ∧ RS.length ≤ 250 ∧ LS S' q kp n r l d m b RS [] [] []) (fun N hN => ?_) ?_
  · simp_arith only [G0]
    refine handP (by omega) (by omega) fun hd S1 hP _ _ => ?_
    (try simp_arith only [G7])
    refine ⟨hd, _, rfl, hP, by omega, fun m S4 m8 m4 P4 F4 => ?_⟩
    (try simp_arith only [G1])
    refine takeP P4 (by omega) (by omega) (by omega) fun k S5 k0 k1 P5 F5 L5 => ?_
    (try simp_arith only [G3])
    refine ⟨hd, _, m, rfl, P5, by omega, m8, m4, fun b S6 b0 b1 P6 F6 => ?_⟩
    (try simp_arith only [G2])
    refine .inl (pickI (lo := 2) (hi := 5) P6 (by omega) ⟨by omega, by omega, trivial⟩ fun w S7 w0 w1 P7 F7 L7 => ?_)
    (try simp_arith only [G8])
    refine ⟨hd, _, b, 1 + k, w, rfl, P7, by omega, by omega, by omega, by omega, by omega, fun qs ws S8 P8 F8 hqs hws hwl => ?_⟩
    (try simp_arith only [G9])
    refine ⟨hd, _, 1 + k, 3, rfl, P8, by omega, by omega, by omega, by omega, by omega, fun qv vs S9 P9 F9 hqv hvs hvl => ?_⟩
    have y7 := P7.lt
    have y8 := P8.lt
    (try simp_arith only [G5])
    refine ⟨hd, qs, qv, _, m, ws, vs, rfl, P9, by omega, m8, m4, F9.get (by omega) hws, hvs, by omega, by omega, by omega, by omega, by omega, fun q RS S10 P10 F10 hq hrs hrl => ?_⟩
    have y9 := P9.lt
    (try simp_arith only [])
    show G.fn 11 [D.ref S10.length, D.int m, D.int b] (S10 ++ [Cell.ins (Str.ofString "Teller") []]) _
    rw [G11]
    refine ⟨S10.length, m, b, rfl, by simp, fun r l S11 K11 T11 hr hl => ⟨rfl, ?_⟩⟩
    have k11 : Kp S10 S11 := fun j c hj => K11 j c (fun z => by have := (List.getElem?_eq_some_iff.mp hj).1; omega) (app_get hj)
    rw [List.length_append, List.length_singleton] at hr hl
    have y10 := P10.lt
    have x11 := k11.len
    simp_arith only [e_dnew1]
    refine ⟨_, rfl, by simp, ?_⟩
    have P12 := ((P10.keep k11).app (cs := [Cell.dct []])).set (q := S11.length) (c := Cell.dct [([Sum.inl b, Sum.inl 0, Sum.inl 3], D.bl true)]) (by omega)
    refine takeP P12 (by omega) (by decide) (by decide) fun v S13 v0 v1 P13 F13 L13 => ?_
    rw [List.length_set, List.length_append, List.length_singleton] at L13
    (try simp_arith only [])
    have ltr := (List.getElem?_eq_some_iff.mp T11.rd).1
    have ltl : l < S11.length := by obtain ⟨ls, a, _, _⟩ := T11.ly; exact (List.getElem?_eq_some_iff.mp a).1
    have ltq := (List.getElem?_eq_some_iff.mp hrs).1
    have big : ∀ j c, j ≠ hd → S11[j]? = some c → (S13 ++ [Cell.lst []])[j]? = some c := fun j c hj e => app_get (F13.get hj (by
      have := (List.getElem?_eq_some_iff.mp e).1
      rw [List.getElem?_set_ne (by omega)]
      exact app_get e))
    refine hN _ _ ⟨_, _, _, _, _, _, _, _, _, _, q, S13.length, S10.length, r, l, S11.length, m, b, 10 + v, RS, rfl, m8, m4, ⟨b0, b1⟩, by omega, by omega, by omega, big _ _ (by omega) (k11 _ _ hrs), T11.keep fun j c hj e => big j c (fun z => ?_) e, ?_, by simp, ⟨by omega, by omega, by omega, by omega, by omega⟩, fun t ht => nomatch ht⟩
    · subst z
      rcases hj with z | z | z | ⟨ks, rfl⟩
      · omega
      · omega
      · omega
      · obtain ⟨g, mm, tt, e2, _⟩ := P10.keep k11
        cases e2.symm.trans e
    · refine dct_at (app_get (F13.get (by omega) ?_))
      rw [set_get (c := Cell.dct []) (by simp)]
      rfl
  rintro ρ' S4 ⟨d1, d2, r6, r8, r9, r10, r14, r15, r16, r17, q, kp, n, r, l, d, m, b, lk, RS, rfl, m8, m4, hb, hlk, hl1, hl2, hS⟩
  unfold eW
  refine ss_split 1 (fun ρ' S' => ∃ (d : Nat) (ts : List Tl) (r14 r15 r16 r17 : Option D), ρ' = eW (some (.scr (ns.map D.int))) d1 d2 b q kp r6 m r8 r9 r10 n d lk r14 r15 r16 r17 ∧ LS S' q kp n r l d m b RS RS RS ts ∧ ts.length ≤ 250) (fun N hN => ?_) ?_
  · simp_arith only []
    show ∃ xs, lstOf S4 (.ref q) = some xs ∧ wpWalk (enumD xs) (fun S' => lstOf S' (.ref q) = some xs) _ _ _ _
    refine ⟨RS.map r3D, by simp only [lstOf, hS.row], ?_⟩
    refine walk_list (fun i ρ S' => ∃ (d : Nat) (ts : List Tl) (r14 r15 r16 r17 : Option D), ρ = eW (some (.scr (ns.map D.int))) d1 d2 b q kp r6 m r8 r9 r10 n d lk r14 r15 r16 r17 ∧ LS S' q kp n r l d m b RS (RS.take i) (RS.take i) ts ∧ ts.length ≤ i)
      ⟨d, [], _, _, _, _, rfl, hS, Nat.le_refl _⟩ (fun j ρ S' hp => ?_) (fun j x ρ S' hx hp => ?_) (fun ρ S' hp => ?_)
    · obtain ⟨_, _, _, _, _, _, _, h, _⟩ := hp
      simp only [lstOf, h.row]
    · obtain ⟨d, ts, r14, r15, r16, r17, rfl, h, htl⟩ := hp
      unfold enumD at hx
      rw [List.getElem?_map] at hx
      obtain ⟨p0, hp0, rfl⟩ := Option.map_eq_some_iff.mp hx
      rw [List.getElem?_zipIdx, List.getElem?_map] at hp0
      obtain ⟨p1, hp1, rfl⟩ := Option.map_eq_some_iff.mp hp0
      obtain ⟨x, hx2, rfl⟩ := Option.map_eq_some_iff.mp hp1
      unfold DL.forTurn eW
      simp only [Nat.zero_add]
      refine g_two ?_
      exact turn_ok m8 m4 hb hlk (by omega) hx2 h htl fun d' ts' r16 r17 S'' h' htl' => ⟨d', ts', _, _, _, _, rfl, h', htl'⟩
    · obtain ⟨d, ts, r14, r15, r16, r17, rfl, h, htl⟩ := hp
      have el : (enumD (RS.map r3D)).length = RS.length := by simp [enumD]
      rw [el, List.take_length] at h
      rw [el] at htl
      exact hN _ _ ⟨d, ts, _, _, _, _, rfl, h, by omega⟩
  rintro ρ' S5 ⟨d, ts, r14, r15, r16, r17, rfl, hS, htl⟩
  unfold eW
  refine ss_split 1 (fun ρ' S' => ∃ (r6 r17 : Option D), ρ' = eW (some (.scr (ns.map D.int))) d1 d2 b q kp r6 m r8 r9 r10 n d lk r14 r15 r16 r17 ∧ LS S' q kp n r l d m b RS RS RS ts) (fun N hN => ?_) ?_
  · simp_arith only [G6]
    refine ⟨n, _, rfl, hS.tel.o, tF_fits, n, r, l, m, b, RS, rfl, hS.tel, lay64 m b RS, fun fs hF => ?_⟩
    (try simp_arith only [])
    refine walk_list (fun j ρ S' => ∃ (r6 r17 : Option D), ρ = eW (some (.scr (ns.map D.int))) d1 d2 b q kp r6 m r8 r9 r10 n d lk r14 r15 r16 r17 ∧ LS S' q kp n r l d m b RS RS RS ts)
      ⟨_, _, rfl, hS⟩ (fun _ _ _ _ => trivial) (fun j y ρ S6 hy hp => ?_) (fun ρ S6 hp => ?_)
    · obtain ⟨r6, r17, rfl, hS⟩ := hp
      obtain ⟨e, he, rfl⟩ := map_at hy
      have hfit := (hF.2 e).mp (List.mem_of_getElem? he)
      have hlive := live_first hfit
      unfold DL.forTurn eW
      simp_arith only [G18, G20, G21]
      refine ⟨n, _, rfl, hS.tel.o, tF_tale, n, r, l, m, b, RS, e, rfl, hS.tel, by omega, by omega, hfit, fun S7 K7 L7 => ?_⟩
      have h7 := hS.kd (kp_kd K7)
      refine ⟨m, b, _, RS, _, rfl, m8, m4, .inr ⟨q, rfl, h7.row⟩, by omega, tlOk_tale _ _ hlive, ?_⟩
      dsimp only
      rw [t_bl, if_neg (by decide)]
      refine ⟨m, b, q, RS, e, rfl, m8, m4, h7.row, hl1, by omega, hfit, fun S8 K8 => ?_⟩
      dsimp only
      rw [t_bl, if_neg (by decide)]
      exact ⟨_, _, rfl, h7.kd K8⟩
    · obtain ⟨r6, r17, rfl, hS⟩ := hp
      (try simp_arith only [])
      exact hN _ _ ⟨_, _, rfl, hS⟩
  rintro ρ' S6 ⟨r6, r17, rfl, hS⟩
  unfold eW
  refine ss_split 1 (fun ρ' S' => ρ' = eW (some (.scr (ns.map D.int))) d1 d2 b q kp r6 m r8 r9 r10 n d lk r14 r15 r16 r17 ∧ S6 = S') (fun N hN => ?_) ?_
  · simp_arith only []
    refine ⟨_, hS.kl, ?_⟩
    refine gather_map keptD (fun _ => D.bl true) (Nat.le_trans (show ts.length ≤ 300 by omega) (by decide)) hS.kl (fun t ht N2 hN2 => ?_) ?_
    · unfold DL.lcTurn keptD
      simp_arith only []
      refine ⟨trivial, rep_tl (hS.bd t ht).1 (hS.bd t ht).2 ?_⟩
      rw [q_eqS, decide_eq_true rfl]
      exact hN2
    · rw [show ts.map (fun _ => D.bl true) = (ts.map fun _ => true).map D.bl by rw [List.map_map]; rfl, f_allB, show ((ts.map fun _ : Tl => true).all id) = true by rw [List.all_map]; simp]
      (try simp_arith only [])
      exact hN _ _ ⟨rfl, rfl⟩
  rintro ρ' S7 ⟨rfl, rfl⟩
  unfold eW
  simp_arith only [G4, G22, G6, G23]
  refine ⟨fun k ρ S' => ∃ US : List R3, ρ = eW (some (.scr (ns.map D.int))) d1 d2 b q kp r6 m r8 r9 r10 n d lk r14 r15 r16 r17 ∧ LS S' q kp n r l d m b (RS ++ US) (RS ++ US) RS ts ∧ k + US.length = 300, ⟨300, [], rfl, by rw [List.append_nil]; exact hS, rfl⟩, fun k ρ S' hw => ?_⟩
  obtain ⟨US, rfl, h, hk⟩ := hw
  unfold eW DL.whileTest
  simp_arith only []
  refine ⟨d, S'.length, _, rfl, rfl, (kd_app (cs := [Cell.dct []])).dct h.st, by simp, ?_⟩
  have h1 := h.kd (kd_app (cs := [Cell.dct []]))
  refine if_i (fun ho => ⟨_, by rw [h1.row]; rfl, ?_⟩) fun _ => ⟨_, _, _, _, _, _, _, _, _, _, _, _, _, _, _, _, _, rfl⟩
  have hoL : oL m b RS = [] := by
    unfold ownK at ho
    rw [List.isEmpty_iff, List.map_eq_nil_iff] at ho
    exact ho
  have hln := lay_app_nil (own_nil hoL)
  refine if_i (fun c => ?_) fun _ => ⟨_, _, _, _, _, _, _, _, _, _, _, _, _, _, _, _, _, rfl⟩
  rw [List.length_map, List.length_append] at c
  unfold DL.whileTurn
  simp_arith only [G4, G22, G6, G23]
  refine ⟨lat h1.row, m, b, 0, rfl, m8, m4, _, h1.row, by rw [List.length_map, List.length_append]; exact Nat.lt_of_le_of_lt (show RS.length + US.length ≤ 300 by omega) (by decide), ?_⟩
  have h2 := h1.row2 (rdT m b 0)
  generalize rdT m b 0 = x at h2 ⊢
  refine ⟨n, _, rfl, h2.tel.o, tF_take, _, by rw [h2.row]; rfl, r3D x, at_m1 (by simp), n, r, l, m, b, RS ++ US, x, rfl, h2.tel, by omega, by rw [List.length_append]; omega, lay100k m b _, fun S3 K3 L3 T3' => ?_⟩
  have h3 := h2.kq K3 T3'
  have e0 : lay m b (RS ++ US ++ [x]) = [] := by rw [List.append_assoc]; exact hln _
  have hfs : ∀ fs, FitsOf (lay m b (RS ++ US ++ [x])) fs → fs = [] := fun fs hF => by
    have := fits_emp hF
    rw [e0] at this
    exact List.isEmpty_iff.mp this
  rw [show lay m b (RS ++ US ++ [x]) = [] from e0]
  refine ⟨_, rfl, ?_⟩
  dsimp only
  rw [if_neg (by decide)]
  refine ⟨n, _, rfl, T3'.o, tF_fits, n, r, l, m, b, _, rfl, T3', lay64 m b _, fun fs hF => ?_⟩
  rw [hfs fs hF]
  refine ne_nilT (ns := []) ?_
  rw [if_neg (by decide)]
  refine ⟨n, _, rfl, T3'.o, tF_place, n, r, l, m, b, _, rfl, T3', lay64 m b _, fun fs hF => ?_⟩
  rw [hfs fs hF]
  dsimp only
  rw [if_neg (show ¬ DL.isNon (midD []) = false from fun z => nomatch z)]
  refine ⟨k - 1, by omega, US ++ [x], trivial, ?_, by rw [List.length_append, List.length_singleton]; omega⟩
  rw [← List.append_assoc]
  exact h3
end Law_k07
namespace Law_k07
open PySem PySem.Spec PyProof.Rows L2 DL
set_option maxHeartbeats 8000000 in
theorem all_mk {l : PySem.W.OpenLaw} {w : World} {K : PySem.W.Frag} {h : Heap} {mg : Str → Option Value} {fa : Addr} (X : K.In h) (Gn : h.Ns mainGlobals mg) (hfa : mg "law" = some (.ref fa))
    {CL0 f0 f1 f2 f3 f4 f5 f6 f7 f8 f9 f10 f11 f12 f13 f14 f15 f16 f17 f18 f19 f20 f21 f22 f23 f24 : Addr} {od0 an0 od1 an1 od2 an2 od3 an3 od4 an4 od5 an5 od6 an6 od7 an7 od8 an8 od9 an9 od10 an10 od11 an11 od12 an12 od13 an13 od14 an14 od15 an15 od16 an16 od17 an17 od18 an18 od19 an19 od20 an20 od21 an21 od22 an22 od23 an23 od24 an24 : Option Addr} {sl0 sl1 sl2 sl3 sl4 sl5 sl6 sl7 sl8 sl9 sl10 sl11 sl12 sl13 sl14 sl15 sl16 sl17 sl18 sl19 sl20 sl21 sl22 sl23 sl24 : Array (Option Value)} {oc0 kV0 dc0 pm0 cd0 ct0 oc1 kV1 dc1 pm1 cd1 ct1 oc2 kV2 dc2 pm2 cd2 ct2 oc3 kV3 dc3 pm3 cd3 ct3 oc4 kV4 dc4 pm4 cd4 ct4 oc5 kV5 dc5 pm5 cd5 ct5 oc6 kV6 dc6 pm6 cd6 ct6 oc7 kV7 dc7 pm7 cd7 ct7 oc8 kV8 dc8 pm8 cd8 ct8 oc9 kV9 dc9 pm9 cd9 ct9 oc10 kV10 dc10 pm10 cd10 ct10 oc11 kV11 dc11 pm11 cd11 ct11 oc12 kV12 dc12 pm12 cd12 ct12 oc13 kV13 dc13 pm13 cd13 ct13 oc14 kV14 dc14 pm14 cd14 ct14 oc15 kV15 dc15 pm15 cd15 ct15 oc16 kV16 dc16 pm16 cd16 ct16 oc17 kV17 dc17 pm17 cd17 ct17 oc18 kV18 dc18 pm18 cd18 ct18 oc19 kV19 dc19 pm19 cd19 ct19 oc20 kV20 dc20 pm20 cd20 ct20 oc21 kV21 dc21 pm21 cd21 ct21 oc22 kV22 dc22 pm22 cd22 ct22 oc23 kV23 dc23 pm23 cd23 ct23 oc24 kV24 dc24 pm24 cd24 ct24 : Value}
    (aCL0 : PySem.W.nsIn K mainGlobals "Teller" = some (some (.ref CL0))) (pg0 : PySem.W.plainGet K CL0 Str.empty = true) (hdd0 : PySem.W.hasDictIn K CL0 = true) (po0 : PySem.W.plainOver K CL0 = true) (sa0 : PySem.W.findIn K (.ref CL0) "__setattr__" = some (some (.builtin "object.__setattr__"))) (mk0 : PySem.W.makesIn K CL0 = true) (kc0 : PySem.W.keepIn K (.ref CL0) = true) (isc0 : isCB K CL0 = true)
    (na0_0 : PySem.W.findIn K (.ref CL0) "teller_marks" = some none)
    (na0_1 : PySem.W.findIn K (.ref CL0) "teller_begin" = some none)
    (na0_2 : PySem.W.findIn K (.ref CL0) "teller_reads" = some none)
    (na0_3 : PySem.W.findIn K (.ref CL0) "teller_layers" = some none)
    (a0 : PySem.W.nsIn K mainGlobals "_law_hand" = some (some (.ref f0))) (l0 : K.lookup f0 = some ⟨oc0, od0, .func (PySem.W.fnOf "_law_hand" "_law_hand" (L2.defArgs s0) (L2.defBody s0) (L2.defScope s0) .none kV0 dc0 pm0 an0 cd0 ct0), sl0⟩) (d0 : PySem.W.codeIn K cd0 "_law_hand" = true) (k0 : PySem.W.keepIn K (.ref f0) = true)
    (a1 : PySem.W.nsIn K mainGlobals "_law_take" = some (some (.ref f1))) (l1 : K.lookup f1 = some ⟨oc1, od1, .func (PySem.W.fnOf "_law_take" "_law_take" (L2.defArgs s1) (L2.defBody s1) (L2.defScope s1) .none kV1 dc1 pm1 an1 cd1 ct1), sl1⟩) (d1 : PySem.W.codeIn K cd1 "_law_take" = true) (k1 : PySem.W.keepIn K (.ref f1) = true)
    (a2 : PySem.W.nsIn K mainGlobals "_law_pick" = some (some (.ref f2))) (l2 : K.lookup f2 = some ⟨oc2, od2, .func (PySem.W.fnOf "_law_pick" "_law_pick" (L2.defArgs s2) (L2.defBody s2) (L2.defScope s2) .none kV2 dc2 pm2 an2 cd2 ct2), sl2⟩) (d2 : PySem.W.codeIn K cd2 "_law_pick" = true) (k2 : PySem.W.keepIn K (.ref f2) = true)
    (a3 : PySem.W.nsIn K mainGlobals "_law_begin" = some (some (.ref f3))) (l3 : K.lookup f3 = some ⟨oc3, od3, .func (PySem.W.fnOf "_law_begin" "_law_begin" (L2.defArgs s3) (L2.defBody s3) (L2.defScope s3) .none kV3 dc3 pm3 an3 cd3 ct3), sl3⟩) (d3 : PySem.W.codeIn K cd3 "_law_begin" = true) (k3 : PySem.W.keepIn K (.ref f3) = true)
    (a4 : PySem.W.nsIn K mainGlobals "_law_signs" = some (some (.ref f4))) (l4 : K.lookup f4 = some ⟨oc4, od4, .func (PySem.W.fnOf "_law_signs" "_law_signs" (L2.defArgs s4) (L2.defBody s4) (L2.defScope s4) .none kV4 dc4 pm4 an4 cd4 ct4), sl4⟩) (d4 : PySem.W.codeIn K cd4 "_law_signs" = true) (k4 : PySem.W.keepIn K (.ref f4) = true)
    (a5 : PySem.W.nsIn K mainGlobals "_law_bent" = some (some (.ref f5))) (l5 : K.lookup f5 = some ⟨oc5, od5, .func (PySem.W.fnOf "_law_bent" "_law_bent" (L2.defArgs s5) (L2.defBody s5) (L2.defScope s5) .none kV5 dc5 pm5 an5 cd5 ct5), sl5⟩) (d5 : PySem.W.codeIn K cd5 "_law_bent" = true) (k5 : PySem.W.keepIn K (.ref f5) = true)
    (q6 : PySem.W.isFn K (.ref f6) = true)
    (a6 : PySem.W.findIn K (.ref CL0) "fits" = some (some (.ref f6))) (l6 : K.lookup f6 = some ⟨oc6, od6, .func (PySem.W.fnOf "fits" "Teller.fits" (L2.defArgs s6) (L2.defBody s6) (L2.defScope s6) .none kV6 dc6 pm6 an6 cd6 ct6), sl6⟩) (d6 : PySem.W.codeIn K cd6 "Teller.fits" = true) (k6 : PySem.W.keepIn K (.ref f6) = true)
    (a7 : PySem.W.nsIn K mainGlobals "_law_rounds" = some (some (.ref f7))) (l7 : K.lookup f7 = some ⟨oc7, od7, .func (PySem.W.fnOf "_law_rounds" "_law_rounds" (L2.defArgs s7) (L2.defBody s7) (L2.defScope s7) .none kV7 dc7 pm7 an7 cd7 ct7), sl7⟩) (d7 : PySem.W.codeIn K cd7 "_law_rounds" = true) (k7 : PySem.W.keepIn K (.ref f7) = true)
    (a8 : PySem.W.nsIn K mainGlobals "_law_spots" = some (some (.ref f8))) (l8 : K.lookup f8 = some ⟨oc8, od8, .func (PySem.W.fnOf "_law_spots" "_law_spots" (L2.defArgs s8) (L2.defBody s8) (L2.defScope s8) .none kV8 dc8 pm8 an8 cd8 ct8), sl8⟩) (d8 : PySem.W.codeIn K cd8 "_law_spots" = true) (k8 : PySem.W.keepIn K (.ref f8) = true)
    (a9 : PySem.W.nsIn K mainGlobals "_law_shifts" = some (some (.ref f9))) (l9 : K.lookup f9 = some ⟨oc9, od9, .func (PySem.W.fnOf "_law_shifts" "_law_shifts" (L2.defArgs s9) (L2.defBody s9) (L2.defScope s9) .none kV9 dc9 pm9 an9 cd9 ct9), sl9⟩) (d9 : PySem.W.codeIn K cd9 "_law_shifts" = true) (k9 : PySem.W.keepIn K (.ref f9) = true)
    (a10 : PySem.W.nsIn K mainGlobals "first_state" = some (some (.ref f10))) (l10 : K.lookup f10 = some ⟨oc10, od10, .func (PySem.W.fnOf "first_state" "first_state" (L2.defArgs s10) (L2.defBody s10) (L2.defScope s10) .none kV10 dc10 pm10 an10 cd10 ct10), sl10⟩) (d10 : PySem.W.codeIn K cd10 "first_state" = true) (k10 : PySem.W.keepIn K (.ref f10) = true)
    (q11 : PySem.W.isFn K (.ref f11) = true)
    (a11 : PySem.W.findIn K (.ref CL0) "__init__" = some (some (.ref f11))) (l11 : K.lookup f11 = some ⟨oc11, od11, .func (PySem.W.fnOf "__init__" "Teller.__init__" (L2.defArgs s11) (L2.defBody s11) (L2.defScope s11) .none kV11 dc11 pm11 an11 cd11 ct11), sl11⟩) (d11 : PySem.W.codeIn K cd11 "Teller.__init__" = true) (k11 : PySem.W.keepIn K (.ref f11) = true)
    (a12 : PySem.W.nsIn K mainGlobals "_law_onward" = some (some (.ref f12))) (l12 : K.lookup f12 = some ⟨oc12, od12, .func (PySem.W.fnOf "_law_onward" "_law_onward" (L2.defArgs s12) (L2.defBody s12) (L2.defScope s12) .none kV12 dc12 pm12 an12 cd12 ct12), sl12⟩) (d12 : PySem.W.codeIn K cd12 "_law_onward" = true) (k12 : PySem.W.keepIn K (.ref f12) = true)
    (a13 : PySem.W.nsIn K mainGlobals "onward" = some (some (.ref f13))) (l13 : K.lookup f13 = some ⟨oc13, od13, .func (PySem.W.fnOf "onward" "onward" (L2.defArgs s13) (L2.defBody s13) (L2.defScope s13) .none kV13 dc13 pm13 an13 cd13 ct13), sl13⟩) (d13 : PySem.W.codeIn K cd13 "onward" = true) (k13 : PySem.W.keepIn K (.ref f13) = true)
    (a14 : PySem.W.nsIn K mainGlobals "read_of" = some (some (.ref f14))) (l14 : K.lookup f14 = some ⟨oc14, od14, .func (PySem.W.fnOf "read_of" "read_of" (L2.defArgs s14) (L2.defBody s14) (L2.defScope s14) .none kV14 dc14 pm14 an14 cd14 ct14), sl14⟩) (d14 : PySem.W.codeIn K cd14 "read_of" = true) (k14 : PySem.W.keepIn K (.ref f14) = true)
    (a15 : PySem.W.nsIn K mainGlobals "parts_from" = some (some (.ref f15))) (l15 : K.lookup f15 = some ⟨oc15, od15, .func (PySem.W.fnOf "parts_from" "parts_from" (L2.defArgs s15) (L2.defBody s15) (L2.defScope s15) .none kV15 dc15 pm15 an15 cd15 ct15), sl15⟩) (d15 : PySem.W.codeIn K cd15 "parts_from" = true) (k15 : PySem.W.keepIn K (.ref f15) = true)
    (q16 : PySem.W.isFn K (.ref f16) = true)
    (a16 : PySem.W.findIn K (.ref CL0) "alive" = some (some (.ref f16))) (l16 : K.lookup f16 = some ⟨oc16, od16, .func (PySem.W.fnOf "alive" "Teller.alive" (L2.defArgs s16) (L2.defBody s16) (L2.defScope s16) .none kV16 dc16 pm16 an16 cd16 ct16), sl16⟩) (d16 : PySem.W.codeIn K cd16 "Teller.alive" = true) (k16 : PySem.W.keepIn K (.ref f16) = true)
    (a17 : PySem.W.nsIn K mainGlobals "is_whole" = some (some (.ref f17))) (l17 : K.lookup f17 = some ⟨oc17, od17, .func (PySem.W.fnOf "is_whole" "is_whole" (L2.defArgs s17) (L2.defBody s17) (L2.defScope s17) .none kV17 dc17 pm17 an17 cd17 ct17), sl17⟩) (d17 : PySem.W.codeIn K cd17 "is_whole" = true) (k17 : PySem.W.keepIn K (.ref f17) = true)
    (q18 : PySem.W.isFn K (.ref f18) = true)
    (a18 : PySem.W.findIn K (.ref CL0) "tale" = some (some (.ref f18))) (l18 : K.lookup f18 = some ⟨oc18, od18, .func (PySem.W.fnOf "tale" "Teller.tale" (L2.defArgs s18) (L2.defBody s18) (L2.defScope s18) .none kV18 dc18 pm18 an18 cd18 ct18), sl18⟩) (d18 : PySem.W.codeIn K cd18 "Teller.tale" = true) (k18 : PySem.W.keepIn K (.ref f18) = true)
    (a19 : PySem.W.nsIn K mainGlobals "_law_is_whole" = some (some (.ref f19))) (l19 : K.lookup f19 = some ⟨oc19, od19, .func (PySem.W.fnOf "_law_is_whole" "_law_is_whole" (L2.defArgs s19) (L2.defBody s19) (L2.defScope s19) .none kV19 dc19 pm19 an19 cd19 ct19), sl19⟩) (d19 : PySem.W.codeIn K cd19 "_law_is_whole" = true) (k19 : PySem.W.keepIn K (.ref f19) = true)
    (a20 : PySem.W.nsIn K mainGlobals "_law_is_so" = some (some (.ref f20))) (l20 : K.lookup f20 = some ⟨oc20, od20, .func (PySem.W.fnOf "_law_is_so" "_law_is_so" (L2.defArgs s20) (L2.defBody s20) (L2.defScope s20) .none kV20 dc20 pm20 an20 cd20 ct20), sl20⟩) (d20 : PySem.W.codeIn K cd20 "_law_is_so" = true) (k20 : PySem.W.keepIn K (.ref f20) = true)
    (a21 : PySem.W.nsIn K mainGlobals "_law_least" = some (some (.ref f21))) (l21 : K.lookup f21 = some ⟨oc21, od21, .func (PySem.W.fnOf "_law_least" "_law_least" (L2.defArgs s21) (L2.defBody s21) (L2.defScope s21) .none kV21 dc21 pm21 an21 cd21 ct21), sl21⟩) (d21 : PySem.W.codeIn K cd21 "_law_least" = true) (k21 : PySem.W.keepIn K (.ref f21) = true)
    (q22 : PySem.W.isFn K (.ref f22) = true)
    (a22 : PySem.W.findIn K (.ref CL0) "take" = some (some (.ref f22))) (l22 : K.lookup f22 = some ⟨oc22, od22, .func (PySem.W.fnOf "take" "Teller.take" (L2.defArgs s22) (L2.defBody s22) (L2.defScope s22) .none kV22 dc22 pm22 an22 cd22 ct22), sl22⟩) (d22 : PySem.W.codeIn K cd22 "Teller.take" = true) (k22 : PySem.W.keepIn K (.ref f22) = true)
    (q23 : PySem.W.isFn K (.ref f23) = true)
    (a23 : PySem.W.findIn K (.ref CL0) "place" = some (some (.ref f23))) (l23 : K.lookup f23 = some ⟨oc23, od23, .func (PySem.W.fnOf "place" "Teller.place" (L2.defArgs s23) (L2.defBody s23) (L2.defScope s23) .none kV23 dc23 pm23 an23 cd23 ct23), sl23⟩) (d23 : PySem.W.codeIn K cd23 "Teller.place" = true) (k23 : PySem.W.keepIn K (.ref f23) = true)
    (a24 : PySem.W.nsIn K mainGlobals "law" = some (some (.ref f24))) (l24 : K.lookup f24 = some ⟨oc24, od24, .func (PySem.W.fnOf "law" "law" (L2.defArgs s24) (L2.defBody s24) (L2.defScope s24) .none kV24 dc24 pm24 an24 cd24 ct24), sl24⟩) (d24 : PySem.W.codeIn K cd24 "law" = true) (k24 : PySem.W.keepIn K (.ref f24) = true)
    (z_abs : PySem.W.nsIn K mainGlobals "abs" = some none) (z_all : PySem.W.nsIn K mainGlobals "all" = some none) (z_any : PySem.W.nsIn K mainGlobals "any" = some none) (z_bool : PySem.W.nsIn K mainGlobals "bool" = some none) (z_enumerate : PySem.W.nsIn K mainGlobals "enumerate" = some none) (z_int : PySem.W.nsIn K mainGlobals "int" = some none) (z_isinstance : PySem.W.nsIn K mainGlobals "isinstance" = some none) (z_len : PySem.W.nsIn K mainGlobals "len" = some none) (z_list : PySem.W.nsIn K mainGlobals "list" = some none) (z_max : PySem.W.nsIn K mainGlobals "max" = some none) (z_min : PySem.W.nsIn K mainGlobals "min" = some none) (z_range : PySem.W.nsIn K mainGlobals "range" = some none) (z_repr : PySem.W.nsIn K mainGlobals "repr" = some none) (z_set : PySem.W.nsIn K mainGlobals "set" = some none) (z_sorted : PySem.W.nsIn K mainGlobals "sorted" = some none) (z_tuple : PySem.W.nsIn K mainGlobals "tuple" = some none) (z_zip : PySem.W.nsIn K mainGlobals "zip" = some none)
    {gt0 gt2 gt3 gt4 gm1 gt7 gt8 gm6 gt10 gt11 gm9 gt13 gt14 gm12 gt16 gt17 gm15 gm5 : Nat}
    {ga1 ga6 ga9 ga12 ga15 ga5 : Addr}
    {gs1 gs6 gs9 gs12 gs15 gs5 : Array (Option Value)}
    (g_APART : PySem.W.nsIn K mainGlobals "APART" = some (some (Value.int (2) gt0)))
    (gk1 : K.lookup ga1 = some ⟨.type "tuple", none, .seq #[(Value.int (-1) gt2), (Value.int (0) gt3), (Value.int (1) gt4)] gm1, gs1⟩)
    (g_STEPS : PySem.W.nsIn K mainGlobals "STEPS" = some (some (Value.ref ga1)))
    (gk6 : K.lookup ga6 = some ⟨.type "tuple", none, .seq #[(Value.int (0) gt7), (Value.int (0) gt8)] gm6, gs6⟩)
    (gk9 : K.lookup ga9 = some ⟨.type "tuple", none, .seq #[(Value.int (0) gt10), (Value.int (1) gt11)] gm9, gs9⟩)
    (gk12 : K.lookup ga12 = some ⟨.type "tuple", none, .seq #[(Value.int (1) gt13), (Value.int (1) gt14)] gm12, gs12⟩)
    (gk15 : K.lookup ga15 = some ⟨.type "tuple", none, .seq #[(Value.int (1) gt16), (Value.int (0) gt17)] gm15, gs15⟩)
    (gk5 : K.lookup ga5 = some ⟨.type "tuple", none, .seq #[(Value.ref ga6), (Value.ref ga9), (Value.ref ga12), (Value.ref ga15)] gm5, gs5⟩)
    (g_PHASES : PySem.W.nsIn K mainGlobals "PHASES" = some (some (Value.ref ga5)))
    : ∃ fd : FuncData, (∀ (s : Shared) (v : Value), BindsTo s fd ⟨[v], []⟩ [("_law_script", v)]) ∧ ∀ base : Heap, K.In base → base.Ns mainGlobals mg → LamB K base mg → FnG l.prog w K mg base 26 fa fd ["_law_script"] (spOf K spLaw) := by
  have e := hfa.symm.trans (PySem.W.mg_of X Gn a24)
  cases e
  have F0 := L2.fun_mk (st := s0) l0 d0 k0
  have F1 := L2.fun_mk (st := s1) l1 d1 k1
  have F2 := L2.fun_mk (st := s2) l2 d2 k2
  have F3 := L2.fun_mk (st := s3) l3 d3 k3
  have F4 := L2.fun_mk (st := s4) l4 d4 k4
  have F5 := L2.fun_mk (st := s5) l5 d5 k5
  have F6 := L2.fun_mk (st := s6) l6 d6 k6
  have F7 := L2.fun_mk (st := s7) l7 d7 k7
  have F8 := L2.fun_mk (st := s8) l8 d8 k8
  have F9 := L2.fun_mk (st := s9) l9 d9 k9
  have F10 := L2.fun_mk (st := s10) l10 d10 k10
  have F11 := L2.fun_mk (st := s11) l11 d11 k11
  have F12 := L2.fun_mk (st := s12) l12 d12 k12
  have F13 := L2.fun_mk (st := s13) l13 d13 k13
  have F14 := L2.fun_mk (st := s14) l14 d14 k14
  have F15 := L2.fun_mk (st := s15) l15 d15 k15
  have F16 := L2.fun_mk (st := s16) l16 d16 k16
  have F17 := L2.fun_mk (st := s17) l17 d17 k17
  have F18 := L2.fun_mk (st := s18) l18 d18 k18
  have F19 := L2.fun_mk (st := s19) l19 d19 k19
  have F20 := L2.fun_mk (st := s20) l20 d20 k20
  have F21 := L2.fun_mk (st := s21) l21 d21 k21
  have F22 := L2.fun_mk (st := s22) l22 d22 k22
  have F23 := L2.fun_mk (st := s23) l23 d23 k23
  have F24 := L2.fun_mk (st := s24) l24 d24 k24
  refine ⟨PySem.W.fnOf "law" "law" (L2.defArgs s24) (L2.defBody s24) (L2.defScope s24) .none kV24 dc24 pm24 an24 cd24 ct24, fun s v => .of_eq rfl, fun base _ _ LB => ?_⟩
  have t0 : Tab l.prog w K mg base 0 T0 G := Tab.none (fun j x h => by
    match j, h with
    | 0, h => cases h; exact ⟨_, V.int (2), PySem.W.mg_of X Gn g_APART, ⟨_, rfl⟩, (fun H η μ => show RV K H η μ (G.gl 0) (V.int (2)) from (.int _)), fun a e => nomatch e⟩
    | 1, h => cases h; exact ⟨_, V.ref ga1, PySem.W.mg_of X Gn g_STEPS, rfl, (fun H η μ => show RV K H η μ (G.gl 1) (V.ref ga1) from (.tup (xs := [V.int (-1), V.int (0), V.int (1)]) (.inr ⟨_, _, _, gk1, rfl, rfl, by show 3 ≤ sizeLine; decide, (.cons ⟨_, rfl⟩ (.cons ⟨_, rfl⟩ (.cons ⟨_, rfl⟩ .nil)))⟩) (.cons (.int _) (.cons (.int _) (.cons (.int _) .nil))))), fun a e => by cases e; exact ⟨_, gk1, rfl, rfl⟩⟩
    | 2, h => cases h; exact ⟨_, V.ref ga5, PySem.W.mg_of X Gn g_PHASES, rfl, (fun H η μ => show RV K H η μ (G.gl 2) (V.ref ga5) from (.tup (xs := [V.ref ga6, V.ref ga9, V.ref ga12, V.ref ga15]) (.inr ⟨_, _, _, gk5, rfl, rfl, by show 4 ≤ sizeLine; decide, (.cons rfl (.cons rfl (.cons rfl (.cons rfl .nil))))⟩) (.cons (.tup (xs := [V.int (0), V.int (0)]) (.inr ⟨_, _, _, gk6, rfl, rfl, by show 2 ≤ sizeLine; decide, (.cons ⟨_, rfl⟩ (.cons ⟨_, rfl⟩ .nil))⟩) (.cons (.int _) (.cons (.int _) .nil))) (.cons (.tup (xs := [V.int (0), V.int (1)]) (.inr ⟨_, _, _, gk9, rfl, rfl, by show 2 ≤ sizeLine; decide, (.cons ⟨_, rfl⟩ (.cons ⟨_, rfl⟩ .nil))⟩) (.cons (.int _) (.cons (.int _) .nil))) (.cons (.tup (xs := [V.int (1), V.int (1)]) (.inr ⟨_, _, _, gk12, rfl, rfl, by show 2 ≤ sizeLine; decide, (.cons ⟨_, rfl⟩ (.cons ⟨_, rfl⟩ .nil))⟩) (.cons (.int _) (.cons (.int _) .nil))) (.cons (.tup (xs := [V.int (1), V.int (0)]) (.inr ⟨_, _, _, gk15, rfl, rfl, by show 2 ≤ sizeLine; decide, (.cons ⟨_, rfl⟩ (.cons ⟨_, rfl⟩ .nil))⟩) (.cons (.int _) (.cons (.int _) .nil))) .nil)))))), fun a e => by cases e; exact ⟨_, gk5, rfl, rfl⟩⟩
    | j + 3, h => simp [gls] at h) (fun x hx => by
    simp only [bis, List.mem_cons, List.mem_nil_iff, or_false] at hx
    rcases hx with rfl | rfl | rfl | rfl | rfl | rfl | rfl | rfl | rfl | rfl | rfl | rfl | rfl | rfl | rfl | rfl | rfl
    · exact PySem.W.mg_none_of X Gn z_abs
    · exact PySem.W.mg_none_of X Gn z_all
    · exact PySem.W.mg_none_of X Gn z_any
    · exact PySem.W.mg_none_of X Gn z_bool
    · exact PySem.W.mg_none_of X Gn z_enumerate
    · exact PySem.W.mg_none_of X Gn z_int
    · exact PySem.W.mg_none_of X Gn z_isinstance
    · exact PySem.W.mg_none_of X Gn z_len
    · exact PySem.W.mg_none_of X Gn z_list
    · exact PySem.W.mg_none_of X Gn z_max
    · exact PySem.W.mg_none_of X Gn z_min
    · exact PySem.W.mg_none_of X Gn z_range
    · exact PySem.W.mg_none_of X Gn z_repr
    · exact PySem.W.mg_none_of X Gn z_set
    · exact PySem.W.mg_none_of X Gn z_sorted
    · exact PySem.W.mg_none_of X Gn z_tuple
    · exact PySem.W.mg_none_of X Gn z_zip) (fun c hc => by
    simp only [cls, List.mem_cons, List.mem_nil_iff, or_false] at hc
    rcases hc with rfl
    · refine ⟨CL0, aCL0, PySem.W.mg_of X Gn aCL0, ⟨pg0, hdd0, po0, sa0⟩, fun f hf => ?_, mk0, kc0, isc0, fun h => absurd h (by decide)⟩
      simp only [List.mem_cons, List.mem_nil_iff, or_false] at hf
      rcases hf with rfl | rfl | rfl | rfl
      · exact na0_0
      · exact na0_1
      · exact na0_2
      · exact na0_3)
  have g0 := fn_sound F0 sc0 t0 ok0 len0 body0 (fun h => absurd h (by decide)) (fun _ _ _ z => z)
  have t1 : Tab l.prog w K mg base 1 T1 G := t0.add (i := i0) g0 (hm_fun rfl (PySem.W.mg_of X Gn a0)) k0 (fun _ => kb_pos fun us hl => match us, hl with | [_, _], _ => rfl) (fun p hp => by cases hp)
  have g1 := fn_sound F1 sc1 t1 ok1 len1 body1 (fun h => absurd h (by decide)) (fun _ _ _ z => z)
  have t2 : Tab l.prog w K mg base 2 T2 G := t1.add (i := i1) g1 (hm_fun rfl (PySem.W.mg_of X Gn a1)) k1 (fun _ => kb_pos fun us hl => match us, hl with | [_, _], _ => rfl) (fun p hp => by cases hp)
  have g2 := fn_sound F2 sc2 t2 ok2 len2 body2 (fun h => absurd h (by decide)) (fun _ _ _ z => z)
  have t3 : Tab l.prog w K mg base 3 T3 G := t2.add (i := i2) g2 (hm_fun rfl (PySem.W.mg_of X Gn a2)) k2 (fun _ => kb_pos fun us hl => match us, hl with | [_, _], _ => rfl) (fun p hp => by cases hp)
  have g3 := fn_sound F3 sc3 t3 ok3 len3 body3 (fun h => absurd h (by decide)) (fun _ _ _ z => z)
  have t4 : Tab l.prog w K mg base 4 T4 G := t3.add (i := i3) g3 (hm_fun rfl (PySem.W.mg_of X Gn a3)) k3 (fun _ => kb_pos fun us hl => match us, hl with | [_, _], _ => rfl) (fun p hp => by cases hp)
  have g4 := fn_sound F4 sc4 t4 ok4 len4 body4 (fun h => absurd h (by decide)) (fun _ _ _ z => z)
  have t5 : Tab l.prog w K mg base 5 T5 G := t4.add (i := i4) g4 (hm_fun rfl (PySem.W.mg_of X Gn a4)) k4 (fun _ => kb_pos fun us hl => match us, hl with | [_, _, _], _ => rfl) (fun p hp => by cases hp)
  have g5 := fn_sound F5 sc5 t5 ok5 len5 body5 (fun h => absurd h (by decide)) (fun _ _ _ z => z)
  have t6 : Tab l.prog w K mg base 6 T6 G := t5.add (i := i5) g5 (hm_fun rfl (PySem.W.mg_of X Gn a5)) k5 (fun _ => kb_pos fun us hl => match us, hl with | [_, _, _, _], _ => rfl) (fun p hp => by cases hp)
  have g6 := fn_sound F6 sc6 t6 ok6 len6 body6 (fun h => absurd h (by decide)) (fun _ _ _ z => z)
  have t7 : Tab l.prog w K mg base 7 T7 G := t6.add (i := i6) g6 (hm_meth rfl aCL0 a6 q6 k6) k6 (fun _ => kb_pos fun us hl => match us, hl with | [_], _ => rfl) (fun p hp => by cases hp)
  have g7 := fn_sound F7 sc7 t7 ok7 len7 body7 (fun h => absurd h (by decide)) (fun _ _ _ z => z)
  have t8 : Tab l.prog w K mg base 8 T8 G := t7.add (i := i7) g7 (hm_fun rfl (PySem.W.mg_of X Gn a7)) k7 (fun _ => kb_pos fun us hl => match us, hl with | [_], _ => rfl) (fun p hp => by cases hp)
  have g8 := fn_sound F8 sc8 t8 ok8 len8 body8 (fun h => absurd h (by decide)) (fun _ _ _ z => z)
  have t9 : Tab l.prog w K mg base 9 T9 G := t8.add (i := i8) g8 (hm_fun rfl (PySem.W.mg_of X Gn a8)) k8 (fun _ => kb_pos fun us hl => match us, hl with | [_, _, _, _], _ => rfl) (fun p hp => by cases hp)
  have g9 := fn_sound F9 sc9 t9 ok9 len9 body9 (fun h => absurd h (by decide)) (fun _ _ _ z => z)
  have t10 : Tab l.prog w K mg base 10 T10 G := t9.add (i := i9) g9 (hm_fun rfl (PySem.W.mg_of X Gn a9)) k9 (fun _ => kb_pos fun us hl => match us, hl with | [_, _, _], _ => rfl) (fun p hp => by cases hp)
  have g10 := fn_sound F10 sc10 t10 ok10 len10 body10 (fun h => absurd h (by decide)) (fun _ _ _ z => z)
  have t11 : Tab l.prog w K mg base 11 T11 G := t10.add (i := i10) g10 (hm_fun rfl (PySem.W.mg_of X Gn a10)) k10 (fun _ => kb_pos fun us hl => match us, hl with | [_], _ => rfl) (fun p hp => by cases hp)
  have g11 := fn_sound F11 sc11 t11 ok11 len11 body11 (fun h => absurd h (by decide)) (fun _ _ _ z => z)
  have t12 : Tab l.prog w K mg base 13 T12 G := t11.add (i := i11) g11 (hm_meth rfl aCL0 a11 q11 k11) k11 (fun _ => kb_pos fun us hl => match us, hl with | [_, _, _], _ => rfl) (fun p hp => by cases hp)
  have g12 := fn_sound F12 sc12 t12 ok12 len12 body12 (fun h => absurd h (by decide)) (fun _ _ _ z => z)
  have t13 : Tab l.prog w K mg base 14 T13 G := t12.add (i := i12) g12 (hm_fun rfl (PySem.W.mg_of X Gn a12)) k12 (fun _ => kb_pos fun us hl => match us, hl with | [_, _, _], _ => rfl) (fun p hp => by cases hp)
  have g13 := fn_sound F13 sc13 t13 ok13 len13 body13 (fun h => absurd h (by decide)) (fun _ _ _ z => z)
  have t14 : Tab l.prog w K mg base 15 T14 G := t13.add (i := i13) g13 (hm_fun rfl (PySem.W.mg_of X Gn a13)) k13 (fun _ => kb_pos fun us hl => match us, hl with | [_, _, _], _ => rfl) (fun p hp => by cases hp)
  have g14 := fn_sound F14 sc14 t14 ok14 len14 body14 (fun h => absurd h (by decide)) (fun _ _ _ z => z)
  have t15 : Tab l.prog w K mg base 16 T15 G := t14.add (i := i14) g14 (hm_fun rfl (PySem.W.mg_of X Gn a14)) k14 (fun _ => kb_pos fun us hl => match us, hl with | [_, _, _], _ => rfl) (fun p hp => by cases hp)
  have g15 := fn_sound F15 sc15 t15 ok15 len15 body15 (fun h => absurd h (by decide)) (fun _ _ _ z => z)
  have t16 : Tab l.prog w K mg base 17 T16 G := t15.add (i := i15) g15 (hm_fun rfl (PySem.W.mg_of X Gn a15)) k15 (fun _ => kb_pos fun us hl => match us, hl with | [_, _, _], _ => rfl) (fun p hp => by cases hp)
  have g16 := fn_sound F16 sc16 t16 ok16 len16 body16 (fun h => absurd h (by decide)) (fun _ _ _ z => z)
  have t17 : Tab l.prog w K mg base 18 T17 G := t16.add (i := i16) g16 (hm_meth rfl aCL0 a16 q16 k16) k16 (fun _ => kb_pos fun us hl => match us, hl with | [_, _], _ => rfl) (fun p hp => by cases hp)
  have g17 := fn_sound F17 sc17 t17 ok17 len17 body17 (fun h => absurd h (by decide)) (fun _ _ _ z => z)
  have t18 : Tab l.prog w K mg base 19 T18 G := t17.add (i := i17) g17 (hm_fun rfl (PySem.W.mg_of X Gn a17)) k17 (fun _ => kb_pos fun us hl => match us, hl with | [_], _ => rfl) (fun p hp => by cases hp)
  have g18 := fn_sound F18 sc18 t18 ok18 len18 body18 (fun h => absurd h (by decide)) (fun _ _ _ z => z)
  have t19 : Tab l.prog w K mg base 20 T19 G := t18.add (i := i18) g18 (hm_meth rfl aCL0 a18 q18 k18) k18 (fun _ => kb_pos fun us hl => match us, hl with | [_, _], _ => rfl) (fun p hp => by cases hp)
  have g19 := fn_sound F19 sc19 t19 ok19 len19 body19 (fun h => absurd h (by decide)) (fun _ _ _ z => z)
  have t20 : Tab l.prog w K mg base 21 T20 G := t19.add (i := i19) g19 (hm_fun rfl (PySem.W.mg_of X Gn a19)) k19 (fun _ => kb_pos fun us hl => match us, hl with | [_], _ => rfl) (fun p hp => by cases hp)
  have g20 := fn_sound F20 sc20 t20 ok20 len20 body20 (fun h => absurd h (by decide)) (fun _ _ _ z => z)
  have t21 : Tab l.prog w K mg base 22 T21 G := t20.add (i := i20) g20 (hm_fun rfl (PySem.W.mg_of X Gn a20)) k20 (fun _ => kb_pos fun us hl => match us, hl with | [_, _, _, _], _ => rfl) (fun p hp => by cases hp)
  have g21 := fn_sound F21 sc21 t21 ok21 len21 body21 (fun h => absurd h (by decide)) (fun _ _ _ z => z)
  have t22 : Tab l.prog w K mg base 23 T22 G := t21.add (i := i21) g21 (hm_fun rfl (PySem.W.mg_of X Gn a21)) k21 (fun _ => kb_pos fun us hl => match us, hl with | [_, _, _, _], _ => rfl) (fun p hp => by cases hp)
  have g22 := fn_sound F22 sc22 t22 ok22 len22 body22 (fun h => absurd h (by decide)) (fun _ _ _ z => z)
  have t23 : Tab l.prog w K mg base 24 T23 G := t22.add (i := i22) g22 (hm_meth rfl aCL0 a22 q22 k22) k22 (fun _ => kb_pos fun us hl => match us, hl with | [_, _], _ => rfl) (fun p hp => by cases hp)
  have g23 := fn_sound F23 sc23 t23 ok23 len23 body23 (fun h => absurd h (by decide)) (fun _ _ _ z => z)
  have t24 : Tab l.prog w K mg base 25 T24 G := t23.add (i := i23) g23 (hm_meth rfl aCL0 a23 q23 k23) k23 (fun _ => kb_pos fun us hl => match us, hl with | [_], _ => rfl) (fun p hp => by cases hp)
  have g24 := fn_sound F24 sc24 t24 ok24 len24 body24 (fun h => absurd h (by decide)) (fun _ _ _ z => z)
  exact g24
end Law_k07
open PySem PySem.W PyProof.Rows
set_option maxHeartbeats 0 in
theorem PySem.Challenge.cw_drivenwheels_k07_whole_fits_by_own_state_holds : PySem.Challenge.rw_drivenwheels_k07_whole_fits_by_own_state.Holds := by
  w_on; o_law; k_head; (case hw => w_witness2)
  k_fill
  refine DL.walk_law (l := PySem.Challenge.rw_drivenwheels_k07_whole_fits_by_own_state) (k := 26) (x := "_law_script") rfl rfl ⟨rfl, by decide, by decide⟩ (fun w h Y => ⟨PySem.W.kIn_of Y, DL.tabKn_none (by kernel_rfl)⟩) ?F
  case F =>
    intro w mg fa h KX Gn hmg
    refine' Law_k07.all_mk KX Gn hmg ?aCL0 ?pg0 ?hdd0 ?po0 ?sa0 ?mk0 ?kc0 ?isc0 ?na0_0 ?na0_1 ?na0_2 ?na0_3 ?a0 ?l0 ?d0 ?k0 ?a1 ?l1 ?d1 ?k1 ?a2 ?l2 ?d2 ?k2 ?a3 ?l3 ?d3 ?k3 ?a4 ?l4 ?d4 ?k4 ?a5 ?l5 ?d5 ?k5 ?q6 ?a6 ?l6 ?d6 ?k6 ?a7 ?l7 ?d7 ?k7 ?a8 ?l8 ?d8 ?k8 ?a9 ?l9 ?d9 ?k9 ?a10 ?l10 ?d10 ?k10 ?q11 ?a11 ?l11 ?d11 ?k11 ?a12 ?l12 ?d12 ?k12 ?a13 ?l13 ?d13 ?k13 ?a14 ?l14 ?d14 ?k14 ?a15 ?l15 ?d15 ?k15 ?q16 ?a16 ?l16 ?d16 ?k16 ?a17 ?l17 ?d17 ?k17 ?q18 ?a18 ?l18 ?d18 ?k18 ?a19 ?l19 ?d19 ?k19 ?a20 ?l20 ?d20 ?k20 ?a21 ?l21 ?d21 ?k21 ?q22 ?a22 ?l22 ?d22 ?k22 ?q23 ?a23 ?l23 ?d23 ?k23 ?a24 ?l24 ?d24 ?k24 ?z_abs ?z_all ?z_any ?z_bool ?z_enumerate ?z_int ?z_isinstance ?z_len ?z_list ?z_max ?z_min ?z_range ?z_repr ?z_set ?z_sorted ?z_tuple ?z_zip ?g_APART ?gk1 ?g_STEPS ?gk6 ?gk9 ?gk12 ?gk15 ?gk5 ?g_PHASES
    (case aCL0 => k_is); (case pg0 => k_is); (case hdd0 => k_is); (case po0 => k_is); (case sa0 => k_is); (case mk0 => k_is); (case kc0 => k_is); (case isc0 => first | kernel_rfl | rfl | (decide +kernel)); (case na0_0 => k_is); (case na0_1 => k_is); (case na0_2 => k_is); (case na0_3 => k_is); (case a0 => k_is); (case l0 => k_is); (case d0 => k_is); (case k0 => k_is); (case a1 => k_is); (case l1 => k_is); (case d1 => k_is); (case k1 => k_is); (case a2 => k_is); (case l2 => k_is); (case d2 => k_is); (case k2 => k_is); (case a3 => k_is); (case l3 => k_is); (case d3 => k_is); (case k3 => k_is); (case a4 => k_is); (case l4 => k_is); (case d4 => k_is); (case k4 => k_is); (case a5 => k_is); (case l5 => k_is); (case d5 => k_is); (case k5 => k_is); (case a6 => k_is); (case l6 => k_is); (case d6 => k_is); (case k6 => k_is); (case a7 => k_is); (case l7 => k_is); (case d7 => k_is); (case k7 => k_is); (case a8 => k_is); (case l8 => k_is); (case d8 => k_is); (case k8 => k_is); (case a9 => k_is); (case l9 => k_is); (case d9 => k_is); (case k9 => k_is); (case a10 => k_is); (case l10 => k_is); (case d10 => k_is); (case k10 => k_is); (case a11 => k_is); (case l11 => k_is); (case d11 => k_is); (case k11 => k_is); (case a12 => k_is); (case l12 => k_is); (case d12 => k_is); (case k12 => k_is); (case a13 => k_is); (case l13 => k_is); (case d13 => k_is); (case k13 => k_is); (case a14 => k_is); (case l14 => k_is); (case d14 => k_is); (case k14 => k_is); (case a15 => k_is); (case l15 => k_is); (case d15 => k_is); (case k15 => k_is); (case a16 => k_is); (case l16 => k_is); (case d16 => k_is); (case k16 => k_is); (case a17 => k_is); (case l17 => k_is); (case d17 => k_is); (case k17 => k_is); (case a18 => k_is); (case l18 => k_is); (case d18 => k_is); (case k18 => k_is); (case a19 => k_is); (case l19 => k_is); (case d19 => k_is); (case k19 => k_is); (case a20 => k_is); (case l20 => k_is); (case d20 => k_is); (case k20 => k_is); (case a21 => k_is); (case l21 => k_is); (case d21 => k_is); (case k21 => k_is); (case a22 => k_is); (case l22 => k_is); (case d22 => k_is); (case k22 => k_is); (case a23 => k_is); (case l23 => k_is); (case d23 => k_is); (case k23 => k_is); (case a24 => k_is); (case l24 => k_is); (case d24 => k_is); (case k24 => k_is); (case z_abs => k_is); (case z_all => k_is); (case z_any => k_is); (case z_bool => k_is); (case z_enumerate => k_is); (case z_int => k_is); (case z_isinstance => k_is); (case z_len => k_is); (case z_list => k_is); (case z_max => k_is); (case z_min => k_is); (case z_range => k_is); (case z_repr => k_is); (case z_set => k_is); (case z_sorted => k_is); (case z_tuple => k_is); (case z_zip => k_is); (case q6 => k_is); (case q11 => k_is); (case q16 => k_is); (case q18 => k_is); (case q22 => k_is); (case q23 => k_is); (case g_PHASES => k_is); (case gk5 => k_is); (case gk15 => k_is); (case gk12 => k_is); (case gk9 => k_is); (case gk6 => k_is); (case g_STEPS => k_is); (case gk1 => k_is); (case g_APART => k_is)
