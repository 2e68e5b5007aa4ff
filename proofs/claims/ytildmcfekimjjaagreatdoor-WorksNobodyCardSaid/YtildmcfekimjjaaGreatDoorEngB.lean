/- The laws of single operations of the evaluator, second part: each operation that the evaluator performs is one of the model's, in any world for which the abstract heap stands. No condition. -/
import Derived.Test.YtildmcfekimjjaaGreatDoorEngA
import Derived.Laws.MakeOwn
import Derived.Laws.RangeString
import Derived.Laws.Externs

/- THE ENGINE: operations, the tenth part: aggregates and slices that are built or made. -/
namespace Go.AX
set_option linter.unusedSimpArgs false
set_option linter.unusedVariables false

variable {P : Program} {φ : Phi} {h : Hp} {w : World}

theorem foldl_over : ∀ (vs : List Value) (k : Nat) (cs : Array Value) (off : Nat), (vs.zipIdx k).foldl (fun cs (c, j) => cs.setIfInBounds (off + j) c) cs = overA cs (off + k) vs := by
  intro vs
  induction vs with
  | nil => intro k cs off; rfl
  | cons v t ih =>
    intro k cs off
    rw [List.zipIdx_cons, List.foldl_cons, ih]
    rfl

theorem fill_cons {place : Nat → Option (Nat × Nat)} {cells : Array Value} {i : Nat} {v : Value} {rest : List (Nat × Value)} {off size : Nat} (hp : place i = some (off, size))
    (h1 : v.cells.size = size) (h2 : off + size ≤ cells.size) : Instr.fill place cells ((i, v) :: rest) = Instr.fill place (overA cells off v.cells.toList) rest := by
  have e : v.cells.zipIdx.foldl (fun cs (c, j) => cs.setIfInBounds (off + j) c) cells = overA cells off v.cells.toList := by
    have := foldl_over v.cells.toList 0 cells off
    rw [Nat.add_zero] at this
    rw [← this, ← Array.foldl_toList]
    simp
  have h3 : ¬ off + size > cells.size := by omega
  conv => lhs; rw [Instr.fill]
  simp only [hp, h1, h3, ne_eq, not_true_eq_false, decide_false, Bool.or_false, Bool.false_eq_true, if_false]
  rw [← e]

theorem VRels.over {cs : List AV} {c : Array Value} (hc : VRels φ cs c.toList) {vs : List AV} {cv : List Value} (hv : VRels φ vs cv) {off : Nat} (hle : off + vs.length ≤ cs.length) :
    VRels φ (overL off vs cs) (overA c off cv).toList := by
  rw [overL_eq _ _ _ (by omega)]
  have hl := hv.length
  have hcl := hc.length
  have e : (overA c off cv).toList = c.toList.take off ++ cv ++ c.toList.drop (off + cv.length) := by
    have hsz : c.toList.length = c.size := Array.length_toList
    apply List.ext_getElem?
    intro i
    rw [Array.getElem?_toList, overA_get _ _ _ _ (by omega)]
    by_cases h1 : i < off
    · rw [if_neg (by omega), List.append_assoc, List.getElem?_append_left (by rw [List.length_take]; omega), List.getElem?_take, if_pos h1, Array.getElem?_toList]
    · by_cases h2 : i < off + cv.length
      · rw [if_pos ⟨by omega, h2⟩, List.append_assoc, List.getElem?_append_right (by rw [List.length_take]; omega), List.length_take, show min off c.toList.length = off by omega,
          List.getElem?_append_left (by omega)]
      · rw [if_neg (by omega), List.getElem?_append_right (by rw [List.length_append, List.length_take]; omega), List.getElem?_drop, Array.getElem?_toList]
        congr 1
        rw [List.length_append, List.length_take]; omega
  rw [e, hl]
  exact ((hc.take off).append hv).append (hc.drop _)

theorem overL_len {cs vs : List AV} {off : Nat} (hle : off + vs.length ≤ cs.length) : (overL off vs cs).length = cs.length := by
  rw [overL_eq _ _ _ (by omega)]; simp; omega

theorem overL_mem {cs vs : List AV} {off : Nat} (hle : off + vs.length ≤ cs.length) {v : AV} (hv : v ∈ overL off vs cs) : v ∈ cs ∨ v ∈ vs := by
  rw [overL_eq _ _ _ (by omega)] at hv
  simp only [List.mem_append] at hv
  rcases hv with (h | h) | h
  · exact .inl (List.mem_of_mem_take h)
  · exact .inr h
  · exact .inl (List.mem_of_mem_drop h)

/-- The parts of an aggregate. -/
theorem parts_ok {T : Cx} {tm : PT AV} {c : Array Value} (ht : TmRel φ T.n tm c) (hg : GlobOk φ T.g) {place : Nat → Option (Nat × Bool × Nat)} {place' : Nat → Option (Nat × Nat)}
    (hp : ∀ i off ag n, place i = some (off, ag, n) → place' i = some (off, n)) : ∀ (ps : List (Nat × Operand)) (l : List (Nat × Bool × Nat × AO)) (cs out : List AV) (cells : Array Value),
    partsOf T place ps = some l → layParts tm l cs = some out → VRels φ cs cells.toList → (∀ v, v ∈ cs → isCell v = true) →
    ∃ res, Instr.fill place' cells (ps.map fun (i, x) => (i, evalC c x)) = some res ∧ VRels φ out res.toList ∧ out.length = cs.length ∧ ∀ v, v ∈ out → isCell v = true := by
  intro ps
  induction ps with
  | nil =>
    intro l cs out cells hl ho hc hk
    cases hl; cases ho
    exact ⟨cells, rfl, hc, rfl, hk⟩
  | cons p r ih =>
    intro l cs out cells hl ho hc hk
    obtain ⟨i, x⟩ := p
    unfold partsOf at hl
    split at hl
    · rename_i off ag n a l' h1 h2 h3
      cases hl
      have ho : layStep tm (off, ag, n, a) (layParts tm l') cs = some out := ho
      unfold layStep at ho
      simp only [] at ho
      split at ho
      · rename_i vs hvs
        obtain ⟨hle, ho⟩ := bif_some ho
        have hle : off + n ≤ cs.length := by have := natble.1 hle; rw [lenL_eq] at this; exact this
        obtain ⟨fa, e1, hfa, hn, hk'⟩ := cellsAs_ok (cO_rel h2 ht hg) hvs
        have hsz : (evalC c x).cells.size = n := by rw [e1]; simp [← hfa.length, hn]
        have hcl := hc.length
        have hcl' : cells.toList.length = cells.size := Array.length_toList
        obtain ⟨res, g1, g2, g3, g4⟩ := ih l' (overL off vs cs) out (overA cells off (evalC c x).cells.toList) h3 ho (hc.over (by rw [e1]; simpa using hfa) (by rw [hn]; exact hle))
          (fun v hv => (overL_mem (by rw [hn]; exact hle) hv).elim (hk v) (hk' v))
        refine ⟨res, ?_, g2, by rw [g3, overL_len (by rw [hn]; exact hle)], g4⟩
        rw [List.map_cons, fill_cons (hp _ _ _ _ h1) hsz (by omega)]
        exact g1
      · cases ho
    · cases hl

theorem run_mapM_places {T : Cx} (hT : TabOk P T.types) (fs : Array Field) (hk : allL (fun f => known T f.type) fs.toList = true) (w : World) :
    (fs.mapM (m := Sem) fun f => do pure (f.offset, ← sizeOf f.type)).run P w = .ok (fs.map fun f => (f.offset, sizeT T f.type)) w := by
  rw [allL_eq] at hk
  rw [Array.mapM_eq_mapM_toList]
  have key : ∀ (l : List Field), l.all (fun f => known T f.type) = true → (l.mapM (m := Sem) fun f => do pure (f.offset, ← sizeOf f.type)).run P w = .ok (l.map fun f => (f.offset, sizeT T f.type)) w := by
    intro l
    induction l with
    | nil => intro _; simp
    | cons f t ih =>
      intro hl
      simp only [List.all_cons, Bool.and_eq_true] at hl
      obtain ⟨ti, ht⟩ := known_ok hl.1
      have h1 := run_size_known hT ht w
      simp only [List.mapM_cons, Sem.run_bind, h1, Result.andThen, Sem.run_pure, ih hl.2, List.map_cons]
  have := key fs.toList hk
  simp only [Sem.run_map, this, Result.andThen]
  congr 1
  apply Array.ext'
  simp


section build
variable {T : Cx} (hT : TabOk P T.types)
include hT

theorem zrel {t : TypeId} {z : List AV} (hz : zcells T t = some z) (φ : Phi) (w : World) : ∃ zv, (zeroValue t).run P w = .ok zv w ∧ VRels φ z zv.cells.toList ∧ z.length = sizeT T t ∧ sizeT T t ≠ 0 ∧ (∀ v, v ∈ z → isCell v = true) := by
  obtain ⟨ti, zv, ht, hzz, hall, hsz, hne, rfl⟩ := zcells_ok hz
  exact ⟨zv, run_zero_of hT ht hzz w, ofCs_rel φ hall, by simp [hsz], hne, fun v hv => by
    obtain ⟨u, hu, rfl⟩ := List.mem_map.1 hv
    exact ofC_cell (List.all_eq_true.1 hall u hu)⟩

theorem build_ok {t : TypeId} {ps : List (Nat × Operand)} {tm : PT AV} {c : Array Value} (ht : TmRel φ T.n tm c) (hg : GlobOk φ T.g) (hr : Rel φ h w) {p : ANext × Hp} (hv : opV (cBuild T t ps) tm h = some p) :
    ∃ v, p = (.value v, h) ∧ POk P (Instr.build t (ps.map fun (i, x) => (i, evalC c x)).toArray) φ w v := by
  unfold cBuild at hv
  split at hv
  · rename_i z hz
    obtain ⟨zv, hz1, hz2, hz3, hz4, hz5⟩ := zrel hT hz φ w
    split at hv
    · rename_i fs hu
      have hue := run_und hT hu (by intro e; cases e) w
      split at hv
      · rename_i l hl
        cases hk : allL (fun f => known T f.type) fs.toList with
        | false => rw [hk] at hv; exact (inv_bad hv).elim
        | true =>
          rw [hk] at hv
          simp only [cond_true] at hv
          have hv : r_bld (sizeT T t) z l tm h = some p := hv
          unfold r_bld at hv
          split at hv
          · rename_i out ho
            cases hv
            obtain ⟨res, g1, g2, g3, g4⟩ := parts_ok ht hg (place' := ((fs.map fun f => (f.offset, sizeT T f.type))[·]?)) (by
              intro i off ag n hp
              simp only [Option.map_eq_some_iff] at hp
              obtain ⟨f, hf, e⟩ := hp
              cases e
              simp [hf]) ps l z out zv.cells hl ho hz2 hz5
            refine ⟨_, rfl, .agg res, ?_, .agg (by rw [g3, hz3]) g4 g2⟩
            simp only [Instr.build, Sem.run_bind, hz1, Result.andThen, hue, run_mapM_places hT fs hk w, g1, Sem.run_pure]
          · cases hv
      · exact (inv_bad hv).elim
    · rename_i n e hu
      have hue := run_und hT hu (by intro e; cases e) w
      split at hv
      · rename_i l hl
        cases hk : known T e with
        | false => rw [hk] at hv; exact (inv_bad hv).elim
        | true =>
          rw [hk] at hv
          simp only [cond_true] at hv
          have hv : r_bld (sizeT T t) z l tm h = some p := hv
          obtain ⟨ti, hti⟩ := known_ok hk
          have hsz := run_size_known hT hti w
          unfold r_bld at hv
          split at hv
          · rename_i out ho
            cases hv
            obtain ⟨res, g1, g2, g3, g4⟩ := parts_ok ht hg (place' := fun i => some (i * sizeT T e, sizeT T e)) (by
              intro i off ag n hp
              cases hp; rfl) ps l z out zv.cells hl ho hz2 hz5
            refine ⟨_, rfl, .agg res, ?_, .agg (by rw [g3, hz3]) g4 g2⟩
            simp only [Instr.build, Sem.run_bind, hz1, Result.andThen, hue, hsz, g1, Sem.run_pure]
          · cases hv
      · exact (inv_bad hv).elim
    · exact (inv_bad hv).elim
  · exact (inv_bad hv).elim
end build

/-! Slices of zeros -/
theorem made_get {z : Array Value} {n s i j : Nat} (hs : z.size = s) (hi : i < n) (hj : j < s) : (madeCells z (n * s))[i * s + j]? = z[j]? := by
  have hin := mul_lt_of (s := s) hi (Nat.le_refl s)
  have hlt : i * s + j < n * s := by omega
  have hm : (i * s + j) % s = j := by rw [Nat.mul_comm, Nat.mul_add_mod, Nat.mod_eq_of_lt hj]
  unfold madeCells
  rw [Array.getElem?_map]
  simp [hlt, hs, hm]
  rw [getElem!_pos z j (by omega), getElem?_pos z j (by omega)]

theorem CRel.zeros {z : List AV} {zv : Array Value} {n s : Nat} (hz : VRels φ z zv.toList) (hl : z.length = s) (hs : 0 < s) (hn : n ≤ 1048576) (hk : ∀ v, v ∈ z → isCell v = true) (b : Nat) :
    CRel φ n s z .leaf false .no ⟨b, 0, 0, 0⟩ (madeCells zv (n * s)) (0, 0) := by
  have hch : ∀ i, chunk z .leaf i = z := fun i => by unfold chunk; rw [PT.get_leaf]
  have hzl := hz.length
  have hzs : zv.size = s := by rw [← Array.length_toList, ← hzl, hl]
  refine ⟨hn, hs, fun i hi => by rw [hch, hl], fun i hi j v hv => ?_, fun i hi v hv => ?_, rfl, fun _ => ⟨rfl, by simp [madeCells]⟩, fun ho => by cases ho⟩
  · rw [hch] at hv
    have hj : j < s := by
      rw [← hl]
      rcases Nat.lt_or_ge j z.length with h | h
      · exact h
      · rw [List.getElem?_eq_none h] at hv; cases hv
    obtain ⟨y, hy, hr⟩ := hz.get hv
    refine ⟨y, ?_, hr⟩
    show (madeCells zv (n * s))[0 + (i * s + j)]? = some y
    rw [Nat.zero_add, made_get hzs hi hj, ← hy, Array.getElem?_toList]
  · rw [hch] at hv; exact hk v hv

theorem newZ_ok (hr : Rel φ h w) {n s : Nat} {z : List AV} {cs : PT (List AV)} {c : Array Value} (hc : CRel φ n s z cs false .no ⟨w.heap.size, 0, 0, 0⟩ c (0, 0)) {l : Nat} (hl : l ≤ n) (e : TypeId) :
    ∃ φ', Rel φ' (h.new (.cells n s z cs e false .no)) (World.push w (.cells c e)) ∧ Ext φ h w φ' (h.new (.cells n s z cs e false .no)) (World.push w (.cells c e)) ∧
      VRel φ' (.slc h.next 0 l n) (.slice (some ⟨w.heap.size, 0, none⟩) l n) := by
  have hle : φ.le (φ.add h.next ⟨w.heap.size, 0, 0, 0⟩) := Phi.le_add _ (hr.fresh _ (Nat.le_refl _))
  obtain ⟨r1, r2⟩ := hr.new (o' := .cells n s z cs e false .no) ⟨w.heap.size, 0, 0, 0⟩ rfl (X := .cells c e) ⟨c, (0, 0), rfl, hc.mono hle⟩
  exact ⟨_, r1, r2, .slc (l := ⟨w.heap.size, 0, 0, 0⟩) (Phi.add_same _ _ _) hl⟩

theorem makeSlice_ok {T : Cx} (hT : TabOk P T.types) {t e : TypeId} (hu : undT T t = .slice e) {z : List AV} (hz : zcells T e = some z) (hb : bytesT T e ≤ 1048576) (hr : Rel φ h w) {x y v : AV} {cx cy : Value}
    (hx : VRel φ x cx) (hy : VRel φ y cy) {h' : Hp} (hv : fMkS e (sizeT T e) z x y h = some (v, h')) : VOk P (Instr.makeSlice t cx cy) φ h w v h' := by
  obtain ⟨ti, zv, ht, hzz, hall, hsz, hne, rfl⟩ := zcells_ok hz
  unfold fMkS at hv
  split at hv
  · split at hv
    · rename_i l _ c
      obtain ⟨hcond, hv⟩ := bif_some hv
      cases hv
      simp only [Bool.and_eq_true] at hcond
      have h1 := natble.1 hcond.1
      have h2 := natble.1 hcond.2
      rw [hx.int_inv, hy.int_inv]
      have hi := (tinf_ok hT ht).1
      have hs : ti.info.size = sizeT T e := by unfold sizeT; rw [ht]
      have hb' : ti.info.bytes ≤ 1048576 := by unfold bytesT at hb; rw [ht] at hb; exact hb
      have hbc : (ti.info.bytes : Int) * Int.ofNat c ≤ 281474976710656 := by
        have := Nat.mul_le_mul hb' h2
        have h3 : ((ti.info.bytes * c : Nat) : Int) ≤ ((1048576 * 1048576 : Nat) : Int) := Int.ofNat_le.2 this
        rw [Int.natCast_mul] at h3
        have h4 : ((1048576 * 1048576 : Nat) : Int) ≤ 281474976710656 := by decide
        exact Int.le_trans h3 h4
      have hrun := run_make (P := P) w t e ti.info zv (und_ok hT hu (by intro e; cases e)) hi hzz .i64 .i64 (Int.ofNat l) (Int.ofNat c) (Int.natCast_nonneg l) (Int.ofNat_le.2 h1) hbc (by
        show (c : Int) ≤ _; omega)
      have e1 : (Int.ofNat c).toNat = c := rfl
      have e2 : (Int.ofNat l).toNat = l := rfl
      rw [e1, e2, hs] at hrun
      obtain ⟨φ', r1, r2, r3⟩ := newZ_ok hr (CRel.zeros (ofCs_rel φ hall) (s := sizeT T e) (by simp [hsz]) (Nat.pos_of_ne_zero hne) h2 (fun v hv => by
        obtain ⟨u, hu, rfl⟩ := List.mem_map.1 hv
        exact ofC_cell (List.all_eq_true.1 hall u hu)) w.heap.size) h1 e
      exact ⟨_, _, φ', hrun, r1, r2, r3⟩
    · cases hv
  · cases hv

end Go.AX

/- THE ENGINE: operations, the eleventh part: slices built of elements; append, copy. -/
namespace Go.AX
set_option linter.unusedSimpArgs false
set_option linter.unusedVariables false

variable {P : Program} {φ : Phi} {h : Hp} {w : World}

theorem elems_ok {T : Cx} {tm : PT AV} {c0 : Array Value} (ht : TmRel φ T.n tm c0) (hg : GlobOk φ T.g) {s len : Nat} {ag : Bool} {z : List AV} {b : Nat} : ∀ (ps : List (Nat × Operand)) (l : List (Nat × Bool × Nat × AO))
    (cs out : PT (List AV)) (c : Array Value), partsOf T (fun i => some (i, ag, s)) ps = some l → layElems tm s len (l.map fun (i, a, _, x) => (i, a, x)) cs = some out →
    CRel φ len s z cs false .no ⟨b, 0, 0, 0⟩ c (0, 0) →
    ∃ res, Instr.fill (fun i => some (i * s, s)) c (ps.map fun (i, x) => (i, evalC c0 x)) = some res ∧ CRel φ len s z out false .no ⟨b, 0, 0, 0⟩ res (0, 0) := by
  intro ps
  induction ps with
  | nil =>
    intro l cs out c hl ho hc
    cases hl; cases ho
    exact ⟨c, rfl, hc⟩
  | cons p r ih =>
    intro l cs out c hl ho hc
    obtain ⟨i, x⟩ := p
    unfold partsOf at hl
    split at hl
    · rename_i off ag' n a l' h1 h2 h3
      cases h1
      cases hl
      have ho : layElem tm s len (i, ag, a) (layElems tm s len (l'.map fun (i, a, _, x) => (i, a, x))) cs = some out := ho
      unfold layElem at ho
      simp only [] at ho
      split at ho
      · rename_i vs hvs
        obtain ⟨hlt, ho⟩ := bif_some ho
        have hlt := natblt.1 hlt
        obtain ⟨fa, e1, hfa, hn, hk'⟩ := cellsAs_ok (cO_rel h2 ht hg) hvs
        have hsz : (evalC c0 x).cells.size = s := by rw [e1]; simp [← hfa.length, hn]
        have hlen := hc.len i hlt
        have hnew := hc.over hlt (r := 0) (vs := vs) (by omega) hfa hk'
        have e2 : (chunk z cs i).take 0 ++ vs ++ (chunk z cs i).drop (0 + vs.length) = vs := by
          rw [List.drop_eq_nil_of_le (by omega)]; simp
        rw [e2] at hnew
        have e3 : (⟨b, 0, 0, 0⟩ : Loc).off + (i * s + 0) = i * s := by show 0 + (i * s + 0) = _; omega
        rw [e3] at hnew
        have hend := hc.end_le
        have hin := mul_lt_of (s := s) hlt (Nat.le_refl s)
        obtain ⟨res, g1, g2⟩ := ih l' (cs.put (some vs) (K.of i)) out (overA c (i * s) fa) h3 ho hnew
        refine ⟨res, ?_, g2⟩
        have hend' : 0 + len * s ≤ c.size := hend
        rw [List.map_cons, fill_cons (size := s) (off := i * s) rfl hsz (by omega), e1]
        exact g1
      · cases ho
    · cases hl

theorem buildSlice_ok {T : Cx} (hT : TabOk P T.types) {t : TypeId} {len : Nat} {ps : List (Nat × Operand)} {tm : PT AV} {c : Array Value} (ht : TmRel φ T.n tm c) (hg : GlobOk φ T.g) (hr : Rel φ h w) {p : ANext × Hp}
    (hv : opV (cBuildSlice T t len ps) tm h = some p) :
    ∃ v h', p = (.value v, h') ∧ VOk P (Instr.buildSlice t len (ps.map fun (i, x) => (i, evalC c x)).toArray) φ h w v h' := by
  unfold cBuildSlice at hv
  split at hv
  · rename_i e hu
    have hue := run_und hT hu (by intro e; cases e) w
    split at hv
    · rename_i z hz
      obtain ⟨zv, hz1, hz2, hz3, hz4, hz5⟩ := zrel hT hz φ w
      have hsz := run_size hT hz4 w
      split at hv
      · rename_i l hl
        cases hk : Nat.ble (len * sizeT T e) 65536 with
        | false => rw [hk] at hv; exact (inv_bad hv).elim
        | true =>
          rw [hk] at hv
          have hk := natble.1 hk
          simp only [cond_true] at hv
          have hv : r_bldS e (sizeT T e) len z (l.map fun (i, a, _, x) => (i, a, x)) tm h = some p := hv
          unfold r_bldS at hv
          split at hv
          · rename_i cs hcs
            cases hv
            have hn : len ≤ 1048576 := by
              have : len * 1 ≤ len * sizeT T e := Nat.mul_le_mul_left len (Nat.pos_of_ne_zero hz4)
              omega
            obtain ⟨res, g1, g2⟩ := elems_ok ht hg ps l .leaf cs _ hl hcs (CRel.zeros hz2 hz3 (Nat.pos_of_ne_zero hz4) hn hz5 w.heap.size)
            obtain ⟨φ', r1, r2, r3⟩ := newZ_ok hr g2 (Nat.le_refl len) e
            refine ⟨_, _, rfl, _, _, φ', ?_, r1, r2, r3⟩
            have hb : ¬ len * sizeT T e > 2 ^ 24 := by omega
            by_cases h0 : len * sizeT T e = 0
            · have hm : madeCells zv.cells (len * sizeT T e) = #[] := by rw [h0]; simp [madeCells]
              rw [hm] at g1
              have hb0 : ¬ (0 > 2 ^ 24) := by decide
              have : (Array.range 0).map (fun x => (#[] : Array Value)[x % (#[] : Array Value).size]!) = #[] := by simp
              simp only [Instr.buildSlice, Sem.run_bind, hue, Result.andThen, hsz, hb0, if_false, h0, if_true, Sem.run_pure, newRow, newObj, Sem.run, this, g1]
              rfl
            · simp only [Instr.buildSlice, Sem.run_bind, hue, Result.andThen, hsz, hb, if_false, h0, Sem.run_pure, newRow, newObj, Sem.run, hz1]
              have : (Array.range (len * sizeT T e)).map (fun x => zv.cells[x % zv.cells.size]!) = madeCells zv.cells (len * sizeT T e) := rfl
              simp only [this, g1]
              rfl
          · cases hv
      · exact (inv_bad hv).elim
    · exact (inv_bad hv).elim
  · exact (inv_bad hv).elim

/-! What is appended or copied -/
theorem run_cells {b o : Nat} {L : List (List AV)} {sz m : Nat} {cs : List Value} (he : Elems φ w b o sz m L cs) {w' : World} (hw : w'.heap = w.heap) : (loadCells ⟨b, o, none⟩ (m * sz)).run P w' = .ok cs.toArray w' := by
  have h1 := he.cells.1.length
  rw [flatten_length L he.width, he.count] at h1
  rw [h1]
  refine run_loadCells_list w' ⟨b, o, none⟩ cs (fun j v hj => ?_)
  rw [add_addr]
  have := he.cells.2 j v hj
  unfold World.cell? at this ⊢
  rw [hw]; exact this

theorem src_ok (hr : Rel φ h w) {sz : Nat} {x : AV} {cx : Value} (hx : VRel φ x cx) {n : Nat} {f : Nat → Option (List (List AV))} (hs : srcEs h sz x = some (n, f)) :
    (∀ w', (Builtin.lenOf cx).run P w' = .ok n w') ∧ ∀ m L, m ≤ n → f m = some L → ∃ cvs, L.length = m ∧ (∀ c, c ∈ L → c.length = sz) ∧ VRels φ L.flatten cvs ∧ (∀ v, v ∈ L.flatten → isCell v = true) ∧
      ∀ w', w'.heap = w.heap → (Builtin.firstCells sz m cx).run P w' = .ok cvs.toArray w' := by
  have key : ∀ (l : Loc) (b : K) (o len cap : Nat), φ b = some l → cx = .slice (some ⟨l.blk, l.off + o, none⟩) len cap → some (len, fun m => getEs h b o sz m) = some (n, f) →
      (∀ w', (Builtin.lenOf cx).run P w' = .ok n w') ∧ ∀ m L, m ≤ n → f m = some L → ∃ cvs, L.length = m ∧ (∀ c, c ∈ L → c.length = sz) ∧ VRels φ L.flatten cvs ∧ (∀ v, v ∈ L.flatten → isCell v = true) ∧
      ∀ w', w'.heap = w.heap → (Builtin.firstCells sz m cx).run P w' = .ok cvs.toArray w' := by
    rintro l b o len cap hl rfl hs
    cases hs
    refine ⟨fun w' => rfl, fun m L hm hf => ?_⟩
    obtain ⟨cs, hc⟩ := getEs_ok hr hf hl
    exact ⟨cs, hc.count, hc.width, hc.cells.1, hc.ok, fun w' hw => run_cells hc hw⟩
  unfold srcEs at hs
  split at hs
  · cases hs
    cases hx
    refine ⟨fun w' => rfl, fun m L hm hf => ?_⟩
    cases hf
    have : m = 0 := by omega
    subst this
    exact ⟨[], rfl, (fun c hc => nomatch hc), .nil, (fun v hv => nomatch hv), fun w' _ => rfl⟩
  · cases hx with
    | slc hl _ => exact key _ _ _ _ _ hl rfl hs
  · cases hx with
    | opn hl _ _ _ => exact key _ _ _ _ _ hl rfl hs
    | opn0 hl _ =>
      cases hs
      refine ⟨fun w' => rfl, fun m L hm hf => ?_⟩
      have : m = 0 := by omega
      subst this
      obtain ⟨cs, hc⟩ := getEs_ok hr hf hl
      have hn : L = [] := List.length_eq_zero_iff.1 hc.count
      subst hn
      exact ⟨[], rfl, (fun c hc => nomatch hc), .nil, (fun v hv => nomatch hv), fun w' _ => by simp [Builtin.firstCells, loadCells, loadCellsFrom]⟩
  · rename_i s
    obtain ⟨h1, hs⟩ := bif_some hs
    have h1 := natbeq.1 h1
    subst h1
    cases hs
    obtain ⟨bs, rfl, hb⟩ := hx.str_inv
    rw [lenL_eq]
    have hlen : bs.size = s.length := by rw [show bs.size = bs.data.toList.length from rfl, ← List.length_map (f := fun x : UInt8 => x.toNat), hb]
    refine ⟨fun w' => by rw [← hlen]; rfl, fun m L hm hf => ?_⟩
    cases hf
    have hm' : (bs.data.toList.take m).map (·.toNat) = takeL m s := by rw [takeL_eq, ← hb, List.map_take]
    refine ⟨(bs.data.toList.take m).map fun b => Value.int .u8 b.toNat, ?_, unitsOf_width _, ?_, ?_, fun w' _ => ?_⟩
    · rw [unitsOf_len, takeL_eq, List.length_take]; omega
    · rw [unitsOf_flat]; exact cellsOf_rel φ hm'
    · rw [unitsOf_flat]; exact cellsOf_cell _
    · simp only [Builtin.firstCells, Sem.run_pure]
      congr 1
      apply Array.ext'
      simp [ByteArray.data_extract, List.extract_eq_take_drop]
  · cases hs

theorem first_zero {sz : Nat} {x : AV} {cx : Value} (hx : VRel φ x cx) {r : Nat × (Nat → Option (List (List AV)))} (hs : srcEs h sz x = some r) (k : Nat) : ∃ a, (Builtin.firstCells k 0 cx).run P w = .ok a w := by
  unfold srcEs at hs
  split at hs
  · cases hx; exact ⟨_, rfl⟩
  · cases hx; exact ⟨#[], by simp [Builtin.firstCells, loadCells, loadCellsFrom]⟩
  · cases hx <;> exact ⟨#[], by simp [Builtin.firstCells, loadCells, loadCellsFrom]⟩
  · cases hx; exact ⟨_, rfl⟩
  · cases hs

theorem copy_ok {T : Cx} (hT : TabOk P T.types) {t u ty e : TypeId} (hu : undT T t = .slice e) (h0 : sizeT T e ≠ 0) (hr : Rel φ h w) {x y v : AV} {cx cy : Value} (hx : VRel φ x cx) (hy : VRel φ y cy) {h' : Hp}
    (hv : copyV h (sizeT T e) x y = some (v, h')) : VOk P (Builtin.copy_ #[t, u] ty #[cx, cy]) φ h w v h' := by
  have hue := run_und hT hu (by intro e; cases e) w
  have hsz := run_size hT h0 w
  unfold copyV at hv
  split at hv
  · rename_i n f hs
    obtain ⟨s1, s2⟩ := src_ok (P := P) hr hy hs
    have key : ∀ (l : Loc) (b : K) (o len cap : Nat), φ b = some l → cx = .slice (some ⟨l.blk, l.off + o, none⟩) len cap →
        (match f (Nat.min n len) with
          | some es => match setEs h b o (sizeT T e) (Nat.min n len) es with
            | some h' => some (AV.int .i64 (Int.ofNat (Nat.min n len)), h')
            | none => none
          | none => none) = some (v, h') → VOk P (Builtin.copy_ #[t, u] ty #[cx, cy]) φ h w v h' := by
      rintro l b o len cap hl rfl hv
      split at hv
      · rename_i es hf
        split at hv
        · rename_i h2 hset
          cases hv
          obtain ⟨cvs, c1, c2, c3, c4, c5⟩ := s2 _ _ (Nat.min_le_left _ _) hf
          obtain ⟨w', g1, g2, g3⟩ := setEs_ok (P := P) hr hset hl c1 c2 c3 c4
          refine ⟨_, w', φ, ?_, g2, g3, .int _ _⟩
          simp [Builtin.copy_, hue, s1, hsz, c5 w rfl, g1, goInt]
        · cases hv
      · cases hv
    split at hv
    · cases hv
      cases hx
      obtain ⟨arr, ha⟩ := first_zero (P := P) (w := w) hy hs (sizeT T e)
      refine vok_of hr (.int .i64 0) ?_ (.int _ _)
      simp [Builtin.copy_, hue, s1, hsz, ha, goInt]
    · cases hx with
      | slc hl _ => exact key _ _ _ _ _ hl rfl hv
    · cases hx with
      | opn hl _ _ _ => exact key _ _ _ _ _ hl rfl hv
      | opn0 hl _ =>
        split at hv
        · rename_i es hf
          split at hv
          · rename_i h2 hset
            cases hv
            obtain ⟨cvs, c1, c2, c3, c4, c5⟩ := s2 _ _ (Nat.min_le_left _ _) hf
            have e0 : Nat.min n 0 = 0 := Nat.min_zero n
            rw [Nat.min_zero] at c1 c5
            obtain ⟨w', g1, g2, g3⟩ := setEs_ok (P := P) hr hset hl (by rw [e0]; exact c1) c2 c3 c4
            have hes : es = [] := List.length_eq_zero_iff.1 c1
            subst hes
            cases c3
            simp [storeCells] at g1
            subst g1
            rw [e0]
            refine ⟨_, w, φ, ?_, g2, g3, .int _ _⟩
            simp [Builtin.copy_, hue, s1, hsz, c5 w rfl, goInt, storeCells]
          · cases hv
        · cases hv
    · cases hv
  · cases hv

end Go.AX

/- THE ENGINE: operations, the twelfth part: append. -/
namespace Go.AX
set_option linter.unusedSimpArgs false
set_option linter.unusedVariables false

variable {P : Program} {φ : Phi} {h : Hp} {w : World}

theorem CRel.laid {s : Nat} {L : List (List AV)} {cvs : List Value} {c : Array Value} (hs : 0 < s) (hL : L.length ≤ 1048576) (hw : ∀ x, x ∈ L → x.length = s) (hv : VRels φ L.flatten cvs)
    (hk : ∀ v, v ∈ L.flatten → isCell v = true) {frz : Frz} {l : Loc} (hc : ∀ (k : Nat) (v : Value), cvs[k]? = some v → c[l.off + k]? = some v) {f : Nat × Nat} (hf : fzOk frz f c.size (l.off + L.length * s))
    (hwide : l.sz = s ∧ L.length * s ≤ l.tot ∧ l.off + l.tot ≤ c.size ∧ s ∣ l.tot) : CRel φ L.length s [] (putEs .leaf L 0) true frz l c f := by
  have hget : ∀ i, i < L.length → chunk [] (putEs .leaf L 0) i = L.getD i [] := by
    intro i hi
    rw [putEs_get _ _ _ _ _ (by omega) (by omega), if_pos ⟨Nat.zero_le _, by omega⟩]; rfl
  have hmem : ∀ i, i < L.length → L.getD i [] ∈ L := by
    intro i hi
    rw [List.getD_eq_getElem?_getD, List.getElem?_eq_getElem hi]; exact List.getElem_mem hi
  refine ⟨hL, hs, fun i hi => ?_, fun i hi j v hv' => ?_, fun i hi v hv' => ?_, hf, fun ho => (by cases ho), fun _ => hwide⟩
  · rw [hget i hi]; exact hw _ (hmem i hi)
  · rw [hget i hi] at hv'
    have hj : j < s := by
      rw [← hw _ (hmem i hi)]
      rcases Nat.lt_or_ge j (L.getD i []).length with h | h
      · exact h
      · rw [List.getElem?_eq_none h] at hv'; cases hv'
    have hfg : L.flatten[i * s + j]? = some v := by
      rw [flatten_get L hw i j hj, List.getElem?_eq_getElem hi]
      rw [List.getD_eq_getElem?_getD, List.getElem?_eq_getElem hi] at hv'
      exact hv'
    obtain ⟨y, hy, hr⟩ := hv.get hfg
    exact ⟨y, hc _ _ hy, hr⟩
  · rw [hget i hi] at hv'
    exact hk v (List.mem_flatten.2 ⟨_, hmem i hi, hv'⟩)

section run
variable {t u ty e : TypeId} {ti : TI} {zv : Value} {d : TypeDesc} (ht : P.underlying t = some (.slice e)) (hu : P.underlying u = some d) (hd : ∀ k, d ≠ .int k) (hi : P.info? e = some ti.info)
include ht hu hd hi

omit ht hi in
theorem isInt_no : (match d with | .int _ => true | _ => false) = false := by
  cases d <;> first | rfl | exact absurd rfl (hd _)

theorem append_place {base : Option Addr} {len cap n : Nat} {cx : Value} {cvs : List Value} (hn : (Builtin.lenOf cx).run P w = .ok n w) (hf : (Builtin.firstCells ti.info.size n cx).run P w = .ok cvs.toArray w)
    (hle : len + n ≤ cap) {w' : World} (hst : ∀ a, base = some a → (storeCells (a.add (len * ti.info.size)) cvs).run P w = .ok () w') (hb : base = none → w' = w) :
    (Builtin.append_ #[t, u] ty #[.slice base len cap, cx]).run P w = .ok (.slice base (len + n) cap) w' := by
  have h1 := isInt_no (P := P) hu hd
  cases base with
  | none =>
    rw [hb rfl]
    simp [Builtin.append_, run_underlying ht, run_underlying hu, sizeOf, typeInfo, hi, hn, hf, hle]
  | some a =>
    have := hst a rfl
    simp [Builtin.append_, run_underlying ht, run_underlying hu, sizeOf, typeInfo, hi, hn, hf, hle]
    cases d <;> first | exact absurd rfl (hd _) | simp [hn, hf, hle, this]

theorem append_grow (hz : ti.info.zero = some zv) {base : Option Addr} {len cap n : Nat} {cx : Value} {cvs old : List Value} (hn : (Builtin.lenOf cx).run P w = .ok n w)
    (hf : (Builtin.firstCells ti.info.size n cx).run P w.drew = .ok cvs.toArray w.drew) (ho : (Builtin.firstCells ti.info.size len (.slice base len cap)).run P w.drew = .ok old.toArray w.drew)
    (hlt : cap < len + n) (h20 : len + n ≤ 1048576) (hby : ti.info.bytes ≤ 1048576) :
    (Builtin.append_ #[t, u] ty #[.slice base len cap, cx]).run P w = .ok (.slice (some ⟨w.heap.size, 0, none⟩) (len + n) (grownCap w (len + n) cap e))
      (w.drew.alloc (.cells ((old ++ cvs) ++ (Builtin.zeroCells zv.cells (grownCap w (len + n) cap e - (len + n))).toList).toArray e)) := by
  have h0 : ¬ len + n ≤ cap := by omega
  have h63 : ¬ (9223372036854775807 < ((len : Int) + (n : Int))) := by omega
  have h48 : ¬ (281474976710656 < Builtin.nextslicecap (len + n) cap * ti.info.bytes) := by
    have h1 : (len + n) * ti.info.bytes ≤ 1048576 * 1048576 := Nat.mul_le_mul h20 hby
    have := growslice_fits (bytes := ti.info.bytes) hlt (by omega)
    omega
  simp [Builtin.append_, run_underlying ht, run_underlying hu, sizeOf, typeInfo, zeroValue, hi, hz, hn, h0, h63, h48, Question.forced, hf, ho, newRow, grownCap]
  cases d <;> first | exact absurd rfl (hd _) | (congr 2; apply Array.ext'; simp)
end run


theorem heap_drew (w : World) : w.drew.heap = w.heap := rfl

/-- A grown slice in a new block. -/
theorem grown_ok {e : TypeId} {z : Value} {h0 : Hp} (hr0 : Rel φ h0 w) {L : List (List AV)} {cvs : List Value} {sz need cap : Nat} (hs : 0 < sz) (hzs : z.cells.size = sz) (hw : ∀ x, x ∈ L → x.length = sz) (hv : VRels φ L.flatten cvs)
    (hk : ∀ v, v ∈ L.flatten → isCell v = true) (hn : L.length = need) (h20 : need ≤ 1048576) (hcap : need ≤ cap) (frz : Frz) :
    ∃ φ', Rel φ' (newS h0 e sz L true frz) (w.drew.alloc (.cells (cvs ++ (Builtin.zeroCells z.cells (cap - need)).toList).toArray e)) ∧
      Ext φ h0 w φ' (newS h0 e sz L true frz) (w.drew.alloc (.cells (cvs ++ (Builtin.zeroCells z.cells (cap - need)).toList).toArray e)) ∧
      VRel φ' (.opn h0.next 0 need sz) (.slice (some ⟨w.heap.size, 0, none⟩) need cap) := by
  obtain ⟨r0, x0⟩ := hr0.drawn (w.drawn + 1)
  have hfl := flatten_length L hw
  have hcl := hv.length
  have hlen : (cvs ++ (Builtin.zeroCells z.cells (cap - need)).toList).length = cap * sz := by
    rw [List.length_append, ← hcl, hfl, hn, Array.length_toList, size_zeroCells, hzs, ← Nat.add_mul]
    congr 1; omega
  obtain ⟨φ', r1, r2, r3⟩ := newS_ok (h := h0) (w := { w with drawn := w.drawn + 1 }) r0 hs (L := L) (Builtin.zeroCells z.cells (cap - need)).toList (by omega) hw hv hk (frz := frz) (f := (0, 0)) (by
    cases frz with
    | no => rfl
    | str => intro i _; show ¬ (0 ≤ i ∧ i < 0); omega
    | yes => exact Nat.zero_le _) (by rw [hlen]; exact Nat.dvd_mul_left _ _) e
  rw [hlen] at r3
  exact ⟨φ', r1, x0.trans r2, VRel.opn (φ := φ') (b := h0.next) (o := 0) (len := need) (c := cap) (sz := sz) r3 rfl (by rw [Nat.zero_add]) hcap⟩

section opn
variable {t u ty e : TypeId} {ti : TI} {d : TypeDesc} (ht : P.underlying t = some (.slice e)) (hu : P.underlying u = some d) (hd : ∀ k, d ≠ .int k) (hi : P.info? e = some ti.info)
include ht hu hd hi

/-- An append that stays in an open block. -/
theorem inplace (hr : Rel φ h w) {sz : Nat} (hpos : 0 < sz) (hsz : ti.info.size = sz) {b : K} {m s' o len n c : Nat} {dd : List AV} {cs : PT (List AV)} {frz : Frz} (hb : h.get b = some (.cells m s' dd cs e true frz)) {l : Loc} (hl : φ b = some l)
    {C : Array Value} {fz : Nat × Nat} (hX : w.heap[l.blk]? = some (.cells C e fz)) (hC : CRel φ m s' dd cs true frz l C fz) (hs' : sz = s')
    (hyes : frz = .yes → o + len * sz = m * s') (htot : o + c * sz = l.tot) (hle : len + n ≤ c) (h20 : len + n ≤ 1048576)
    {old new : List (List AV)} {ocs cvs : List Value} (he : Elems φ w l.blk (l.off + o) sz len old ocs) (c1 : new.length = n) (c2 : ∀ x, x ∈ new → x.length = sz) (c3 : VRels φ new.flatten cvs)
    (c4 : ∀ v, v ∈ new.flatten → isCell v = true) {cx : Value} (hn : (Builtin.lenOf cx).run P w = .ok n w) (hf : (Builtin.firstCells ti.info.size n cx).run P w = .ok cvs.toArray w) :
    VOk P (Builtin.append_ #[t, u] ty #[.slice (some ⟨l.blk, l.off + o, none⟩) len c, cx]) φ h w (.opn h.next 0 (len + n) sz) (newS (h.del b) e sz (appL old new) true frz) := by
  obtain ⟨w1, w2, w3, w4⟩ := hC.wide rfl
  subst hs'
  have hcl := c3.length
  rw [flatten_length new c2, c1] at hcl
  have hol := he.cells.1.length
  rw [flatten_length old he.width, he.count] at hol
  have hcs : (len + n) * sz ≤ c * sz := Nat.mul_le_mul_right sz hle
  rw [Nat.add_mul] at hcs
  have hst := run_storeCells (P := P) (o := l.off + o + len * sz) cvs 0 C w hX (by rw [← hcl]; omega) (fun j h1 h2 => by
    cases frz with
    | no => exact fz_free hC.frozen (by intro e; cases e) (by rw [← hcl] at h2; omega)
    | str => exact fz_free hC.frozen (by intro e; cases e) (by rw [← hcl] at h2; omega)
    | yes =>
      have h3 : fz.2 ≤ l.off + m * sz := hC.frozen
      have h4 : o + len * sz = m * sz := hyes rfl
      omega) (cells_are c3 c4)
  rw [Nat.add_zero] at hst
  have hle' : φ.le (φ.add h.next ⟨l.blk, l.off + o, c * sz, sz⟩) := Phi.le_add _ (hr.fresh _ (Nat.le_refl _))
  have hw : ∀ x, x ∈ old ++ new → x.length = sz := by
    intro x hx
    rcases List.mem_append.1 hx with h | h
    · exact he.width x h
    · exact c2 x h
  have hlen : (old ++ new).length = len + n := by rw [List.length_append, he.count, c1]
  obtain ⟨r1, r2⟩ := hr.renew hb hl (o' := .cells (old ++ new).length sz [] (putEs .leaf (old ++ new) 0) e true frz) ⟨l.blk, l.off + o, c * sz, sz⟩ rfl (X := .cells (overA C (l.off + o + len * sz) cvs) e fz)
    ⟨_, fz, rfl, CRel.laid (cvs := ocs ++ cvs) hpos (by rw [hlen]; exact h20) hw (by rw [List.flatten_append]; exact (he.cells.1.append c3).mono hle') (by
      intro v hv
      rw [List.flatten_append] at hv
      rcases List.mem_append.1 hv with h | h
      · exact he.ok v h
      · exact c4 v h) (by
      intro k v hk
      show (overA C (l.off + o + len * sz) cvs)[l.off + o + k]? = some v
      rw [overA_get _ _ _ _ (by rw [← hcl]; omega)]
      by_cases hlt : k < ocs.length
      · rw [if_neg (by omega)]
        rw [List.getElem?_append_left hlt] at hk
        have := he.cells.2 k v hk
        unfold World.cell? at this
        rw [hX] at this
        simpa using this
      · rw [List.getElem?_append_right (by omega)] at hk
        have hk2 : k - ocs.length < cvs.length := by
          rcases Nat.lt_or_ge (k - ocs.length) cvs.length with h | h
          · exact h
          · rw [List.getElem?_eq_none h] at hk; cases hk
        rw [if_pos ⟨by omega, by omega⟩, ← hk]
        congr 1; omega) (by
      rw [overA_size]
      cases frz with
      | no => exact hC.frozen
      | str => exact hC.frozen
      | yes =>
        have h3 : fz.2 ≤ l.off + m * sz := hC.frozen
        have h4 : o + len * sz = m * sz := hyes rfl
        show fz.2 ≤ l.off + o + (old ++ new).length * sz
        rw [hlen, Nat.add_mul]; omega) (by
      refine ⟨rfl, ?_, ?_, Nat.dvd_mul_left _ _⟩
      · rw [hlen, Nat.add_mul]; exact hcs
      · rw [overA_size]; show l.off + o + c * sz ≤ _; omega)⟩
  refine ⟨_, _, _, append_place (ty := ty) ht hu hd hi hn hf hle (w' := World.upd w l.blk (.cells (overA C (l.off + o + len * sz) cvs) e fz)) ?_ (by intro h; cases h), ?_, ?_, VRel.opn (l := ⟨l.blk, l.off + o, c * sz, sz⟩) (o := 0) (c := c) (Phi.add_same φ _ _) rfl (by simp) hle⟩
  · intro a ha
    cases ha
    rw [add_addr, hsz]
    exact hst
  · rw [appL_eq]; unfold newS; rw [lenL_eq]; exact r1
  · rw [appL_eq]; unfold newS; rw [lenL_eq]; exact r2

theorem empty (hr : Rel φ h w) {sz : Nat} {b : K} {m s' a : Nat} {dd : List AV} {cs : PT (List AV)} {frz : Frz} (hb : h.get b = some (.cells m s' dd cs e true frz)) {l : Loc} (hl : φ b = some l)
    {C : Array Value} {fz : Nat × Nat} (hX : w.heap[l.blk]? = some (.cells C e fz)) (hC : CRel φ m s' dd cs true frz l C fz) (hs' : sz = s')
    {cx : Value} (hn : (Builtin.lenOf cx).run P w = .ok 0 w) (hf : (Builtin.firstCells ti.info.size 0 cx).run P w = .ok (([] : List Value).toArray) w) :
    VOk P (Builtin.append_ #[t, u] ty #[.slice (some ⟨l.blk, a, none⟩) 0 0, cx]) φ h w (.opn h.next 0 (0 + 0) sz) (newS (h.del b) e sz (appL [] []) true frz) := by
  subst hs'
  have hend := hC.end_le
  have hpos := hC.spos
  have hst := run_storeCells (P := P) (o := 0) [] 0 C w hX (by simp) (fun j h1 h2 => by simp at h2) (fun v hv => nomatch hv)
  simp only [storeCells, Sem.run_pure, overA, Result.ok.injEq, true_and] at hst
  obtain ⟨r1, r2⟩ := hr.renew hb hl (o' := .cells 0 sz [] (putEs .leaf [] 0) e true frz) ⟨l.blk, l.off + m * sz, 0, sz⟩ rfl (X := .cells C e fz)
    ⟨_, fz, rfl, CRel.laid (L := []) (cvs := []) hpos (by simp) (fun x hx => nomatch hx) .nil (fun v hv => nomatch hv) (by intro k v hk; simp at hk) (by
      cases frz with
      | no => exact hC.frozen
      | str => exact hC.frozen
      | yes => have h3 : fz.2 ≤ l.off + m * sz := hC.frozen; show fz.2 ≤ l.off + m * sz + 0 * sz; omega) ⟨rfl, by simp, hend, Nat.dvd_zero _⟩⟩
  refine ⟨_, _, _, append_place (ty := ty) ht hu hd hi hn hf (Nat.le_refl 0) (w' := World.upd w l.blk (.cells C e fz)) ?_ (by intro h; cases h), r1, r2, VRel.opn0 (l := ⟨l.blk, l.off + m * sz, 0, sz⟩) (Phi.add_same φ _ _) rfl⟩
  intro a' ha
  simp only [storeCells, Sem.run_pure, Result.ok.injEq, true_and]
  exact hst
end opn

theorem append_ok {T : Cx} (hT : TabOk P T.types) {t u ty e : TypeId} (hu : undT T t = .slice e) (hku : known T u = true) (hui : ∀ k, undT T u ≠ .int k) {z : List AV} (hz : zcells T e = some z) (hby : bytesT T e ≤ 1048576)
    (hr : Rel φ h w) {x y v : AV} {cx cy : Value} (hx : VRel φ x cx) (hy : VRel φ y cy) {h' : Hp} (hv : appendV h e (sizeT T e) x y = some (v, h')) : VOk P (Builtin.append_ #[t, u] ty #[cx, cy]) φ h w v h' := by
  have hut := und_ok hT hu (by intro e; cases e)
  obtain ⟨tu, htu⟩ := known_ok hku
  have huu := (tinf_ok hT htu).2
  have hud : ∀ k, tu.und ≠ .int k := fun k => by have := hui k; unfold undT at this; rw [htu] at this; exact this
  obtain ⟨ti, zv, ht, hzz, hall, hzs, hne, rfl⟩ := zcells_ok hz
  have hi := (tinf_ok hT ht).1
  have hsz : ti.info.size = sizeT T e := by unfold sizeT; rw [ht]
  have hby' : ti.info.bytes ≤ 1048576 := by unfold bytesT at hby; rw [ht] at hby; exact hby
  have hpos := Nat.pos_of_ne_zero hne
  unfold appendV at hv
  split at hv
  · rename_i n f hs
    obtain ⟨s1, s2⟩ := src_ok (P := P) hr hy hs
    split at hv
    · rename_i new hf
      obtain ⟨cvs, c1, c2, c3, c4, c5⟩ := s2 _ _ (Nat.le_refl n) hf
      have c5' := c5 w rfl
      have c5d := c5 w.drew (heap_drew w)
      rw [← hsz] at c5' c5d
      -- a grown slice
      have grow : ∀ (h0 : Hp) (base : Option Addr) (len cap : Nat) (old : List (List AV)) (ocs : List Value) (frz : Frz), Rel φ h0 w → h0.next = h.next → Ext φ h w φ h0 w → cx = .slice base len cap → cap < len + n → len + n ≤ 1048576 →
          (Builtin.firstCells ti.info.size len cx).run P w.drew = .ok ocs.toArray w.drew → old.length = len → (∀ x, x ∈ old → x.length = sizeT T e) → VRels φ old.flatten ocs → (∀ v, v ∈ old.flatten → isCell v = true) →
          VOk P (Builtin.append_ #[t, u] ty #[cx, cy]) φ h w (.opn h.next 0 (len + n) (sizeT T e)) (newS h0 e (sizeT T e) (appL old new) true frz) := by
        rintro h0 base len cap old ocs frz hr0 hnx hx0 rfl hlt h20 ho o1 o2 o3 o4
        have hrun := append_grow (ty := ty) hut huu hud hi hzz (s1 w) c5d ho hlt h20 hby'
        have hcap := grownCap_ge w (len + n) cap e
        generalize grownCap w (len + n) cap e = cp at hrun hcap
        rw [appL_eq]
        obtain ⟨φ', r1, r2, r3⟩ := grown_ok (e := e) (z := zv) hr0 (L := old ++ new) (cvs := ocs ++ cvs) (sz := sizeT T e) (need := len + n) (cap := cp) hpos hzs (by
          intro x hx
          rcases List.mem_append.1 hx with h | h
          · exact o2 x h
          · exact c2 x h) (by rw [List.flatten_append]; exact o3.append c3) (by
          intro v hv
          rw [List.flatten_append] at hv
          rcases List.mem_append.1 hv with h | h
          · exact o4 v h
          · exact c4 v h) (by rw [List.length_append, o1, c1]) h20 hcap frz
        rw [hnx] at r3
        exact ⟨_, _, φ', hrun, r1, hx0.trans r2, r3⟩
      split at hv
      · -- nil
        cases hx
        cases h0 : Nat.beq n 0 with
        | true =>
          have e0 := natbeq.1 h0
          subst e0
          rw [h0] at hv
          cases hv
          have hnew : new = [] := List.length_eq_zero_iff.1 c1
          subst hnew
          cases c3
          exact vok_of hr _ (append_place (ty := ty) hut huu hud hi (s1 w) c5' (Nat.le_refl 0) (by intro a ha; cases ha) (fun _ => rfl)) .nils
        | false =>
          rw [h0] at hv
          obtain ⟨h20, hv⟩ := bif_some hv
          cases hv
          have hn0 : n ≠ 0 := fun e => by rw [natbeq.2 e] at h0; cases h0
          have := grow h none 0 0 [] [] .no hr rfl (Ext.refl _ _ _) rfl (by omega) (by have := natble.1 h20; omega) rfl rfl (fun c hc => nomatch hc) .nil (fun v hv => nomatch hv)
          rw [Nat.zero_add] at this
          exact this
      · -- a slice
        rename_i b o len cap
        cases hx with
        | slc hl hlc =>
          rename_i l
          cases hle : Nat.ble (Nat.add len n) cap with
          | true =>
            rw [hle] at hv
            simp only [cond_true] at hv
            split at hv
            · rename_i h2 hset
              cases hv
              obtain ⟨w', g1, g2, g3⟩ := setEs_ok (P := P) hr hset hl c1 c2 c3 c4
              refine ⟨_, w', φ, append_place (ty := ty) hut huu hud hi (s1 w) c5' (natble.1 hle) (w' := w') ?_ (by intro h; cases h), g2, g3, .slc hl (natble.1 hle)⟩
              intro a ha
              cases ha
              rw [add_addr, hsz, Nat.add_assoc]
              exact g1
            · cases hv
          | false =>
            rw [hle] at hv
            simp only [cond_false] at hv
            obtain ⟨h20, hv⟩ := bif_some hv
            split at hv
            · rename_i old hold
              cases hv
              have hlt : cap < len + n := by
                apply Nat.lt_of_not_le
                intro hh
                rw [natble.2 (show Nat.add len n ≤ cap from hh)] at hle; cases hle
              obtain ⟨ocs, he⟩ := getEs_ok hr hold hl
              exact grow h _ len cap old ocs .no hr rfl (Ext.refl _ _ _) rfl hlt (natble.1 h20) (by rw [hsz]; exact run_cells he (heap_drew w)) he.count he.width he.cells.1 he.ok
            · cases hv
      · -- an open slice
        rename_i b o len sz'
        obtain ⟨hcond, hv2⟩ := bif_some hv
        clear hv; rename _ => hv
        simp only [Bool.and_eq_true] at hcond
        have h20 : len + n ≤ 1048576 := natble.1 hcond.1
        have hse := natbeq.1 hcond.2
        clear hcond
        subst hse
        split at hv
        · rename_i m s' d cs e' frz hb
          obtain ⟨hcond2, hv2⟩ := bif_some hv
          clear hv
          simp only [Bool.and_eq_true] at hcond2
          have he' := natbeq.1 hcond2.1.1
          have hs' := natbeq.1 hcond2.1.2
          have hyes := hcond2.2
          clear hcond2
          subst he'
          cases ho : getEs h b o (sizeT T e) len with
          | none => rw [ho] at hv2; cases hv2
          | some old =>
            rw [ho] at hv2
            cases hv2
            have hdel := hr.del b
            cases hx with
            | opn hl hsl htot hlc =>
              rename_i c l
              obtain ⟨ocs, he⟩ := getEs_ok hr ho hl
              by_cases hle : len + n ≤ c
              · obtain ⟨C, fz, hX, hC⟩ := Hp.get_cells hr hb hl
                exact inplace hut huu hud hi hr hpos hsz hb hl hX hC hs' (by intro e; subst e; exact natbeq.1 hyes) htot hle h20 he c1 c2 c3 c4 (s1 w) c5'
              · exact grow (h.del b) _ len c old ocs frz hdel.1 rfl hdel.2 rfl (by omega) h20 (by rw [hsz]; exact run_cells he (heap_drew w)) he.count he.width he.cells.1 he.ok
            | opn0 hl hsl =>
              rename_i a l
              obtain ⟨ocs, he⟩ := getEs_ok hr ho hl
              have hold : old = [] := List.length_eq_zero_iff.1 he.count
              subst hold
              by_cases hn : n = 0
              · subst hn
                have hnew : new = [] := List.length_eq_zero_iff.1 c1
                subst hnew
                cases c3
                obtain ⟨C, fz, hX, hC⟩ := Hp.get_cells hr hb hl
                exact empty hut huu hud hi hr hb hl hX hC hs' (s1 w) c5'
              · have := grow (h.del b) (some ⟨l.blk, a, none⟩) 0 0 [] [] frz hdel.1 rfl hdel.2 rfl (by omega) h20 (by simp [Builtin.firstCells, loadCells, loadCellsFrom]) rfl (fun c hc => nomatch hc) .nil (fun v hv => nomatch hv)
                exact this
        · cases hv
      · cases hv
    · cases hv
  · cases hv

end Go.AX

/- THE ENGINE: operations, the thirteenth part: the keys of maps. -/
namespace Go.AX
set_option linter.unusedSimpArgs false
set_option linter.unusedVariables false

variable {P : Program} {φ : Phi} {h : Hp} {w : World}

def EKd (ek : EK) (d : TypeDesc) : Prop := match ek with | .bool => d = .bool | .int => ∃ k, d = .int k | .str => d = .string

section keys
variable {T : Cx} (hT : TabOk P T.types)
include hT

omit hT in
theorem eqE_same {ek : EK} {x y : AV} {cx cy : Value} (hx : VRel φ x cx) (hy : VRel φ y cy) (he : eqE ek x y = some true) : cx = cy ∧ ∀ n, Instr.sameBits n cy cx = true := by
  unfold eqE at he
  split at he
  · rename_i a b
    rw [hx.bool_inv, hy.bool_inv]
    have : a = b := by cases a <;> cases b <;> simp_all
    subst this
    exact ⟨rfl, fun n => by cases n <;> simp [Instr.sameBits]⟩
  · rename_i k a k' b
    obtain ⟨h0, he⟩ := bif_some he
    rw [hx.int_inv, hy.int_inv]
    have h1 : k = k' := by simpa using h0
    have h2 : a = b := by simpa using he
    subst h1 h2
    exact ⟨rfl, fun n => by cases n <;> simp [Instr.sameBits]⟩
  · obtain ⟨ba, rfl, ea⟩ := hx.str_inv
    obtain ⟨bb, rfl, eb⟩ := hy.str_inv
    have h1 := Option.some.inj he
    rw [eqS_eq] at h1
    have h2 := eq_of_beq h1
    rw [← ea, ← eb, map_toNat_inj] at h2
    have h3 : ba = bb := by
      cases ba; cases bb
      simp only [ByteArray.mk.injEq]
      exact Array.ext' h2
    subst h3
    have h4 : (ba == ba) = true := by rw [← bytes_beq]; simp
    exact ⟨rfl, fun n => by cases n <;> simp [Instr.sameBits, h4]⟩
  · cases he

omit hT in
theorem eqEs_same {ek : EK} : ∀ {x y : List AV} {cx cy : List Value}, VRels φ x cx → VRels φ y cy → eqEs ek x y = some true → cx = cy ∧ ∀ n, (cy.zip cx).all (fun p => Instr.sameBits n p.1 p.2) = true := by
  intro x
  induction x with
  | nil =>
    intro y cx cy hx hy he
    cases hx
    cases y with
    | nil => cases hy; exact ⟨rfl, fun n => rfl⟩
    | cons _ _ => cases he
  | cons a t ih =>
    intro y cx cy hx hy he
    cases y with
    | nil => cases he
    | cons b u =>
      cases hx with | cons hx1 hx2 =>
      cases hy with | cons hy1 hy2 =>
      have he : (match eqE ek a b with
        | some true => eqEs ek t u
        | some false => some false
        | none => none) = some true := he
      split at he
      · rename_i h1
        obtain ⟨e1, e2⟩ := eqE_same hx1 hy1 h1
        obtain ⟨e3, e4⟩ := ih hx2 hy2 he
        subst e1 e3
        exact ⟨rfl, fun n => by simp only [List.zip_cons_cons, List.all_cons, e2, e4, Bool.and_self]⟩
      · cases he
      · cases he

omit hT in
theorem keyEq_same {kk : KK} {x y : AV} {cx cy : Value} (hx : VRel φ x cx) (hy : VRel φ y cy) (he : keyEq kk x y = some true) : cx = cy ∧ Instr.sameBits 10000 cy cx = true := by
  unfold keyEq at he
  split at he
  · obtain ⟨e1, e2⟩ := eqE_same hx hy he
    exact ⟨e1, e2 _⟩
  · unfold eqArr at he
    split at he
    · obtain ⟨h0, he⟩ := bif_some he
      obtain ⟨fa, rfl, _, _, ra, _⟩ := hx.cells_size_agg
      obtain ⟨fb, rfl, _, _, rb, _⟩ := hy.cells_size_agg
      obtain ⟨e1, e2⟩ := eqEs_same ra rb he
      subst e1
      refine ⟨rfl, ?_⟩
      rw [show (10000 : Nat) = 9999 + 1 from rfl]
      simp only [Instr.sameBits, beq_self_eq_true, Bool.true_and]
      exact e2 9999
    · cases he

omit hT in
theorem keyT_cases {kt : TypeId} {kk : KK} (hk : keyT T kt = some kk) : (∃ ek, kk = .one ek ∧ ekT T kt = some ek) ∨ (∃ n e ek, kk = .arr n ek ∧ undT T kt = .array n e ∧ ekT T e = some ek) := by
  unfold keyT at hk
  split at hk
  · rename_i n e hu
    split at hk
    · rename_i ek he; cases hk; exact .inr ⟨n, e, ek, rfl, hu, he⟩
    · cases hk
  · split at hk
    · rename_i ek he; cases hk; exact .inl ⟨ek, rfl, he⟩
    · cases hk

theorem keyEq_ok {kt : TypeId} {kk : KK} (hk : keyT T kt = some kk) {x y : AV} {cx cy : Value} (hx : VRel φ x cx) (hy : VRel φ y cy) {b : Bool} (he : keyEq kk x y = some b) : (Op.equal kt cx cy).run P w = .ok b w := by
  rcases keyT_cases hk with ⟨ek, rfl, h1⟩ | ⟨n, e, ek, rfl, hu, h1⟩
  · exact equal_at (eqE_ok hT h1 hx hy he 9999)
  · exact equal_at (eqArr_ok hT hu h1 hx hy he 9998)

/-- What a search found, in the model's words. -/
def FRel (φ : Phi) (ces : List MapEntry) (i : Nat) (ck : Value) : Option (Nat × AV × Nat) → Option (Nat × Value) → Prop
  | none, none => True
  | some (j, v, b), some (j', cv) => j = j' ∧ i ≤ j ∧ VRel φ v cv ∧ ∃ e, ces[j - i]? = some e ∧ e.val = cv ∧ e.born = b ∧ e.key = ck ∧ Instr.sameBits 10000 e.key ck = true
  | _, _ => False

omit hT in
theorem findK_cons (kk : KK) (k : AV) (e : AV × AV × Nat) (es : List (AV × AV × Nat)) (i : Nat) : findK kk k (e :: es) i = (match keyEq kk k e.1 with
    | some true => some (some (i, e.2.1, e.2.2))
    | some false => findK kk k es (i + 1)
    | none => none) := rfl

omit hT in
theorem FRel.up {ces : List MapEntry} {e : MapEntry} {i : Nat} {ck : Value} {r : Option (Nat × AV × Nat)} {cr : Option (Nat × Value)} (h : FRel φ ces (i + 1) ck r cr) : FRel φ (e :: ces) i ck r cr := by
  cases r with
  | none => cases cr with
    | none => trivial
    | some _ => exact h.elim
  | some r => cases cr with
    | none => exact h.elim
    | some cr =>
      obtain ⟨e1, h1, hv, x, hx, hrest⟩ := h
      refine ⟨e1, by omega, hv, x, ?_, hrest⟩
      rw [show r.1 - i = (r.1 - (i + 1)) + 1 by omega]; simpa using hx

theorem findAsking_ok {kt : TypeId} {kk : KK} (hk : keyT T kt = some kk) {k : AV} {ck : Value} (hx : VRel φ k ck) : ∀ {es : List (AV × AV × Nat)} {ces : List MapEntry}, ERel φ es ces → ∀ {i : Nat} {r : Option (Nat × AV × Nat)}, findK kk k es i = some r →
    ∃ cr, (Instr.findAsking kt ck ces i).run P w = .ok cr w ∧ FRel φ ces i ck r cr := by
  intro es ces he
  induction he with
  | nil => intro i r hf; cases hf; exact ⟨none, rfl, trivial⟩
  | @cons k1 v1 ck1 cv1 b1 es1 ces1 hk1 hv1 he ih =>
    intro i r hf
    rw [findK_cons] at hf
    split at hf
    · rename_i h1
      cases hf
      have hrun := keyEq_ok (w := w) hT hk hx hk1 h1
      obtain ⟨e1, e2⟩ := keyEq_same hx hk1 h1
      refine ⟨some (i, cv1), by unfold Instr.findAsking; refine ok_bind hrun ?_; simp, rfl, Nat.le_refl _, hv1, { key := ck1, val := cv1, born := b1 }, by simp, rfl, rfl, e1.symm, e2⟩
    · rename_i h1
      have hrun := keyEq_ok (w := w) hT hk hx hk1 h1
      obtain ⟨cr, h2, h3⟩ := ih hf
      exact ⟨cr, by unfold Instr.findAsking; refine ok_bind hrun ?_; simpa using h2, h3.up⟩
    · cases hf

omit hT in
theorem sameNow_ok {ek : EK} {d : TypeDesc} (hd : EKd ek d) {x y : AV} {cx cy : Value} (hx : VRel φ x cx) (hy : VRel φ y cy) {b : Bool} (he : eqE ek x y = some b) :
    Instr.sameNow d cx cy = some b := by
  unfold eqE at he
  split at he
  · cases he
    rw [hx.bool_inv, hy.bool_inv, show d = .bool from hd]; rfl
  · rename_i k a k' b
    obtain ⟨h0, he2⟩ := bif_some he
    clear he
    have h1 : k = k' := by simpa using h0
    clear h0
    subst h1
    cases he2
    obtain ⟨k, rfl⟩ := hd
    rw [hx.int_inv, hy.int_inv]
    simp [Instr.sameNow]
  · rename_i a c
    cases he
    obtain ⟨ba, rfl, ea⟩ := hx.str_inv
    obtain ⟨bb, rfl, eb⟩ := hy.str_inv
    rw [show d = .string from hd]
    have : eqS a c = (ba == bb) := by
      rw [← ea, ← eb, eqS_bytes]
      exact bytes_beq ba bb
    simp [Instr.sameNow, this]
  · cases he

omit hT in
theorem findNow_one {ek : EK} {d : TypeDesc} (hd : EKd ek d) {k : AV} {ck : Value} (hx : VRel φ k ck) : ∀ {es : List (AV × AV × Nat)} {ces : List MapEntry}, ERel φ es ces →
    ∀ {i : Nat} {r : Option (Nat × AV × Nat)}, findK (.one ek) k es i = some r → ∃ cr, Instr.findNow d ck ces i = some cr ∧ FRel φ ces i ck r cr := by
  intro es ces he
  induction he with
  | nil => intro i r hf; cases hf; exact ⟨none, rfl, trivial⟩
  | @cons k1 v1 ck1 cv1 b1 es1 ces1 hk1 hv1 he ih =>
    intro i r hf
    rw [findK_cons] at hf
    split at hf
    · rename_i h1
      cases hf
      have hn := sameNow_ok hd hx hk1 h1
      obtain ⟨e1, e2⟩ := keyEq_same (kk := .one ek) hx hk1 h1
      refine ⟨some (i, cv1), by simp only [Instr.findNow, hn], rfl, Nat.le_refl _, hv1, { key := ck1, val := cv1, born := b1 }, by simp, rfl, rfl, e1.symm, e2⟩
    · rename_i h1
      have hn := sameNow_ok hd hx hk1 h1
      obtain ⟨cr, h2, h3⟩ := ih hf
      exact ⟨cr, by simp only [Instr.findNow, hn]; exact h2, h3.up⟩
    · cases hf

theorem findKey_ok {kt : TypeId} {kk : KK} (hk : keyT T kt = some kk) {k : AV} {ck : Value} (hx : VRel φ k ck) {es : List (AV × AV × Nat)} {ces : List MapEntry} (he : ERel φ es ces) {r : Option (Nat × AV × Nat)} (hf : findK kk k es 0 = some r) :
    ∃ cr, (Instr.findKey kt ck ces).run P w = .ok cr w ∧ FRel φ ces 0 ck r cr := by
  rcases keyT_cases hk with ⟨ek, rfl, h1⟩ | ⟨n, e, ek, rfl, hu, h1⟩
  · unfold ekT at h1
    obtain ⟨_, h1⟩ := bif_some h1
    have key : ∀ d, undT T kt = d → d ≠ .invalid → EKd ek d → ∃ cr, (Instr.findKey kt ck ces).run P w = .ok cr w ∧ FRel φ ces 0 ck r cr := by
      intro d hu hne hd
      obtain ⟨cr, h2, h3⟩ := findNow_one hd hx he hf
      refine ⟨cr, ?_, h3⟩
      unfold Instr.findKey
      refine ok_bind (run_und hT hu hne w) ?_
      rw [h2]; rfl
    split at h1
    · rename_i hu; cases h1; exact key _ hu (by intro e; cases e) rfl
    · rename_i hu; cases h1; exact key _ hu (by intro e; cases e) ⟨_, rfl⟩
    · rename_i hu; cases h1; exact key _ hu (by intro e; cases e) rfl
    · cases h1
  · obtain ⟨cr, h2, h3⟩ := findAsking_ok (w := w) hT hk hx he hf
    refine ⟨cr, ?_, h3⟩
    unfold Instr.findKey
    refine ok_bind (run_und hT hu (by intro e; cases e) w) ?_
    cases ces with
    | nil =>
      cases he
      cases hf
      cases cr with
      | none => rfl
      | some _ => exact h3.elim
    | cons e1 t =>
      have : Instr.findNow (.array n e) ck (e1 :: t) 0 = none := by
        unfold Instr.findNow Instr.sameNow; rfl
      rw [this]; exact h2
end keys

end Go.AX

/- THE ENGINE: operations, the fourteenth part: maps. -/
namespace Go.AX
set_option linter.unusedSimpArgs false
set_option linter.unusedVariables false

variable {P : Program} {φ : Phi} {h : Hp} {w : World}

theorem get_map (hr : Rel φ h w) {r : K} {es : List (AV × AV × Nat)} {clock : Nat} (hb : h.get r = some (.map es clock)) {l : Loc} (hl : φ r = some l) :
    ∃ ces : List MapEntry, w.heap[l.blk]? = some (.map ces.toArray clock) ∧ ERel φ es ces := by
  obtain ⟨l', X, hl', hX, ces, rfl, he⟩ := hr.objs r _ hb
  rw [hl] at hl'; cases hl'
  exact ⟨ces, hX, he⟩

theorem VRel.map_inv {r : K} {c : Value} (h : VRel φ (.map r) c) : ∃ l, φ r = some l ∧ c = .map (some l.blk) := by
  cases h with | map h => exact ⟨_, h, rfl⟩

theorem ERel.append {a b : List (AV × AV × Nat)} {c d : List MapEntry} (h : ERel φ a c) (h' : ERel φ b d) : ERel φ (a ++ b) (c ++ d) := by
  induction h with
  | nil => exact h'
  | cons hk hv _ ih => exact .cons hk hv ih

theorem ERel.length {a : List (AV × AV × Nat)} {c : List MapEntry} (h : ERel φ a c) : a.length = c.length := by
  induction h with
  | nil => rfl
  | cons hk hv _ ih => simp [ih]

theorem setNth_zero {α : Type} (y a : α) (t : List α) : setNth y 0 (a :: t) = y :: t := rfl
theorem setNth_succ {α : Type} (y a : α) (t : List α) (n : Nat) : setNth y (n + 1) (a :: t) = a :: setNth y n t := rfl
theorem dropNth_zero {α : Type} (a : α) (t : List α) : dropNth 0 (a :: t) = t := rfl
theorem dropNth_succ {α : Type} (a : α) (t : List α) (n : Nat) : dropNth (n + 1) (a :: t) = a :: dropNth n t := rfl

theorem ERel.setNth {a : List (AV × AV × Nat)} {c : List MapEntry} (h : ERel φ a c) {i : Nat} {e : MapEntry} (he : c[i]? = some e) {k v : AV} {ck cv : Value} (hk : VRel φ k ck) (hv : VRel φ v cv) {b : Nat} {f : MapEntry → MapEntry}
    (hf : f e = { key := ck, val := cv, born := b }) : ERel φ (AX.setNth (k, v, b) i a) (c.modify i f) := by
  induction h generalizing i with
  | nil => simp at he
  | cons hk1 hv1 hs ih =>
    cases i with
    | zero =>
      simp at he
      subst he
      rw [setNth_zero, List.modify_zero_cons, hf]
      exact .cons hk hv hs
    | succ i =>
      rw [setNth_succ, List.modify_succ_cons]
      exact .cons hk1 hv1 (ih (by simpa using he))

theorem ERel.dropNth {a : List (AV × AV × Nat)} {c : List MapEntry} (h : ERel φ a c) (i : Nat) : ERel φ (AX.dropNth i a) (c.eraseIdx i) := by
  induction h generalizing i with
  | nil => cases i <;> exact .nil
  | cons hk1 hv1 hs ih =>
    cases i with
    | zero => rw [dropNth_zero]; exact hs
    | succ i => rw [dropNth_succ]; exact .cons hk1 hv1 (ih i)

theorem run_getMap {b : Nat} {ces : Array MapEntry} {clock : Nat} (hX : w.heap[b]? = some (.map ces clock)) : (getObj b).run P w = .ok (.map ces clock) w := by
  simp [getObj, Sem.run, hX]

theorem run_setMap {b : Nat} {ces : Array MapEntry} {clock : Nat} (hX : w.heap[b]? = some (.map ces clock)) (o : Obj) : (setObj b o).run P w = .ok () (World.upd w b o) := by
  simp [setObj, Sem.run, hX, World.upd]

section maps
variable {T : Cx} (hT : TabOk P T.types)
include hT

theorem checkKey_ok {kt : TypeId} {kk : KK} (hk : keyT T kt = some kk) {k : AV} {ck : Value} (hx : VRel φ k ck) (hok : keyOk kk k = true) (b : Bool) : (Instr.checkKey b 10000 kt ck).run P w = .ok () w := by
  rw [show (10000 : Nat) = 9998 + 1 + 1 from rfl]
  have plain : ∀ {ek : EK} {t : TypeId} {n : Nat} {c : Value}, ekT T t = some ek → (Instr.checkKey b (n + 1) t c).run P w = .ok () w := by
    intro ek t n c hek
    unfold ekT at hek
    obtain ⟨_, hek⟩ := bif_some hek
    unfold Instr.checkKey
    split at hek
    · rename_i hu; refine ok_bind (run_und hT hu (by intro e; cases e) w) ?_; simp
    · rename_i hu; refine ok_bind (run_und hT hu (by intro e; cases e) w) ?_; simp
    · rename_i hu; refine ok_bind (run_und hT hu (by intro e; cases e) w) ?_; simp
    · cases hek
  rcases keyT_cases hk with ⟨ek, rfl, h1⟩ | ⟨n, e, ek, rfl, hu, h1⟩
  · exact plain h1
  · cases k <;> first | (cases hok; done) | skip
    rename_i m cs
    have hm : m = n := natbeq.1 hok
    subst hm
    obtain ⟨fa, rfl, l1, _, ra, _⟩ := hx.cells_size_agg
    obtain ⟨ti, ht, hi, hc, _⟩ := ekT_info hT h1
    have hs1 : (sizeOf e).run P w = .ok 1 w := by
      have : ti.info.size = 1 := by simpa [Program.cellsOf, hi] using hc
      simp [sizeOf, typeInfo, hi, this]
    unfold Instr.checkKey
    refine ok_bind (run_und hT hu (by intro e; cases e) w) ?_
    simp only []
    have loop : ∀ (m i : Nat), i + m ≤ fa.length → ((forIn (List.range' i m) PUnit.unit fun i _ => do
        Instr.checkKey b (9998 + 1) e (← part e fa.toArray (i * (← sizeOf e)))
        pure (ForInStep.yield PUnit.unit) : Sem PUnit)).run P w = .ok PUnit.unit w := by
      intro m
      induction m with
      | zero => intro i _; simp [List.range']
      | succ m ih =>
        intro i hi'
        have p1 := run_part_ek hT h1 (cs := fa.toArray) (i := i * 1) (v := fa[i]) (by simp [show i < fa.length by omega]) w
        have p2 := plain (n := 9998) (c := fa[i]) h1
        simp only [List.range', List.forIn_cons, Sem.run_bind, hs1, Result.andThen, p1, p2, Sem.run_pure]
        exact ih (i + 1) (by omega)
    simp only [Std.Legacy.Range.forIn_eq_forIn_range', Std.Legacy.Range.size, Nat.sub_zero, Nat.add_one_sub_one, Nat.div_one]
    refine ok_bind (loop m 0 (by omega)) ?_
    rfl

theorem zval_ok {t : TypeId} {z : AV} (hz : zval T t = some z) (φ : Phi) (w : World) : ∃ cv, (zeroValue t).run P w = .ok cv w ∧ VRel φ z cv := by
  unfold zval zeroT at hz
  split at hz
  · rename_i zv hzz
    obtain ⟨hok, hz⟩ := bif_some hz
    cases hz
    cases ht : tinf T t with
    | none => rw [ht] at hzz; cases hzz
    | some ti => rw [ht] at hzz; exact ⟨zv, run_zero_of hT ht hzz w, ofV_rel φ hok⟩
  · cases hz

variable {t kt et : TypeId} (hu : undT T t = .map kt et) {kk : KK} (hk : keyT T kt = some kk) {z : AV} (hz : zval T et = some z)
include hu hk

include hz in
theorem lookup_ok (hr : Rel φ h w) {x k v : AV} {cx ck : Value} (hx : VRel φ x cx) (hkk : VRel φ k ck) {ok : Bool} (hv : lookupV kk h z x k ok = some v) : POk P (Instr.lookup t cx ck ok) φ w v := by
  have hue := run_und hT hu (by intro e; cases e) w
  obtain ⟨zv, hz1, hz2⟩ := zval_ok hT hz φ w
  unfold lookupV at hv
  obtain ⟨hok, hv⟩ := bif_some hv
  split at hv
  · cases hv
    cases hx
    have hc := checkKey_ok hT hk hkk hok (w := w) (P := P)
    obtain ⟨cr, hf, hr⟩ := findKey_ok (w := w) hT hk hkk (ERel.nil (φ := φ)) (r := none) rfl
    cases cr with
    | some _ => exact hr.elim
    | none =>
      refine ⟨if ok then .tuple #[zv, .bool false] else zv, ?_, ?_⟩
      · simp [Instr.lookup, hue, hc, hf, hz1]
      · cases ok
        · exact hz2
        · exact .tup (fa := [zv, .bool false]) (.cons hz2 (.cons (.bool _) .nil))
  · split at hv
    · rename_i r es clock hb
      obtain ⟨l, hl, rfl⟩ := hx.map_inv
      obtain ⟨ces, hX, he⟩ := get_map hr hb hl
      have hg := run_getMap (P := P) hX
      have hc := checkKey_ok hT hk hkk hok (w := w) (P := P)
      split at hv
      · rename_i j v' b hf
        cases hv
        obtain ⟨cr, hf, hr⟩ := findKey_ok (w := w) hT hk hkk he hf
        cases cr with
        | none => exact hr.elim
        | some cr =>
          obtain ⟨_, _, hvv, _⟩ := hr
          refine ⟨if ok then .tuple #[cr.2, .bool true] else cr.2, ?_, ?_⟩
          · simp [Instr.lookup, hue, hg, hc, hf]
          · cases ok
            · exact hvv
            · exact .tup (fa := [cr.2, .bool true]) (.cons hvv (.cons (.bool _) .nil))
      · rename_i hf
        cases hv
        obtain ⟨cr, hf, hr⟩ := findKey_ok (w := w) hT hk hkk he hf
        cases cr with
        | some _ => exact hr.elim
        | none =>
          refine ⟨if ok then .tuple #[zv, .bool false] else zv, ?_, ?_⟩
          · simp [Instr.lookup, hue, hg, hc, hf, hz1]
          · cases ok
            · exact hz2
            · exact .tup (fa := [zv, .bool false]) (.cons hz2 (.cons (.bool _) .nil))
      · cases hv
    · cases hv
  · cases hv

theorem mapSet_ok (hr : Rel φ h w) {m k v : AV} {cm ck cv : Value} (hm : VRel φ m cm) (hkk : VRel φ k ck) (hvv : VRel φ v cv) {h' : Hp} (hv : mapSet kk h m k v = some h') : UOk P (Instr.mapUpdate t cm ck cv) φ h w h' := by
  have hue := run_und hT hu (by intro e; cases e) w
  unfold mapSet at hv
  obtain ⟨hok, hv⟩ := bif_some hv
  split at hv
  · split at hv
    · rename_i r es clock hb
      obtain ⟨l, hl, rfl⟩ := hm.map_inv
      obtain ⟨ces, hX, he⟩ := get_map hr hb hl
      have hg := run_getMap (P := P) hX
      have hc := checkKey_ok hT hk hkk hok (w := w) (P := P)
      split at hv
      · rename_i j v' b hf
        cases hv
        obtain ⟨cr, hf, hrel⟩ := findKey_ok (w := w) hT hk hkk he hf
        cases cr with
        | none => exact hrel.elim
        | some cr =>
          obtain ⟨cj, cv'⟩ := cr
          obtain ⟨rfl, _, _, e, he1, _, heb, hek, hsb⟩ := hrel
          rw [Nat.sub_zero] at he1
          obtain ⟨r1, r2⟩ := hr.set hb hl (o' := .map (setNth (k, v, b) j es) clock) (X := .map (ces.modify j fun (e : MapEntry) => { e with key := ck, val := cv }).toArray clock)
            ⟨_, rfl, he.setNth he1 hkk hvv (by rw [heb])⟩
          refine ⟨_, φ, ?_, r1, r2⟩
          have hst := run_setMap (P := P) hX (.map (ces.modify j fun (e : MapEntry) => { e with key := ck, val := cv }).toArray clock)
          simp [Instr.mapUpdate, hue, hg, hc, hf, he1, Instr.keyThatStays, hsb]
          exact hst
      · rename_i hf
        cases hv
        obtain ⟨cr, hf, hrel⟩ := findKey_ok (w := w) hT hk hkk he hf
        cases cr with
        | some _ => exact hrel.elim
        | none =>
          rw [appL_eq]
          obtain ⟨r1, r2⟩ := hr.set hb hl (o' := .map (es ++ [(k, v, clock)]) clock.succ) (X := .map (ces ++ [({ key := ck, val := cv, born := clock } : MapEntry)]).toArray (clock + 1))
            ⟨_, rfl, he.append (.cons hkk hvv .nil)⟩
          refine ⟨_, φ, ?_, r1, r2⟩
          have hst := run_setMap (P := P) hX (.map (ces ++ [({ key := ck, val := cv, born := clock } : MapEntry)]).toArray (clock + 1))
          simp [Instr.mapUpdate, hue, hg, hc, hf]
          simpa using hst
      · cases hv
    · cases hv
  · cases hv

include hz in
theorem mapEntry_ok (hr : Rel φ h w) {m k v : AV} {cm ck : Value} (hm : VRel φ m cm) (hkk : VRel φ k ck) {h' : Hp} (hv : mapEntryV kk h z m k = some (v, h')) : VOk P (Instr.mapEntry t cm ck) φ h w v h' := by
  have hue := run_und hT hu (by intro e; cases e) w
  obtain ⟨zv, hz1, hz2⟩ := zval_ok hT hz φ w
  unfold mapEntryV at hv
  obtain ⟨hok, hv⟩ := bif_some hv
  split at hv
  · split at hv
    · rename_i r es clock hb
      obtain ⟨l, hl, rfl⟩ := hm.map_inv
      obtain ⟨ces, hX, he⟩ := get_map hr hb hl
      have hg := run_getMap (P := P) hX
      have hc := checkKey_ok hT hk hkk hok (w := w) (P := P)
      split at hv
      · rename_i j v' b hf
        cases hv
        obtain ⟨cr, hf, hrel⟩ := findKey_ok (w := w) hT hk hkk he hf
        cases cr with
        | none => exact hrel.elim
        | some cr =>
          obtain ⟨cj, cv'⟩ := cr
          obtain ⟨rfl, _, hvv, e, he1, hev, heb, hek, hsb⟩ := hrel
          rw [Nat.sub_zero] at he1
          obtain ⟨r1, r2⟩ := hr.set hb hl (o' := .map (setNth (k, v', b) j es) clock) (X := .map (ces.modify j fun (e : MapEntry) => { e with key := ck }).toArray clock)
            ⟨_, rfl, he.setNth he1 hkk hvv (by rw [heb, hev])⟩
          refine ⟨.tuple #[cv', goInt b], _, φ, ?_, r1, r2, .tup (fa := [cv', goInt b]) (.cons hvv (.cons (.int _ _) .nil))⟩
          have hst := run_setMap (P := P) hX (.map (ces.modify j fun (e : MapEntry) => { e with key := ck }).toArray clock)
          simp only [Instr.mapEntry, Sem.run_bind, hue, hg, hc, hf, Result.andThen, List.getElem?_toArray, he1, Option.map_some, Option.getD_some, Instr.keyThatStays, hsb, if_true, Sem.run_pure, heb]
          have e5 : (ces.toArray.modify j fun (e : MapEntry) => { e with key := ck }) = (ces.modify j fun (e : MapEntry) => { e with key := ck }).toArray := by simp
          rw [e5, hst]
      · rename_i hf
        cases hv
        obtain ⟨cr, hf, hrel⟩ := findKey_ok (w := w) hT hk hkk he hf
        cases cr with
        | some _ => exact hrel.elim
        | none =>
          rw [appL_eq]
          obtain ⟨r1, r2⟩ := hr.set hb hl (o' := .map (es ++ [(k, z, clock)]) clock.succ) (X := .map (ces ++ [({ key := ck, val := zv, born := clock } : MapEntry)]).toArray (clock + 1))
            ⟨_, rfl, he.append (.cons hkk hz2 .nil)⟩
          refine ⟨.tuple #[zv, goInt clock], _, φ, ?_, r1, r2, .tup (fa := [zv, goInt clock]) (.cons hz2 (.cons (.int _ _) .nil))⟩
          have hst := run_setMap (P := P) hX (.map (ces ++ [({ key := ck, val := zv, born := clock } : MapEntry)]).toArray (clock + 1))
          simp only [Instr.mapEntry, Sem.run_bind, hue, hg, hc, hf, hz1, Result.andThen, Sem.run_pure, List.push_toArray, hst]
      · cases hv
    · cases hv
  · cases hv

theorem delete_ok (hr : Rel φ h w) {m k : AV} {cm ck : Value} (hm : VRel φ m cm) (hkk : VRel φ k ck) {h' : Hp} (hv : deleteV kk h m k = some h') {u ty : TypeId} : VOk P (Builtin.delete_ #[t, u] ty #[cm, ck]) φ h w .und h' := by
  have hue := run_und hT hu (by intro e; cases e) w
  unfold deleteV at hv
  obtain ⟨hok, hv⟩ := bif_some hv
  split at hv
  · split at hv
    · rename_i r es clock hb
      obtain ⟨l, hl, rfl⟩ := hm.map_inv
      obtain ⟨ces, hX, he⟩ := get_map hr hb hl
      have hg := run_getMap (P := P) hX
      have hc := checkKey_ok hT hk hkk hok (w := w) (P := P)
      split at hv
      · rename_i j v' b hf
        cases hv
        obtain ⟨cr, hf, hrel⟩ := findKey_ok (w := w) hT hk hkk he hf
        cases cr with
        | none => exact hrel.elim
        | some cr =>
          obtain ⟨cj, cv'⟩ := cr
          obtain ⟨rfl, _⟩ := hrel
          obtain ⟨r1, r2⟩ := hr.set hb hl (o' := .map (dropNth j es) clock) (X := .map (ces.eraseIdx j).toArray clock) ⟨_, rfl, he.dropNth j⟩
          refine ⟨_, _, φ, ?_, r1, r2, .und _⟩
          have hst := run_setMap (P := P) hX (.map (ces.eraseIdx j).toArray clock)
          have e5 : ces.toArray.eraseIdxIfInBounds j = (ces.eraseIdx j).toArray := by simp
          simp only [Builtin.delete_, List.getElem?_toArray, List.getElem?_cons_zero, List.getElem?_cons_succ, Sem.run_bind, hue, hg, hc, hf, Result.andThen, e5, hst, Sem.run_pure]
          rfl
      · rename_i hf
        cases hv
        obtain ⟨cr, hf, hrel⟩ := findKey_ok (w := w) hT hk hkk he hf
        cases cr with
        | some _ => exact hrel.elim
        | none =>
          obtain ⟨r1, r2⟩ := hr.set hb hl (o' := .map es clock) (X := .map ces.toArray clock) ⟨_, rfl, he⟩
          refine ⟨_, _, φ, ?_, r1, r2, .und _⟩
          have hst := run_setMap (P := P) hX (.map ces.toArray clock)
          simp only [Builtin.delete_, List.getElem?_toArray, List.getElem?_cons_zero, List.getElem?_cons_succ, Sem.run_bind, hue, hg, hc, hf, Result.andThen, hst, Sem.run_pure]
          rfl
      · cases hv
    · cases hv
  · cases hv
end maps

end Go.AX

/- THE ENGINE: operations, the fifteenth part: iterators, built-in functions. -/
namespace Go.AX
set_option linter.unusedSimpArgs false
set_option linter.unusedVariables false

variable {P : Program} {φ : Phi} {h : Hp} {w : World}

theorem findBorn_cons (b : Nat) (e : AV × AV × Nat) (es : List (AV × AV × Nat)) (i : Nat) : findBorn b (e :: es) i = (bif Nat.beq e.2.2 b then some (i, e.1) else findBorn b es (i + 1)) := rfl

theorem findBorn_ok {b : Nat} {es : List (AV × AV × Nat)} {ces : List MapEntry} (he : ERel φ es ces) : ∀ {i j : Nat} {k : AV}, findBorn b es i = some (j, k) →
    i ≤ j ∧ ces.findIdx? (fun e => (e.born : Int) == Int.ofNat b) = some (j - i) ∧ ∃ e, ces[j - i]? = some e ∧ VRel φ k e.key ∧ e.born = b := by
  induction he with
  | nil => intro i j k hf; cases hf
  | @cons k1 v1 ck1 cv1 b1 es1 ces1 hk hv _ ih =>
    intro i j k hf
    rw [findBorn_cons] at hf
    cases hb : Nat.beq b1 b with
    | true =>
      have e := natbeq.1 hb
      subst e
      simp only [hb, cond_true] at hf
      cases hf
      refine ⟨Nat.le_refl _, by simp [List.findIdx?_cons], { key := ck1, val := cv1, born := b1 }, by simp, hk, rfl⟩
    | false =>
      simp only [hb, cond_false] at hf
      obtain ⟨h1, h2, e, h3, h4⟩ := ih hf
      have hne : ¬ ((b1 : Int) = (b : Int)) := fun e => by
        have : b1 = b := by omega
        rw [natbeq.2 this] at hb; cases hb
      have hj : j - i = (j - (i + 1)) + 1 := by omega
      refine ⟨by omega, ?_, e, by rw [hj]; simpa using h3, h4⟩
      rw [List.findIdx?_cons, h2]
      have : ((b1 : Int) == Int.ofNat b) = false := by simpa using hne
      simp only [this, Bool.false_eq_true, if_false, Option.map_some, hj]

theorem entryStore_ok {t : TypeId} (hr : Rel φ h w) {m s v : AV} {cm cs cv : Value} (hm : VRel φ m cm) (hs : VRel φ s cs) (hvv : VRel φ v cv) {h' : Hp} (hv : entryStoreV h m s v = some h') : UOk P (Instr.entryStore t cm cs cv) φ h w h' := by
  unfold entryStoreV at hv
  split at hv
  · split at hv
    · rename_i r kd born _ es clock hb
      obtain ⟨l, hl, rfl⟩ := hm.map_inv
      obtain ⟨ces, hX, he⟩ := get_map hr hb hl
      have hg := run_getMap (P := P) hX
      rw [hs.int_inv]
      split at hv
      · rename_i i k hf
        cases hv
        obtain ⟨_, h2, e, h3, h4, h5⟩ := findBorn_ok he hf
        rw [Nat.sub_zero] at h2 h3
        obtain ⟨r1, r2⟩ := hr.set hb hl (o' := .map (setNth (k, v, born) i es) clock) (X := .map (ces.modify i fun (e : MapEntry) => { e with val := cv }).toArray clock)
          ⟨_, rfl, he.setNth h3 h4 hvv (by rw [h5])⟩
        refine ⟨_, φ, ?_, r1, r2⟩
        have hst := run_setMap (P := P) hX (.map (ces.modify i fun (e : MapEntry) => { e with val := cv }).toArray clock)
        have e5 : (ces.toArray.modify i fun (e : MapEntry) => { e with val := cv }) = (ces.modify i fun (e : MapEntry) => { e with val := cv }).toArray := by simp
        have e6 : ces.toArray.findIdx? (fun e => (e.born : Int) == Int.ofNat born) = some i := by rw [List.findIdx?_toArray]; exact h2
        simp only [Instr.entryStore, Sem.run_bind, hg, Result.andThen, asInt, asIntOf, Sem.run_pure, e6, e5, hst]
      · cases hv
    · cases hv
  · cases hv

/-! Iterators -/
theorem iter_ok (hr : Rel φ h w) {o : AObj} {X : Obj} (hX : ∀ φ', φ.le φ' → ORel φ' o ⟨w.heap.size, 0, 0, 0⟩ X) :
    ∃ φ', Rel φ' (h.new o) (World.push w X) ∧ Ext φ h w φ' (h.new o) (World.push w X) ∧ VRel φ' (.ptr h.next 0) (.pointer (some ⟨w.heap.size, 0, none⟩)) := by
  have hle : φ.le (φ.add h.next ⟨w.heap.size, 0, 0, 0⟩) := Phi.le_add _ (hr.fresh _ (Nat.le_refl _))
  obtain ⟨r1, r2⟩ := hr.new (o' := o) ⟨w.heap.size, 0, 0, 0⟩ rfl (X := X) (hX _ hle)
  exact ⟨_, r1, r2, .ptr (l := ⟨w.heap.size, 0, 0, 0⟩) (Phi.add_same _ _ _)⟩

theorem rangeS_ok {T : Cx} (hT : TabOk P T.types) {t : TypeId} (hu : undT T t = .string) (hr : Rel φ h w) {x v : AV} {cx : Value} (hx : VRel φ x cx) {h' : Hp} (hv : fRgS x h = some (v, h')) : VOk P (Instr.range t cx) φ h w v h' := by
  have hue := und_ok hT hu (by intro e; cases e)
  unfold fRgS at hv
  split at hv
  · cases hv
    obtain ⟨bs, rfl, hb⟩ := hx.str_inv
    obtain ⟨φ', r1, r2, r3⟩ := iter_ok hr (o := .strIter _ 0) (X := .stringIter bs 0) (fun φ' _ => ⟨rfl, bs, rfl, hb⟩)
    exact ⟨_, _, φ', by simp only [Instr.range, Sem.run_bind, run_underlying hue, Result.andThen, Sem.run_pure, newObj, Sem.run]; rfl, r1, r2, r3⟩
  · cases hv

theorem rangeM_ok {T : Cx} (hT : TabOk P T.types) {t kt et : TypeId} (hu : undT T t = .map kt et) (hr : Rel φ h w) {x v : AV} {cx : Value} (hx : VRel φ x cx) {h' : Hp} (hv : fRgM x h = some (v, h')) : VOk P (Instr.range t cx) φ h w v h' := by
  have hue := und_ok hT hu (by intro e; cases e)
  unfold fRgM at hv
  split at hv
  · cases hv
    cases hx
    obtain ⟨φ', r1, r2, r3⟩ := iter_ok hr (o := .nilIter) (X := .mapIter none 0 #[] 0) (fun φ' _ => ⟨rfl, rfl⟩)
    exact ⟨_, _, φ', by simp only [Instr.range, Sem.run_bind, run_underlying hue, Result.andThen, Sem.run_pure, newObj, Sem.run]; rfl, r1, r2, r3⟩
  · split at hv
    · rename_i m _ es clock hb
      cases hv
      obtain ⟨l, hl, rfl⟩ := hx.map_inv
      obtain ⟨ces, hX, he⟩ := get_map hr hb hl
      have hg := run_getMap (P := P) hX
      obtain ⟨φ', r1, r2, r3⟩ := iter_ok hr (o := .mapIter m clock [] clock) (X := .mapIter (some l.blk) clock #[] clock) (fun φ' hle => ⟨rfl, l, hle _ _ hl, rfl⟩)
      exact ⟨_, _, φ', by simp only [Instr.range, Sem.run_bind, run_underlying hue, Result.andThen, hg, Sem.run_pure, newObj, Sem.run]; rfl, r1, r2, r3⟩
    · cases hv
  · cases hv

theorem run_getO {b : Nat} {X : Obj} (hX : w.heap[b]? = some X) (hc : ∀ c e f, X ≠ .cells c e f) : (getObj b).run P w = .ok X w := by
  simp only [getObj, Sem.run, hX]

theorem run_setO {b : Nat} {X : Obj} (hX : w.heap[b]? = some X) (hc : ∀ c e f, X ≠ .cells c e f) (o : Obj) : (setObj b o).run P w = .ok () (World.upd w b o) := by
  simp only [setObj, Sem.run, hX]
  cases X <;> first | rfl | exact absurd rfl (hc _ _ _)


theorem decode_ascii' {bs : ByteArray} {s : List Nat} (hb : bs.data.toList.map (·.toNat) = s) {pos c : Nat} {r : List Nat} (hd : dropL pos s = c :: r) (hc : c < 128) : pos < bs.size ∧ Utf8.decode bs pos = (c, 1) := by
  rw [dropL_eq] at hd
  have h1 : s[pos]? = some c := by
    have := congrArg (fun l => l[0]?) hd
    simpa using this
  obtain ⟨b, hb1, hb2⟩ := string_get hb h1
  have hlt : pos < bs.size := by
    rcases Nat.lt_or_ge pos bs.size with h | h
    · exact h
    · rw [getElem?_neg bs pos (by omega)] at hb1; cases hb1
  rw [getElem?_pos bs pos hlt] at hb1
  have hb1 := Option.some.inj hb1
  have : (bs[pos]'hlt).toNat = c := by rw [hb1, hb2]
  exact ⟨hlt, by rw [decode_ascii bs pos hlt (by omega), this]⟩

theorem ERel.filter {a : List (AV × AV × Nat)} {c : List MapEntry} (h : ERel φ a c) {p : AV × AV × Nat → Bool} {q : MapEntry → Bool} (hpq : ∀ k v ck cv b, p (k, v, b) = q { key := ck, val := cv, born := b }) :
    ERel φ (a.filter p) (c.filter q) := by
  induction h with
  | nil => exact .nil
  | @cons k1 v1 ck1 cv1 b1 es1 ces1 hk hv _ ih =>
    have e := hpq k1 v1 ck1 cv1 b1
    cases hq : q { key := ck1, val := cv1, born := b1 } with
    | true => rw [hq] at e; rw [List.filter_cons_of_pos e, List.filter_cons_of_pos hq]; exact .cons hk hv ih
    | false => rw [hq] at e; rw [List.filter_cons_of_neg (by simp [e]), List.filter_cons_of_neg (by simp [hq])]; exact ih

theorem ERel.all {a : List (AV × AV × Nat)} {c : List MapEntry} (h : ERel φ a c) {n : Nat} (ha : a.all (fun e => Nat.blt e.2.2 n) = true) : ∀ e, e ∈ c → e.born < n := by
  induction h with
  | nil => intro e he; cases he
  | @cons k1 v1 ck1 cv1 b1 es1 ces1 hk hv _ ih =>
    simp only [List.all_cons, Bool.and_eq_true] at ha
    intro e he
    rcases List.mem_cons.1 he with rfl | h
    · exact natblt.1 ha.1
    · exact ih ha.2 e h

theorem memN_eq (n : Nat) (l : List Nat) : memN n l = l.contains n := by
  induction l with
  | nil => rfl
  | cons x t ih =>
    show (bif Nat.beq n x then true else memN n t) = _
    rw [ih]
    cases hb : Nat.beq n x with
    | true => have := natbeq.1 hb; subst this; simp
    | false =>
      have : n ≠ x := fun e => by rw [natbeq.2 e] at hb; cases hb
      simp [this]

theorem next_ok (hr : Rel φ h w) {x v : AV} {cx : Value} (hx : VRel φ x cx) {isS : Bool} {ty : TypeId} {h' : Hp} (hv : nextV h x isS = some (v, h')) : VOk P (Instr.next cx isS ty) φ h w v h' := by
  unfold nextV at hv
  split at hv
  · rename_i r
    obtain ⟨l, hl, rfl⟩ := hx.ptr_inv
    split at hv
    · -- a string
      rename_i s pos hb
      obtain ⟨l', X, hl', hX, h0, bs, rfl, hbs⟩ := hr.objs r _ hb
      rw [hl] at hl'; cases hl'
      have hg := run_getO (P := P) hX (by intro c e f h; cases h)
      rw [h0, Nat.zero_add]
      split at hv
      · rename_i hd
        cases hv
        have hge : ¬ pos < bs.size := by
          intro hlt
          rw [dropL_eq] at hd
          have := List.drop_eq_nil_iff.1 hd
          rw [← hbs, List.length_map] at this
          have : bs.data.toList.length = bs.size := rfl
          omega
        refine vok_of hr (.tuple #[.bool false]) ?_ (.tup (fa := [.bool false]) (.cons (.bool _) .nil))
        simp [Instr.next, hg, hge]
      · rename_i c rest hd
        obtain ⟨hc, hv⟩ := bif_some hv
        cases hv
        obtain ⟨hlt, hdec⟩ := decode_ascii' hbs hd (natblt.1 hc)
        obtain ⟨r1, r2⟩ := hr.set hb hl (o' := .strIter s pos.succ) (X := .stringIter bs (pos + 1)) ⟨h0, bs, rfl, hbs⟩
        have hst := run_setO (P := P) hX (by intro c e f h; cases h) (.stringIter bs (pos + 1))
        refine ⟨.tuple #[.bool true, goInt pos, .int .i32 c], _, φ, ?_, r1, r2, .tup (fa := [.bool true, goInt pos, .int .i32 c]) (.cons (.bool _) (.cons (.int _ _) (.cons (.int _ _) .nil)))⟩
        simp only [Instr.next, Sem.run_bind, hg, Result.andThen, hlt, if_true, hdec, hst, Sem.run_pure]
    · -- a nil map
      rename_i hb
      cases hv
      obtain ⟨l', X, hl', hX, h0, rfl⟩ := hr.objs r _ hb
      rw [hl] at hl'; cases hl'
      have hg := run_getO (P := P) hX (by intro c e f h; cases h)
      rw [h0, Nat.zero_add]
      refine vok_of hr (.tuple #[.bool false]) ?_ (.tup (fa := [.bool false]) (.cons (.bool _) .nil))
      simp [Instr.next, hg]
    · -- a map
      rename_i m since seen stepped hb
      obtain ⟨l', X, hl', hX, h0, lm, hlm, rfl⟩ := hr.objs r _ hb
      rw [hl] at hl'; cases hl'
      have hg := run_getO (P := P) hX (by intro c e f h; cases h)
      rw [h0, Nat.zero_add]
      split at hv
      · rename_i es clock hbm
        obtain ⟨ces, hXm, he⟩ := get_map hr hbm hlm
        have hgm := run_getMap (P := P) hXm
        obtain ⟨hcond, hv⟩ := bif_some hv
        simp only [Bool.and_eq_true, allL_eq] at hcond
        have hle := natble.1 hcond.1
        have hall := he.all hcond.2
        rw [filtL_eq] at hv
        have hfil := he.filter (p := fun e => !memN e.2.2 seen) (q := fun e => !seen.contains e.born) (by intro k v ck cv b; simp only [memN_eq])
        have hcheck : (!seen.toArray.isEmpty && !ces.toArray.isEmpty && ces.toArray.all (fun e => decide (e.born ≥ stepped))) = false := by
          cases ces with
          | nil => simp
          | cons e1 t =>
            have h1 := hall e1 (by simp)
            have : (e1 :: t).toArray.all (fun e => decide (e.born ≥ stepped)) = false := by
              rw [Bool.eq_false_iff]
              intro hc
              simp only [List.all_toArray, List.all_cons, Bool.and_eq_true, decide_eq_true_eq] at hc
              omega
            rw [this]; simp
        have hleft : ces.toArray.filter (fun e => !seen.toArray.contains e.born) = (ces.filter fun e => !seen.contains e.born).toArray := by simp
        have hmem : ∀ e, e ∈ (ces.filter fun e => !seen.contains e.born) → e.born < since := fun e he => hall e (List.mem_filter.1 he).1
        generalize (ces.filter fun e => !seen.contains e.born) = L at hfil hleft hmem
        have hold : L.toArray.filter (fun e => decide (e.born < since)) = L.toArray := by
          rw [Array.filter_eq_self]; intro a ha; simpa using hmem a (by simpa using ha)
        have hnew : L.toArray.filter (fun e => decide (e.born ≥ since)) = #[] := by
          rw [Array.filter_eq_empty_iff]; intro a ha; have := hmem a (by simpa using ha); simp; omega
        generalize hF : es.filter (fun e => !memN e.2.2 seen) = F at hv hfil
        split at hv
        · cases hv
          cases hfil
          refine vok_of hr (.tuple #[.bool false]) ?_ (.tup (fa := [.bool false]) (.cons (.bool _) .nil))
          simp only [Instr.next, Sem.run_bind, hg, hgm, Result.andThen, hcheck, Bool.false_eq_true, if_false, hleft, hold, hnew]
          simp [choose, Sem.run, Question.forced]
        · cases hv
          cases hfil with
          | @cons k1 v1 ck1 cv1 b1 es1 ces1 hk1 hv1 hrest =>
            cases hrest
            rw [appL_eq]
            obtain ⟨r1, r2⟩ := hr.set hb hl (o' := .mapIter m since (seen ++ [b1]) clock) (X := .mapIter (some lm.blk) since (seen ++ [b1]).toArray clock) ⟨h0, lm, hlm, rfl⟩
            have hst := run_setO (P := P) hX (by intro c e f h; cases h) (.mapIter (some lm.blk) since (seen ++ [b1]).toArray clock)
            refine ⟨.tuple #[.bool true, ck1, cv1], _, φ, ?_, r1, r2, .tup (fa := [.bool true, ck1, cv1]) (.cons (.bool _) (.cons hk1 (.cons hv1 .nil)))⟩
            have e5 : seen.toArray.push b1 = (seen ++ [b1]).toArray := by simp
            simp only [Instr.next, Sem.run_bind, hg, hgm, Result.andThen, hcheck, Bool.false_eq_true, if_false, hleft, hold, hnew]
            simp [choose, Sem.run, Question.forced]
            rw [hst]; rfl
        · cases hv
      · cases hv
    · cases hv
  · cases hv


theorem lastL_eq {α : Type} (l : List α) : lastL l = l.getLast? := by
  induction l with
  | nil => rfl
  | cons x t ih =>
    have : lastL (x :: t) = (match lastL t with | some y => some y | none => some x) := rfl
    rw [this, ih]
    cases t with
    | nil => rfl
    | cons y u => simp [List.getLast?_cons_cons]; rw [List.getLast?_eq_some_getLast (by simp)]

theorem entry_ok (hr : Rel φ h w) {x v : AV} {cx : Value} (hx : VRel φ x cx) (hv : entryV h x = some v) : POk P (Instr.entry cx) φ w v := by
  unfold entryV at hv
  split at hv
  · rename_i r
    obtain ⟨l, hl, rfl⟩ := hx.ptr_inv
    split at hv
    · rename_i m since seen stepped hb
      obtain ⟨l', X, hl', hX, h0, lm, hlm, rfl⟩ := hr.objs r _ hb
      rw [hl] at hl'; cases hl'
      have hg := run_getO (P := P) hX (by intro c e f h; cases h)
      rw [h0, Nat.zero_add]
      split at hv
      · rename_i es clock stamp hbm hlast
        obtain ⟨ces, hXm, he⟩ := get_map hr hbm hlm
        have hgm := run_getMap (P := P) hXm
        obtain ⟨hc, hv2⟩ := bif_some hv
        clear hv; rename _ => hv
        have hc := natbeq.1 hc
        subst hc
        rw [lastL_eq] at hlast
        rw [filtL_eq] at hv
        have hfil := he.filter (p := fun e => Nat.beq e.2.2 stamp) (q := fun e => e.born == stamp) (by
          intro k v ck cv b
          show Nat.beq b stamp = (b == stamp)
          cases hb : Nat.beq b stamp with
          | true => simp [natbeq.1 hb]
          | false => have : b ≠ stamp := fun e => by rw [natbeq.2 e] at hb; cases hb
                     simp [this])
        have hback : seen.toArray.back? = some stamp := by simpa using hlast
        generalize hF : es.filter (fun e => Nat.beq e.2.2 stamp) = F at hv hfil
        split at hv
        · cases hv
          generalize hL : ces.filter (fun e => e.born == stamp) = L at hfil
          cases hfil with
          | @cons k1 v1 ck1 cv1 b1 es1 ces1 hk1 hv1 hrest =>
            have hfind : ces.toArray.find? (fun e => e.born == stamp) = some { key := ck1, val := cv1, born := b1 } := by
              rw [List.find?_toArray]
              rw [← List.head?_filter, hL]; rfl
            refine ⟨.tuple #[ck1, cv1], ?_, .tup (fa := [ck1, cv1]) (.cons hk1 (.cons hv1 .nil))⟩
            simp [Instr.entry, hg, hgm, hback, hfind]
        · cases hv
      · cases hv
    · cases hv
  · cases hv

/-! Built-in functions -/
theorem len_ok {T : Cx} (hT : TabOk P T.types) {t ty : TypeId} {rest : List TypeId} (hr : Rel φ h w) {x v : AV} {cx : Value} (hx : VRel φ x cx) (hv : lenV h (cLen T t) x = some v) : POk P (Builtin.len_ (t :: rest).toArray ty #[cx]) φ w v := by
  have ha : (t :: rest).toArray[0]? = some t := by simp
  unfold cLen at hv
  split at hv
  · rename_i hu
    have hue := run_und hT hu (by intro e; cases e) w
    unfold lenV at hv
    split at hv <;> first | (cases hv; done) | skip
    all_goals first | (rename_i heq; cases heq; done) | skip
    cases hv
    obtain ⟨bs, rfl, hb⟩ := hx.str_inv
    refine ⟨goInt bs.size, by simp [Builtin.len_, ha, hue], ?_⟩
    rw [lenL_eq, ← hb, List.length_map]
    exact .int _ _
  · rename_i e hu
    have hue := run_und hT hu (by intro e; cases e) w
    unfold lenV at hv
    split at hv <;> first | (cases hv; done) | skip
    all_goals first | (rename_i heq; cases heq; done) | skip
    all_goals cases hv
    all_goals cases hx
    all_goals exact ⟨_, by simp [Builtin.len_, ha, hue]; rfl, .int _ _⟩
  · rename_i k e hu
    have hue := run_und hT hu (by intro e; cases e) w
    unfold lenV at hv
    split at hv <;> first | (cases hv; done) | skip
    all_goals first | (rename_i heq; cases heq; done) | skip
    · cases hv
      cases hx
      exact ⟨_, by simp [Builtin.len_, ha, hue]; rfl, .int _ _⟩
    · split at hv
      · rename_i hb
        cases hv
        obtain ⟨l, hl, rfl⟩ := hx.map_inv
        obtain ⟨ces, hX, he⟩ := get_map hr hb hl
        have hg := run_getMap (P := P) hX
        refine ⟨goInt ces.length, by simp [Builtin.len_, ha, hue, hg], ?_⟩
        rw [lenL_eq, he.length]
        exact .int _ _
      · cases hv
  · rename_i n e hu
    have hue := run_und hT hu (by intro e; cases e) w
    have hv : some (AV.int .i64 (Int.ofNat n)) = some v := by
      unfold lenV at hv
      split at hv <;> first | (cases hv; done) | skip
      all_goals first | (rename_i heq; cases heq; done) | skip
      all_goals first | exact hv | (rename_i heq; cases heq; exact hv)
    cases hv
    exact ⟨_, by simp [Builtin.len_, ha, hue]; rfl, .int _ _⟩
  · rename_i a hu
    have hue := run_und hT hu (by intro e; cases e) w
    split at hv
    · rename_i n e hu2
      have hue2 := run_und hT hu2 (by intro e; cases e) w
      have hv : some (AV.int .i64 (Int.ofNat n)) = some v := by
        unfold lenV at hv
        split at hv <;> first | (cases hv; done) | skip
        all_goals first | (rename_i heq; cases heq; done) | skip
        all_goals first | exact hv | (rename_i heq; cases heq; exact hv)
      cases hv
      exact ⟨_, by simp [Builtin.len_, ha, hue, hue2]; rfl, .int _ _⟩
    · unfold lenV at hv; cases hv
  · unfold lenV at hv; cases hv

theorem cap_ok {T : Cx} (hT : TabOk P T.types) {t ty e : TypeId} {rest : List TypeId} (hu : undT T t = .slice e) {x v : AV} {cx : Value} (hx : VRel φ x cx) (hv : fCap x = some v) : POk P (Builtin.cap_ (t :: rest).toArray ty #[cx]) φ w v := by
  have ha : (t :: rest).toArray[0]? = some t := by simp
  have hue := run_und hT hu (by intro e; cases e) w
  unfold fCap at hv
  split at hv <;> first | (cases hv; done) | skip
  all_goals cases hv
  all_goals cases hx
  all_goals exact ⟨_, by simp [Builtin.cap_, ha, hue]; rfl, .int _ _⟩

end Go.AX

/- THE ENGINE: operations, the sixteenth part: the other built-in functions. -/
namespace Go.AX
set_option linter.unusedSimpArgs false
set_option linter.unusedVariables false

variable {P : Program} {φ : Phi} {h : Hp} {w : World}

theorem minmax_cons (lt : Int → Int → Bool) (a : AV) (xs : List AV) (v : AV) : minmax lt (a :: xs) v = (match v, a with
    | .int k x, .int _ y => minmax lt xs (.int k (bif lt y x then y else x))
    | _, _ => none) := rfl

theorem minmax_nil (lt : Int → Int → Bool) (v : AV) : minmax lt [] v = (match v with | .int _ _ => some v | _ => none) := rfl

theorem minmax_ok {lt : Int → Int → Bool} {f : Value → Value → Sem Value} (hf : ∀ k x k' y, f (.int k x) (.int k' y) = pure (.int k (bif lt y x then y else x))) : ∀ {xs : List AV} {cs : List Value}, VRels φ xs cs → ∀ {x v : AV} {cx : Value}, VRel φ x cx →
    minmax lt xs x = some v → ∃ cv, (cs.foldlM f cx).run P w = .ok cv w ∧ VRel φ v cv := by
  intro xs
  induction xs with
  | nil =>
    intro cs hcs x v cx hx hv
    cases hcs
    rw [minmax_nil] at hv
    split at hv
    · cases hv; exact ⟨cx, by simp, hx⟩
    · cases hv
  | cons a t ih =>
    intro cs hcs x v cx hx hv
    cases hcs with | cons ha hs =>
    rw [minmax_cons] at hv
    split at hv
    · rw [hx.int_inv, ha.int_inv]
      obtain ⟨cv, h1, h2⟩ := ih hs (.int _ _) hv
      exact ⟨cv, by rw [List.foldlM_cons, hf]; simpa using h1, h2⟩
    · cases hv

theorem repE_eq {α : Type} (x : α) (n : Nat) : repE x n = List.replicate n x := by
  induction n with
  | zero => rfl
  | succ n ih => show x :: repE x n = _; rw [ih]; rfl

theorem zeros_rel {z : List AV} {zv : Array Value} {s : Nat} (hz : VRels φ z zv.toList) (hl : z.length = s) (hs : 0 < s) (n : Nat) : VRels φ (repE z n).flatten (Builtin.zeroCells zv n).toList := by
  have hzs : zv.size = s := by rw [← Array.length_toList, ← hz.length, hl]
  rw [repE_eq]
  have hw : ∀ c, c ∈ List.replicate n z → c.length = s := fun c hc => by rw [(List.mem_replicate.1 hc).2, hl]
  refine VRels.of_get (by rw [flatten_length _ hw, List.length_replicate, Array.length_toList, size_zeroCells, hzs]) (fun q x y hx hy => ?_)
  have hq : q < n * s := by
    rcases Nat.lt_or_ge q (n * s) with h | h
    · exact h
    · rw [List.getElem?_eq_none (by rw [flatten_length _ hw, List.length_replicate]; exact h)] at hx; cases hx
  have hj : q % s < s := Nat.mod_lt _ hs
  have hi : q / s < n := Nat.div_lt_of_lt_mul (by rw [Nat.mul_comm]; exact hq)
  have e : q = q / s * s + q % s := by have := Nat.div_add_mod q s; rw [Nat.mul_comm] at this; omega
  rw [e, flatten_get _ hw _ _ hj, List.getElem?_replicate, if_pos hi] at hx
  obtain ⟨y', hy', hr⟩ := hz.get (show z[q % s]? = some x from hx)
  rw [Array.getElem?_toList] at hy hy'
  have e2 : Builtin.zeroCells zv n = madeCells zv (n * s) := by unfold Builtin.zeroCells madeCells; rw [hzs]
  rw [e2, e, made_get hzs hi hj, hy'] at hy
  cases hy
  exact hr

theorem clear_ok {T : Cx} (hT : TabOk P T.types) {t ty e : TypeId} (hu : undT T t = .slice e) {z : List AV} (hz : zcells T e = some z) (hr : Rel φ h w) {x : AV} {cx : Value} (hx : VRel φ x cx) {h' : Hp}
    (hv : fClr z (sizeT T e) x h = some h') : VOk P (Builtin.clear_ #[t] ty #[cx]) φ h w .und h' := by
  have hue := run_und hT hu (by intro e; cases e) w
  obtain ⟨zv, hz1, hz2, hz3, hz4, hz5⟩ := zrel hT hz φ w
  have key : ∀ (a : Addr) (l : Loc) (b : K) (o n cap : Nat), φ b = some l → (n ≠ 0 → a = ⟨l.blk, l.off + o, none⟩) → cx = .slice (some a) n cap → setEs h b o (sizeT T e) n (repE z n) = some h' →
      VOk P (Builtin.clear_ #[t] ty #[cx]) φ h w .und h' := by
    rintro a l b o n cap hl ha rfl hs
    obtain ⟨w', g1, g2, g3⟩ := setEs_ok (P := P) hr hs hl (by rw [repE_eq, List.length_replicate]) (by intro c hc; rw [repE_eq] at hc; rw [(List.mem_replicate.1 hc).2, hz3]) (zeros_rel hz2 hz3 (Nat.pos_of_ne_zero hz4) n) (by
      intro v hv
      obtain ⟨c, hc, hv⟩ := List.mem_flatten.1 hv
      rw [repE_eq] at hc
      rw [(List.mem_replicate.1 hc).2] at hv
      exact hz5 v hv)
    by_cases hn : n = 0
    · subst hn
      have e0 : (Builtin.zeroCells zv.cells 0).toList = [] := by simp [Builtin.zeroCells]
      rw [e0] at g1
      simp only [storeCells, Sem.run_pure, Result.ok.injEq, true_and] at g1
      subst g1
      exact ⟨_, w, φ, by simp [Builtin.clear_, hue]; rfl, g2, g3, .und _⟩
    · rw [ha hn]
      refine ⟨_, w', φ, ?_, g2, g3, .und _⟩
      obtain ⟨n, rfl⟩ := Nat.exists_eq_succ_of_ne_zero hn
      simp [Builtin.clear_, hue, hz1, g1]
      rfl
  unfold fClr at hv
  split at hv
  · cases hv
    cases hx
    exact vok_of hr _ (by simp [Builtin.clear_, hue]; rfl) (.und _)
  · cases hx with
    | slc hl _ => exact key _ _ _ _ _ _ hl (fun _ => rfl) rfl hv
  · cases hx with
    | opn hl _ _ _ => exact key _ _ _ _ _ _ hl (fun _ => rfl) rfl hv
    | opn0 hl _ => exact key _ _ _ _ _ _ hl (fun h => absurd rfl h) rfl hv
  · cases hv

end Go.AX

/- THE ENGINE: operations, the seventeenth part: strings that share bytes, functions without a Go body. -/
namespace Go.AX
set_option linter.unusedSimpArgs false
set_option linter.unusedVariables false

variable {P : Program} {φ : Phi} {h : Hp} {w : World}

theorem udat_some (ts : Array TypeId) (ty : TypeId) (a : Addr) (l c : Nat) : Builtin.unsafeSliceData_ ts ty #[.slice (some a) l c] = (do
    if c ≠ 0 then pure (.pointer (some a))
    else if (← viewAt a.block).isSome then pure (.pointer (some a))
    else pure (.pointer (some ⟨← newObj (.view a (← elemOf ty)), 0, none⟩))) := rfl

theorem ustr_some (ts : List TypeId) (t ty : TypeId) (a : Addr) (k : IntKind) (n : Int) : Builtin.unsafeString_ (t :: ts).toArray ty #[.pointer (some a), .int k n] = (do
    if n < 0 then runtimePanic (.error "unsafe.String: len out of range")
    if n > IntKind.i64.max then unsupported (.unsafePointer "String: a length above the largest int")
    if n = 0 then pure (.string .empty)
    else if ← variablesAt a (← elemOf t) n.toNat then do
      let s ← loadBytes a .empty n.toNat
      freeze a n.toNat
      pure (.string s)
    else unsupported (.unsafePointer "String: not so many bytes at ptr")) := rfl

theorem udat_ok {ts : Array TypeId} {ty : TypeId} {x v : AV} {cx : Value} (hx : VRel φ x cx) (hv : fUdat x = some v) : POk P (Builtin.unsafeSliceData_ ts ty #[cx]) φ w v := by
  have run : ∀ (a : Addr) (l c : Nat), c ≠ 0 → (Builtin.unsafeSliceData_ ts ty #[.slice (some a) l c]).run P w = .ok (.pointer (some a)) w := by
    intro a l c hc
    rw [udat_some, if_pos hc]; rfl
  unfold fUdat at hv
  split at hv
  · cases hv; cases hx
    exact ⟨.pointer none, rfl, .nilp⟩
  · rename_i b o len cap
    obtain ⟨h0, hv⟩ := bif_none hv
    cases hv
    have hc : cap ≠ 0 := fun e => by rw [natbeq.2 e] at h0; cases h0
    cases hx with
    | slc hl _ => exact ⟨_, run _ _ _ hc, .ptr hl⟩
  · rename_i b o len sz
    obtain ⟨h0, hv⟩ := bif_none hv
    cases hv
    have hn : len ≠ 0 := fun e => by rw [natbeq.2 e] at h0; cases h0
    cases hx with
    | opn hl _ _ hle => exact ⟨_, run _ _ _ (by omega), .ptr hl⟩
    | opn0 hl _ => exact absurd rfl hn
  · cases hv

theorem run_freeze {b o k : Nat} {C : Array Value} {e : TypeId} {f : Nat × Nat} (hX : w.heap[b]? = some (.cells C e f)) (hk : k ≠ 0) :
    w.freeze ⟨b, o, none⟩ k = World.upd w b (.cells C e (if f.1 == f.2 then (o, o + k) else (min f.1 o, max f.2 (o + k)))) := by
  unfold World.freeze World.upd
  rw [if_neg hk]
  congr 1
  apply Array.ext_getElem?
  intro i
  have hb : b < w.heap.size := by
    rcases Nat.lt_or_ge b w.heap.size with h | h
    · exact h
    · rw [Array.getElem?_eq_none h] at hX; cases hX
  by_cases hi : i = b
  · subst hi
    have hX' : w.heap[i] = .cells C e f := by simpa [Array.getElem?_eq_getElem hb] using hX
    obtain ⟨lo, hi⟩ := f
    simp [Array.getElem?_modify, Array.getElem_modify, hX', hb]
  · simp [Array.getElem?_modify, Ne.symm hi, Array.getElem?_setIfInBounds_ne (Ne.symm hi)]

theorem run_variablesAt {b o k : Nat} {C : Array Value} {e : TypeId} {f : Nat × Nat} (hX : w.heap[b]? = some (.cells C e f)) (hc : P.cellsOf e = 1) (hle : o + k ≤ C.size) : (variablesAt ⟨b, o, none⟩ e k).run P w = .ok true w := by
  have s1 : w.shape? b = some (e, C.size) := by simp [World.shape?, hX]
  simp only [variablesAt, program, shape, Sem.run_bind, Sem.run, s1, Result.andThen, Sem.run_pure]
  congr 1
  rw [show P.depth = (2 * (P.types.size + Made.depth) + 1) + 1 from rfl]
  unfold liesAt rowAt
  have e2 : sameLayout P (2 * (P.types.size + Made.depth) + 1 + 1) e e = true := by unfold sameLayout; simp
  have e3 : o % 1 = 0 := Nat.mod_one o
  simp [hc, e2, e3, hle, Program.depth]

theorem run_loadBytes {b : Nat} : ∀ (ns : List Int) (o : Nat) (acc : ByteArray), (∀ j n, ns[j]? = some n → w.cell? ⟨b, o + j, none⟩ = some (.int .u8 n)) →
    (loadBytes ⟨b, o, none⟩ acc ns.length).run P w = .ok (ns.foldl (fun r n => r.push (UInt8.ofNat n.toNat)) acc) w := by
  intro ns
  induction ns with
  | nil => intro o acc _; simp [loadBytes]
  | cons n t ih =>
    intro o acc hc
    have h0 := hc 0 n rfl
    rw [Nat.add_zero] at h0
    have := ih (o + 1) (acc.push (UInt8.ofNat n.toNat)) (fun j m hj => by
      have := hc (j + 1) m (by simpa using hj)
      rw [show o + 1 + j = o + (j + 1) by omega]; exact this)
    rw [List.length_cons, List.foldl_cons]
    unfold loadBytes
    simp only [load, Sem.run_bind, Sem.run, h0, Result.andThen, add_addr]
    exact this

theorem ustr_ok {T : Cx} (hT : TabOk P T.types) {t ty e : TypeId} {rest : List TypeId} (hu : undT T t = .pointer e) (hue : undT T e = .int .u8) (hse : sizeT T e = 1) (hr : Rel φ h w) {x y v : AV} {cx cy : Value} (hx : VRel φ x cx) (hy : VRel φ y cy) {h' : Hp}
    (hv : fUstr e x y h = some (v, h')) : VOk P (Builtin.unsafeString_ (t :: rest).toArray ty #[cx, cy]) φ h w v h' := by
  have ut := und_ok hT hu (by intro e; cases e)
  have ha : (t :: rest).toArray[0]? = some t := by simp
  unfold fUstr at hv
  split at hv
  · rename_i kd k
    rw [hy.int_inv]
    have n1 : ¬ (Int.ofNat k < 0) := by have := Int.natCast_nonneg k; show ¬ ((k : Int) < 0); omega
    split at hv
    · rename_i b o
      obtain ⟨l, hl, rfl⟩ := hx.ptr_inv
      cases h0 : Nat.beq k 0 with
      | true =>
        rw [h0] at hv
        have e0 := natbeq.1 h0
        subst e0
        cases hv
        exact vok_of hr (.string .empty) rfl (.str rfl)
      | false =>
        rw [h0] at hv
        have hk : k ≠ 0 := fun e => by rw [natbeq.2 e] at h0; cases h0
        simp only [cond_false] at hv
        unfold ustrAt at hv
        split at hv
        · rename_i m s d cs e' op frz hb
          obtain ⟨hcond, hv⟩ := bif_some hv
          simp only [Bool.and_eq_true] at hcond
          have e1 := natbeq.1 hcond.1.1.1
          have e2 := natbeq.1 hcond.1.1.2
          have e3 : o + k ≤ m := natble.1 hcond.1.2
          have hfz := hcond.2
          clear hcond
          subst e1 e2
          obtain ⟨C, f, hX, hC⟩ := Hp.get_cells hr hb hl
          have hend := hC.end_le
          have hsm := hC.small
          split at hv
          · rename_i bs hbs
            cases hv
            have hges : getEs h b o 1 k = some (chunksFrom d cs k o) := by
              unfold getEs
              rw [hb]
              have h1 : Nat.mod o 1 = 0 := Nat.mod_one o
              have h2 : Nat.div o 1 = o := Nat.div_one o
              have h3 : Nat.ble (Nat.add o k) m = true := natble.2 e3
              simp only [h1, h2, h3]; rfl
            obtain ⟨ccs, he⟩ := getEs_ok hr hges hl
            rw [flatL_eq] at hbs
            obtain ⟨ns, en, hns⟩ := bytesOf_ok he.cells.1 hbs
            have hlen : ns.length = k := by
              have h1 := he.cells.1.length
              rw [flatten_length _ he.width, he.count, en, List.length_map] at h1; omega
            have hload := run_loadBytes (P := P) (w := w) (b := l.blk) ns (l.off + o) .empty (fun j n hj => he.cells.2 j _ (by rw [en, List.getElem?_map, hj]; rfl))
            rw [hlen] at hload
            have s1 : w.shape? l.blk = some (e, C.size) := by simp [World.shape?, hX]
            obtain ⟨ti, hte, hi, hsi⟩ := size_ok hT (t := e) (by omega)
            have hcells : P.cellsOf e = 1 := by simp [Program.cellsOf, hi, hsi, hse]
            have hvar := run_variablesAt (P := P) (o := l.off + o) (k := k) hX hcells (by omega)
            have n2 : ¬ (Int.ofNat k > IntKind.i64.max) := by
              show ¬ ((k : Int) > 2 ^ 63 - 1)
              omega
            have n3 : ¬ (Int.ofNat k = 0) := by show ¬ ((k : Int) = 0); omega
            have hf1 := run_freeze (o := l.off + o) hX hk
            have hf2 : (if f.1 == f.2 then (l.off + o, l.off + o + k) else (min f.1 (l.off + o), max f.2 (l.off + o + k)) : Nat × Nat).2 ≤ l.off + m * 1 := by
              cases frz with
              | no =>
                have : f = (0, 0) := hC.frozen
                subst this
                simp; omega
              | str => cases hfz
              | yes =>
                have h3 : f.2 ≤ l.off + m * 1 := hC.frozen
                split
                · show l.off + o + k ≤ _; omega
                · show max f.2 (l.off + o + k) ≤ _; omega
            generalize (if f.1 == f.2 then (l.off + o, l.off + o + k) else (min f.1 (l.off + o), max f.2 (l.off + o + k)) : Nat × Nat) = f' at hf1 hf2
            obtain ⟨r1, r2⟩ := hr.set hb hl (o' := .cells m 1 d cs e op .yes) (X := .cells C e f') ⟨C, f', rfl, { hC with frozen := hf2 }⟩
            refine ⟨_, _, φ, ?_, r1, r2, .str (by rw [foldl_bytes]; exact hns)⟩
            rw [← hf1]
            have e9 : (Int.ofNat k).toNat = k := rfl
            rw [ustr_some]
            simp only [Sem.run_bind, Sem.run_pure, Result.andThen, n1, n2, n3, if_false, elemOf, run_underlying ut, e9, hvar, if_true, hload, freeze, Sem.run]
          · cases hv
        · cases hv
    · obtain ⟨h0, hv⟩ := bif_some hv
      have e0 := natbeq.1 h0
      subst e0
      cases hv
      cases hx
      exact vok_of hr (.string .empty) rfl (.str rfl)
    · cases hv
  · cases hv


/-! Functions without a Go body -/
/-- A call of a function without a Go body is this row. -/
def IsRow (P : Program) (f : FuncId) (s : Array Value → Sem Value) : Prop := ∀ (args : Array Value) (w : World), (callFunc f args).run P w = (do pure (Next.value (← s args)) : Sem Next).run P w

structure ExtOk (P : Program) : Prop where
  same : ∀ f fn, P.funcs[f]? = some fn → fn.body = none → fn.name = "internal/abi.NoEscape" → IsRow P f Extern.AbiNoEscape.same
  index : ∀ f fn, P.funcs[f]? = some fn → fn.body = none → fn.name = "internal/bytealg.IndexByteString" → IsRow P f Extern.BytealgIndexByte.indexByte
  count : ∀ f fn, P.funcs[f]? = some fn → fn.body = none → fn.name = "internal/bytealg.CountString" → IsRow P f Extern.BytealgCount.count
  made : ∀ f fn, P.funcs[f]? = some fn → fn.body = none → fn.name = "internal/bytealg.MakeNoZero" → ∃ ps rs t, IsRow P f (Extern.BytealgMakeNoZero.makeNoZero ps rs) ∧ rs[0]? = some t ∧ P.underlying t = some (.slice 5)

theorem digits_cells : ∀ (n t : Nat) (acc : Array Value), ∃ l : List Value, Extern.BytealgMakeNoZero.digits n t acc = acc ++ l.toArray ∧ l.length = n := by
  intro n
  induction n with
  | zero => intro t acc; exact ⟨[], by simp [Extern.BytealgMakeNoZero.digits], rfl⟩
  | succ n ih =>
    intro t acc
    obtain ⟨l, h1, h2⟩ := ih (t / 256) (acc.push (.int .u8 (Int.ofNat (t % 256))))
    refine ⟨.int .u8 (Int.ofNat (t % 256)) :: l, ?_, by rw [List.length_cons, h2]⟩
    unfold Extern.BytealgMakeNoZero.digits
    rw [h1]
    apply Array.ext'
    simp

theorem makeNoZero_eq (ps rs : Array TypeId) (n : Int) : Extern.BytealgMakeNoZero.makeNoZero ps rs #[.int .i64 n] = (do
    let some t := rs[0]? | stuck "bytealg.MakeNoZero: no result type"
    let .slice elem ← underlying t | stuck "bytealg.MakeNoZero: slice type expected"
    if n < 0 || n > 2 ^ 48 then runtimePanic (.error "makeslice: len out of range")
    let cap ← choose (.appendCap n.toNat 0 elem)
    askRoom cap
    let bytes ← choose (.extern "internal/bytealg.MakeNoZero.bytes" 0)
    let a ← newRow elem (Extern.BytealgMakeNoZero.digits cap bytes #[])
    pure (.slice (some a) n.toNat cap)) := rfl

theorem make_ok (hr : Rel φ h w) {ps rs : Array TypeId} {t : TypeId} (hrs : rs[0]? = some t) (hu : P.underlying t = some (.slice 5)) {n : Nat} (hn : n ≤ 1048576) :
    VOk P (Extern.BytealgMakeNoZero.makeNoZero ps rs #[.int .i64 (Int.ofNat n)]) φ h w (.opn h.next 0 n 1) (newS h 5 1 [] true .no) := by
  have hcap : n ≤ grownCap w n 0 5 := grownCap_ge _ _ _ _
  obtain ⟨r0, x0⟩ := hr.drawn (w.drawn + 2)
  let cp := grownCap w n 0 5
  let q : Question := .extern "internal/bytealg.MakeNoZero.bytes" 0
  let w2 : World := { w with drawn := w.drawn + 1 }
  let tv := q.cut (w2.tape w2.drawn q)
  obtain ⟨l, hl1, hl2⟩ := digits_cells cp tv #[]
  obtain ⟨φ', r1, r2, r3⟩ := newS_ok (h := h) (w := { w with drawn := w.drawn + 2 }) r0 (s := 1) (by omega) (L := []) (cvs := []) l (by simp) (fun x hx => nomatch hx) .nil (fun v hv => nomatch hv) (frz := .no) (f := (0, 0)) rfl (Nat.one_dvd _) 5
  have hlen : ([] ++ l).length = cp := by simpa using hl2
  rw [hlen] at r3
  refine ⟨.slice (some ⟨w.heap.size, 0, none⟩) n cp, _, φ', ?_, r1, x0.trans r2, ?_⟩
  · rw [makeNoZero_eq]
    have n1 : (decide (Int.ofNat n < 0) || decide (Int.ofNat n > 2 ^ 48)) = false := by
      have h1 : ¬ (Int.ofNat n < 0) := by have := Int.natCast_nonneg n; show ¬ ((n : Int) < 0); omega
      have h2 : ¬ (Int.ofNat n > 2 ^ 48) := by show ¬ ((n : Int) > 2 ^ 48); omega
      rw [decide_eq_false h1, decide_eq_false h2]; rfl
    have e1 : (Int.ofNat n).toNat = n := rfl
    have c1 : (choose (.appendCap n 0 5)).run P w = .ok cp { w with drawn := w.drawn + 1 } := rfl
    have c2 : (choose q).run P { w with drawn := w.drawn + 1 } = .ok tv { w with drawn := w.drawn + 2 } := rfl
    have c3 : ∀ c (w : World), (askRoom c).run P w = .ok () w := by
      intro c w; unfold askRoom; split <;> simp [mark, Sem.run]
    simp only [hrs]
    refine ok_bind (run_underlying hu w) ?_
    simp only [n1, Bool.false_eq_true, if_false, e1]
    refine ok_bind c1 (ok_bind (c3 _ _) (ok_bind c2 ?_))
    rw [hl1]
    have : (#[] ++ l.toArray : Array Value) = ([] ++ l).toArray := by simp
    rw [this]
    rfl
  · have := VRel.opn (φ := φ') (b := h.next) (o := 0) (len := n) (c := cp) (sz := 1) r3 rfl (by simp) hcap
    exact this

theorem indexByte_eq (s : ByteArray) (c : Int) : Extern.BytealgIndexByte.indexByte #[.string s, .int .u8 c] = (do
    match (List.range s.size).find? fun i => s[i]! == c.toNat.toUInt8 with
    | some i => pure (goInt i)
    | none => pure (goInt (-1))) := rfl

theorem count_eq (s : ByteArray) (c : Int) : Extern.BytealgCount.count #[.string s, .int .u8 c] = pure (goInt (s.foldl (fun n x => if x == c.toNat.toUInt8 then n + 1 else n) (0 : Nat))) := rfl

end Go.AX

/- THE ENGINE: operations, the eighteenth part: searches in strings. -/
namespace Go.AX
set_option linter.unusedSimpArgs false
set_option linter.unusedVariables false

variable {P : Program} {φ : Phi} {h : Hp} {w : World}

theorem foldl_loop {β : Type} (f : β → UInt8 → β) (as : ByteArray) (hs : as.size ≤ as.size) : ∀ (i j : Nat) (b : β), i + j = as.size →
    _root_.Id.run (ByteArray.foldlM.loop (m := _root_.Id) (β := β) (fun x y => pure (f x y)) as as.size hs i j b) = (as.data.toList.drop j).foldl f b := by
  intro i
  have hlen : as.data.toList.length = as.size := rfl
  induction i with
  | zero =>
    intro j b hj
    have : j = as.size := by omega
    subst this
    rw [List.drop_eq_nil_of_le (by omega)]
    unfold ByteArray.foldlM.loop
    simp
  | succ i ih =>
    intro j b hj
    have hlt : j < as.size := by omega
    unfold ByteArray.foldlM.loop
    rw [dif_pos hlt]
    have hl : j < as.data.toList.length := by omega
    rw [List.drop_eq_getElem_cons hl, List.foldl_cons]
    have e : as[j] = as.data.toList[j] := rfl
    rw [← e]
    have := ih (j + 1) (f b as[j]) (by omega)
    simpa using this

theorem bytes_foldl {β : Type} (f : β → UInt8 → β) (b : β) (as : ByteArray) : as.foldl f b = as.data.toList.foldl f b := by
  unfold ByteArray.foldl ByteArray.foldlM
  rw [dif_pos (Nat.le_refl _)]
  have := foldl_loop f as (Nat.le_refl _) as.size 0 b (by omega)
  simpa using this

theorem u8_eq (x : UInt8) (c : Nat) : (x == (Int.ofNat c).toNat.toUInt8) = Nat.beq x.toNat (Nat.mod c 256) := by
  have e : ((Int.ofNat c).toNat.toUInt8).toNat = c % 256 := by simp
  rw [Bool.eq_iff_iff, natbeq]
  constructor
  · intro h
    have := eq_of_beq h
    rw [this, e]; rfl
  · intro h
    have : x = (Int.ofNat c).toNat.toUInt8 := UInt8.toNat_inj.1 (by rw [e]; exact h)
    simp [this]

theorem count_ok {bs : ByteArray} {s : List Nat} (hb : bs.data.toList.map (·.toNat) = s) (c : Nat) :
    POk P (Extern.BytealgCount.count #[.string bs, .int .u8 (Int.ofNat c)]) φ w (.int .i64 (Int.ofNat (lenL (filtL (fun x => Nat.beq x (Nat.mod c 256)) s)))) := by
  rw [count_eq, bytes_foldl]
  refine ⟨_, rfl, ?_⟩
  have key : ∀ (l : List UInt8) (n : Int), l.foldl (fun n x => if x == (Int.ofNat c).toNat.toUInt8 then n + 1 else n) n = n + (((l.map (·.toNat)).filter (fun x => Nat.beq x (Nat.mod c 256))).length : Nat) := by
    intro l
    induction l with
    | nil => intro n; simp
    | cons x t ih =>
      intro n
      rw [List.foldl_cons, ih, List.map_cons]
      have e := u8_eq x c
      cases hx : Nat.beq x.toNat (Nat.mod c 256) with
      | true => rw [hx] at e; rw [List.filter_cons_of_pos (by simpa using hx), if_pos e, List.length_cons]; omega
      | false => rw [hx] at e; rw [List.filter_cons_of_neg (by rw [hx]; simp), if_neg (by rw [e]; simp)]
  rw [lenL_eq, filtL_eq, ← hb]
  refine .ret_int ?_
  rw [key]; simp

noncomputable def idxN (c : Nat) (s : List Nat) : Nat → Int := List.rec (motive := fun _ => Nat → Int) (fun _ => -1) (fun x _ ih i => bif Nat.beq x (Nat.mod c 256) then Int.ofNat i else ih (Nat.succ i)) s

theorem idxN_cons (c x : Nat) (t : List Nat) (i : Nat) : idxN c (x :: t) i = (bif Nat.beq x (Nat.mod c 256) then Int.ofNat i else idxN c t (i + 1)) := rfl

theorem index_ok {bs : ByteArray} {s : List Nat} (hb : bs.data.toList.map (·.toNat) = s) (c : Nat) :
    POk P (Extern.BytealgIndexByte.indexByte #[.string bs, .int .u8 (Int.ofNat c)]) φ w (.int .i64 (idxN c s 0)) := by
  refine ⟨_, run_indexByte_string bs (Int.ofNat c) w, ?_⟩
  have key : ∀ (m i : Nat), i + m = bs.size → (match (List.range' i m).find? fun i => bs[i]! == (Int.ofNat c).toNat.toUInt8 with | some i => (i : Int) | none => -1) = idxN c ((bs.data.toList.drop i).map (·.toNat)) i := by
    intro m
    have hlen : bs.data.toList.length = bs.size := rfl
    induction m with
    | zero => intro i hi; rw [List.drop_eq_nil_of_le (by omega)]; rfl
    | succ m ih =>
      intro i hi
      have hlt : i < bs.size := by omega
      rw [List.drop_eq_getElem_cons (by omega), List.map_cons, idxN_cons, List.range'_succ, List.find?_cons]
      have e1 : bs[i]! = bs.data.toList[i] := by
        rw [getElem!_pos bs i hlt]; rfl
      rw [e1, u8_eq]
      cases hx : Nat.beq (bs.data.toList[i]).toNat (Nat.mod c 256) with
      | true => rfl
      | false => exact ih (i + 1) (by omega)
  have := key bs.size 0 (by omega)
  rw [List.drop_zero, hb] at this
  unfold firstIdx
  rw [List.range_eq_range']
  exact .ret_int this.symm

theorem VRels.one {x : AV} {cs : List Value} (h : VRels φ [x] cs) : ∃ c, cs = [c] ∧ VRel φ x c := by
  cases h with
  | cons hx h => cases h; exact ⟨_, rfl, hx⟩
theorem VRels.two {x y : AV} {cs : List Value} (h : VRels φ [x, y] cs) : ∃ c d, cs = [c, d] ∧ VRel φ x c ∧ VRel φ y d := by
  cases h with
  | cons hx h =>
    cases h with
    | cons hy h => cases h; exact ⟨_, _, rfl, hx, hy⟩

/-- A call of a function without a Go body. -/
theorem externV_ok (hE : ExtOk P) {f : FuncId} {fn : Func} (hf : P.funcs[f]? = some fn) (hb : fn.body = none) (hr : Rel φ h w) {args : List AV} {cargs : List Value} (ha : VRels φ args cargs) {v : AV} {h' : Hp}
    (hv : externV h fn.name args = some (v, h')) : ∃ cv w' φ', (callFunc f cargs.toArray).run P w = .ok (.value cv) w' ∧ Rel φ' h' w' ∧ Ext φ h w φ' h' w' ∧ VRel φ' v cv := by
  have fin : ∀ {s : Array Value → Sem Value}, IsRow P f s → VOk P (s cargs.toArray) φ h w v h' → ∃ cv w' φ', (callFunc f cargs.toArray).run P w = .ok (.value cv) w' ∧ Rel φ' h' w' ∧ Ext φ h w φ' h' w' ∧ VRel φ' v cv := by
    rintro s hrow ⟨cv, w', φ', h1, h2, h3, h4⟩
    exact ⟨cv, w', φ', by rw [hrow, Sem.run_bind, h1]; rfl, h2, h3, h4⟩
  unfold externV at hv
  split at hv
  · rename_i s c
    obtain ⟨c1, c2, rfl, hs, hc⟩ := ha.two
    obtain ⟨bs, rfl, hbs⟩ := hs.str_inv
    have e := hc.int_inv
    subst e
    cases h1 : (fn.name == "internal/bytealg.IndexByteString") with
    | true =>
      rw [h1] at hv
      cases hv
      exact fin (hE.index f fn hf hb (eq_of_beq h1)) ((index_ok hbs c).vok hr)
    | false =>
      rw [h1] at hv
      simp only [cond_false] at hv
      obtain ⟨h2, hv⟩ := bif_some hv
      cases hv
      exact fin (hE.count f fn hf hb (eq_of_beq h2)) ((count_ok hbs c).vok hr)
  · rename_i x
    obtain ⟨c1, rfl, hx⟩ := ha.one
    cases h1 : (fn.name == "internal/abi.NoEscape") with
    | true =>
      rw [h1] at hv
      cases hv
      exact fin (hE.same f fn hf hb (eq_of_beq h1)) (vok_of hr _ rfl hx)
    | false =>
      rw [h1] at hv
      simp only [cond_false] at hv
      split at hv
      · obtain ⟨h2, hv⟩ := bif_some hv
        cases hv
        simp only [Bool.and_eq_true] at h2
        have e := hx.int_inv
        subst e
        obtain ⟨ps, rs, t, hrow, hrs, hu⟩ := hE.made f fn hf hb (eq_of_beq h2.1)
        exact fin hrow (make_ok hr hrs hu (natble.1 h2.2))
      · cases hv
  · cases hv

end Go.AX

/- THE ENGINE: operations, put together. -/
namespace Go.AX
set_option linter.unusedSimpArgs false
set_option linter.unusedVariables false

variable {P : Program}

/-- What an operation leaves. -/
def OpRes (P : Program) (φ : Phi) (h : Hp) (w : World) (v : AV) (h' : Hp) (s : Sem Next) : Prop :=
  ∃ nx w' φ', s.run P w = .ok nx w' ∧ ((nx = .skip ∧ v = .und) ∨ ∃ cv, nx = .value cv ∧ VRel φ' v cv) ∧ Rel φ' h' w' ∧ Ext φ h w φ' h' w'

/-- A call of a function's value. -/
def callVal (f : Value) (args : Array Value) : Sem Next := do
  let d ← Deferred.ofValue f args
  invoke d.target d.args

def OpSem (P : Program) (φ : Phi) (h : Hp) (w : World) (s : Sem Next) (p : ANext × Hp) : Prop :=
  match p.1 with
  | .value v => OpRes P φ h w v p.2 s
  | .call f args => p.2 = h ∧ ∃ cf cargs, VRel φ f cf ∧ VRels φ args cargs ∧ s.run P w = (callVal cf cargs.toArray).run P w
  | _ => True

section
variable {φ : Phi} {h : Hp} {w : World}
theorem OpRes.of_vok {s : Sem Value} {v : AV} {h' : Hp} (hv : VOk P s φ h w v h') : OpRes P φ h w v h' (do pure (.value (← s))) := by
  obtain ⟨cv, w', φ', h1, h2, h3, h4⟩ := hv
  exact ⟨_, w', φ', ok_bind h1 rfl, .inr ⟨cv, rfl, h4⟩, h2, h3⟩
theorem OpRes.of_pok {s : Sem Value} {v : AV} (hr : Rel φ h w) (hv : POk P s φ w v) : OpRes P φ h w v h (do pure (.value (← s))) := .of_vok (hv.vok hr)
theorem OpRes.of_uok {s : Sem Unit} {h' : Hp} (hv : UOk P s φ h w h') : OpRes P φ h w .und h' (do s; pure .skip) := by
  obtain ⟨w', φ', h1, h2, h3⟩ := hv
  exact ⟨_, w', φ', ok_bind h1 rfl, .inl ⟨rfl, rfl⟩, h2, h3⟩
theorem OpRes.of_val (hr : Rel φ h w) {v : AV} {cv : Value} (hv : VRel φ v cv) : OpRes P φ h w v h (pure (.value cv)) := ⟨_, w, φ, rfl, .inr ⟨cv, rfl, hv⟩, hr, Ext.refl _ _ _⟩
end

theorem op_cases (op : BinOp) (A B : OpF) : (op = .eql ∧ (match op with | .eql => A | .neq => B | _ => .bad) = A) ∨ (op = .neq ∧ (match op with | .eql => A | .neq => B | _ => .bad) = B) ∨ (match op with | .eql => A | .neq => B | _ => .bad) = .bad := by
  cases op <;> first | exact .inl ⟨rfl, rfl⟩ | exact .inr (.inl ⟨rfl, rfl⟩) | exact .inr (.inr rfl)

theorem evo_rel {T : Cx} {φ : Phi} {tm : PT AV} {c : Array Value} (ht : TmRel φ T.n tm c) (hg : GlobOk φ T.g) {x : Option Operand} {a : Option AO} (h : cOo T x = some a) : VRelO φ (evo tm a) (x.map (evalC c)) := by
  unfold cOo at h
  split at h
  · cases h; exact .none
  · split at h
    · rename_i ha; cases h; exact .some (cO_rel ha ht hg)
    · cases h

section
variable {φ : Phi} {h : Hp} {w : World} {T : Cx} (hT : TabOk P T.types) {tm : PT AV} {c : Array Value} (ht : TmRel φ T.n tm c) (hg : GlobOk φ T.g) (hr : Rel φ h w)
include hT ht hg hr

theorem bin_ok {op : BinOp} {t : TypeId} {x y : Operand} {p : ANext × Hp} (hv : opV (cBin T op t x y) tm h = some p) :
    ∃ v, p = (.value v, h) ∧ POk P (do eqGuard op t x y (evalC c x) (evalC c y); binOp op t (evalC c x) (evalC c y)) φ w v := by
  have noguard : op ≠ .eql → op ≠ .neq → ∀ a b, (eqGuard op t x y a b).run P w = .ok () w := by
    intro h1 h2 a b
    unfold eqGuard
    cases op <;> first | exact absurd rfl h1 | exact absurd rfl h2 | rfl
  have plain : op ≠ .eql → op ≠ .neq → ∀ {v}, POk P (binOp op t (evalC c x) (evalC c y)) φ w v → POk P (do eqGuard op t x y (evalC c x) (evalC c y); binOp op t (evalC c x) (evalC c y)) φ w v := by
    rintro h1 h2 v ⟨cv, hrun, hrel⟩
    exact ⟨cv, ok_bind (noguard h1 h2 _ _) hrun, hrel⟩
  have gint : ∀ {k k' : IntKind} {a b : Int}, (eqGuard op t x y (.int k a) (.int k' b)).run P w = .ok () w := by
    intro k k' a b
    cases op <;> rfl
  have gstr : ∀ {a b : ByteArray}, (eqGuard op t x y (.string a) (.string b)).run P w = .ok () w := by
    intro a b
    cases op <;> rfl
  have sh : op ≠ .eql → op ≠ .neq → opV (mk2 (cO T x) (cO T y) (.v2 (binShift op))) tm h = some p →
      ∃ v, p = (.value v, h) ∧ POk P (do eqGuard op t x y (evalC c x) (evalC c y); binOp op t (evalC c x) (evalC c y)) φ w v := by
    intro h1 h2 hv
    obtain ⟨a, b, ha, hb, hw⟩ := inv_mk2 hv
    obtain ⟨v, hq, rfl⟩ := inv_v2 hw
    refine ⟨v, rfl, plain h1 h2 ?_⟩
    have ra := cO_rel ha ht hg
    have rb := cO_rel hb ht hg
    unfold binShift at hq
    split at hq
    · rename_i e1 e2
      rw [e1] at ra; rw [e2] at rb
      rw [ra.int_inv, rb.int_inv]
      exact shift_ok hq
    · cases hq
  have eqs : ∀ neg, ((op = .eql ∧ neg = false) ∨ (op = .neq ∧ neg = true)) → opV (mk2 (cO T x) (cO T y) (.h2 (binEq (ckOf T t x y) neg))) tm h = some p →
      ∃ v, p = (.value v, h) ∧ POk P (do eqGuard op t x y (evalC c x) (evalC c y); binOp op t (evalC c x) (evalC c y)) φ w v := by
    intro neg hneg hv
    have hop : op = .eql ∨ op = .neq := hneg.imp And.left And.left
    obtain ⟨a, b, ha, hb, hw⟩ := inv_mk2 hv
    obtain ⟨v, hq, rfl⟩ := inv_h2 hw
    refine ⟨v, rfl, ?_⟩
    unfold binEq at hq
    split at hq
    · rename_i r he
      cases hq
      refine ⟨_, eqAt_ok hT hr (cO_rel ha ht hg) (cO_rel hb ht hg) nilO_const nilO_const he hop, ?_⟩
      rcases hneg with ⟨e1, e2⟩ | ⟨e1, e2⟩ <;> (rw [e1, e2]; exact .bool _)
    · cases hq
  have rest : (op ≠ .shl ∧ op ≠ .shr) → opV (match (generalizing := false) undT T t with
      | .int _ => mk2 (cO T x) (cO T y) (.v2 (binInt (arithF op)))
      | .string => mk2 (cO T x) (cO T y) (.v2 (binStr op))
      | _ => match (generalizing := false) op with
        | .eql => mk2 (cO T x) (cO T y) (.h2 (binEq (ckOf T t x y) false))
        | .neq => mk2 (cO T x) (cO T y) (.h2 (binEq (ckOf T t x y) true))
        | _ => .bad) tm h = some p →
      ∃ v, p = (.value v, h) ∧ POk P (do eqGuard op t x y (evalC c x) (evalC c y); binOp op t (evalC c x) (evalC c y)) φ w v := by
    intro hns hv
    split at hv
    · obtain ⟨a, b, ha, hb, hw⟩ := inv_mk2 hv
      obtain ⟨v, hq, rfl⟩ := inv_v2 hw
      refine ⟨v, rfl, ?_⟩
      have ra := cO_rel ha ht hg
      have rb := cO_rel hb ht hg
      unfold binInt at hq
      split at hq
      · rename_i k i k' j e1 e2
        obtain ⟨h0, hq2⟩ := bif_some hq
        clear hq
        have h1 : k = k' := by simpa using h0
        subst h1
        rw [e1] at ra; rw [e2] at rb
        rw [ra.int_inv, rb.int_inv]
        obtain ⟨cv, hrun, hrel⟩ := int_ok (P := P) (φ := φ) (w := w) (t := t) hq2 hns
        exact ⟨cv, ok_bind gint hrun, hrel⟩
      · cases hq
    · obtain ⟨a, b, ha, hb, hw⟩ := inv_mk2 hv
      obtain ⟨v, hq, rfl⟩ := inv_v2 hw
      refine ⟨v, rfl, ?_⟩
      have ra := cO_rel ha ht hg
      have rb := cO_rel hb ht hg
      unfold binStr at hq
      split at hq
      · rename_i i j e1 e2
        rw [e1] at ra; rw [e2] at rb
        obtain ⟨ba, ea, ha⟩ := ra.str_inv
        obtain ⟨bb, eb, hb⟩ := rb.str_inv
        rw [ea, eb]
        obtain ⟨cv, hrun, hrel⟩ := strOp_ok (P := P) (φ := φ) (w := w) (t := t) ha hb hq
        exact ⟨cv, ok_bind gstr hrun, hrel⟩
      · cases hq
    · rcases op_cases op (mk2 (cO T x) (cO T y) (.h2 (binEq (ckOf T t x y) false))) (mk2 (cO T x) (cO T y) (.h2 (binEq (ckOf T t x y) true))) with ⟨h1, e⟩ | ⟨h1, e⟩ | e
      · rw [e] at hv; exact eqs false (.inl ⟨h1, rfl⟩) hv
      · rw [e] at hv; exact eqs true (.inr ⟨h1, rfl⟩) hv
      · rw [e] at hv; exact (inv_bad hv).elim
  unfold cBin at hv
  cases op
  case shl => exact sh (by intro e; cases e) (by intro e; cases e) hv
  case shr => exact sh (by intro e; cases e) (by intro e; cases e) hv
  all_goals exact rest ⟨(by intro e; cases e), (by intro e; cases e)⟩ hv
end

end Go.AX

/- THE ENGINE: every operation. -/
namespace Go.AX
set_option linter.unusedSimpArgs false
set_option linter.unusedVariables false

variable {P : Program}

section
variable {φ : Phi} {h : Hp} {w : World} {T : Cx} (hT : TabOk P T.types) {tm : PT AV} {c : Array Value} (ht : TmRel φ T.n tm c) (hg : GlobOk φ T.g) (hr : Rel φ h w)
include hT ht hg hr

omit hT hr in
theorem cOsA_rel {l : Array Operand} {as : List AO} (h : cOs T l.toList = some as) : VRels φ (mapL (ev tm) as) (l.map (evalC c)).toList := by
  rw [mapL_eq, Array.toList_map]
  exact cOs_rel h ht hg

theorem builtin_ok {b : Builtin} {ts : Array TypeId} {args : Array Operand} {ty : TypeId} {cs : Array Bool} {p : ANext × Hp} (hv : opV (cBuiltin T b ts.toList args.toList) tm h = some p) :
    OpSem P φ h w (builtin b ts ty cs (args.map (evalC c))) p := by
  obtain ⟨ts⟩ := ts
  obtain ⟨args⟩ := args
  simp only at hv
  unfold cBuiltin at hv
  split at hv
  · -- len
    rename_i t rest x
    obtain ⟨a, ha, hv1⟩ := inv_mkI0 hv
    obtain ⟨v, hq, rfl⟩ := inv_h1 hv1
    have := len_ok (P := P) (w := w) (rest := rest) (ty := ty) hT hr (cO_rel ha ht hg) hq
    exact OpRes.of_pok hr (by simpa using this)
  · -- cap
    rename_i t rest x
    split at hv
    · rename_i e hu
      obtain ⟨a, ha, hv1⟩ := inv_mkI0 hv
      obtain ⟨v, hq, rfl⟩ := inv_v1 hv1
      have := cap_ok (P := P) (w := w) (rest := rest) (ty := ty) hT hu (cO_rel ha ht hg) hq
      exact OpRes.of_pok hr (by simpa using this)
    · exact (inv_bad hv).elim
  · -- append
    rename_i t u s x
    unfold cAppend at hv
    split at hv
    · rename_i e hu
      have hui : ∀ k, undT T u ≠ .int k → True := fun _ _ => trivial
      cases hd : undT T u with
      | int k => rw [hd] at hv; exact (inv_bad hv).elim
      | _ =>
        rw [hd] at hv
        simp only [] at hv
        split at hv
        · rename_i z hz
          cases hk : (!known T u || Nat.blt 1048576 (bytesT T e)) with
          | true => rw [hk] at hv; exact (inv_bad hv).elim
          | false =>
            rw [hk] at hv
            simp only [cond_false] at hv
            simp only [Bool.or_eq_false_iff, Bool.not_eq_false'] at hk
            have hby : bytesT T e ≤ 1048576 := by
              apply Nat.le_of_not_lt
              intro hlt
              have := hk.2
              rw [natblt.2 hlt] at this; cases this
            obtain ⟨a, b, ha, hb, hv1⟩ := inv_mk2 hv
            obtain ⟨v, h', hq, rfl⟩ := inv_e2 hv1
            have := append_ok (P := P) (w := w) (ty := ty) hT hu hk.1 (by intro k; rw [hd]; intro e; cases e) hz hby hr (cO_rel ha ht hg) (cO_rel hb ht hg) hq
            exact OpRes.of_vok (by simpa using this)
        · exact (inv_bad hv).elim
    · exact (inv_bad hv).elim
  · -- copy
    rename_i t u d s
    split at hv
    · rename_i e hu
      cases h0 : Nat.beq (sizeT T e) 0 with
      | true => rw [h0] at hv; exact (inv_bad hv).elim
      | false =>
        have he : sizeT T e ≠ 0 := fun e => by rw [natbeq.2 e] at h0; cases h0
        rw [h0] at hv
        simp only [cond_false] at hv
        obtain ⟨a, b, ha, hb, hv1⟩ := inv_mk2 hv
        obtain ⟨v, h', hq, rfl⟩ := inv_e2 hv1
        have := copy_ok (P := P) (w := w) (ty := ty) (u := u) hT hu he hr (cO_rel ha ht hg) (cO_rel hb ht hg) hq
        exact OpRes.of_vok (by simpa using this)
    · exact (inv_bad hv).elim
  · -- min
    rename_i ts' x xs
    split at hv
    · rename_i a l ha hl
      have hv : oV h (minmax iltB (mapL (ev tm) l) (ev tm a)) = some p := hv
      obtain ⟨v, hq, rfl⟩ := oV_inv hv
      rw [mapL_eq] at hq
      obtain ⟨cv, h1, h2⟩ := minmax_ok (P := P) (w := w) (f := Builtin.min2) (lt := iltB) (by intro k x k' y; simp [Builtin.min2, iltB, cond_eq_ite]) (cOs_rel hl ht hg) (cO_rel ha ht hg) hq
      exact OpRes.of_pok hr ⟨cv, by simpa [Builtin.min_] using h1, h2⟩
    · exact (inv_bad hv).elim
  · -- max
    rename_i ts' x xs
    split at hv
    · rename_i a l ha hl
      have hv : oV h (minmax (fun a b => iltB b a) (mapL (ev tm) l) (ev tm a)) = some p := hv
      obtain ⟨v, hq, rfl⟩ := oV_inv hv
      rw [mapL_eq] at hq
      obtain ⟨cv, h1, h2⟩ := minmax_ok (P := P) (w := w) (f := Builtin.max2) (lt := fun a b => iltB b a) (by intro k x k' y; simp [Builtin.max2, iltB, cond_eq_ite]) (cOs_rel hl ht hg) (cO_rel ha ht hg) hq
      exact OpRes.of_pok hr ⟨cv, by simpa [Builtin.max_] using h1, h2⟩
    · exact (inv_bad hv).elim
  · -- delete
    rename_i t u m k
    split at hv
    · rename_i kt et hu
      split at hv
      · rename_i kk hk
        obtain ⟨a, b, ha, hb, hv1⟩ := inv_mk2 hv
        obtain ⟨h', hq, rfl⟩ := inv_s2 hv1
        have := delete_ok (P := P) (w := w) (ty := ty) (u := u) hT hu hk hr (cO_rel ha ht hg) (cO_rel hb ht hg) hq
        exact OpRes.of_vok (by simpa using this)
      · exact (inv_bad hv).elim
    · exact (inv_bad hv).elim
  · -- clear
    rename_i t x
    split at hv
    · rename_i e hu
      split at hv
      · rename_i z hz
        obtain ⟨a, ha, hv1⟩ := inv_mkI0 hv
        have hv1 : oH (fClr z (sizeT T e) (ev tm a) h) = some p := hv1
        obtain ⟨h', hq, rfl⟩ := oH_inv hv1
        have := clear_ok (P := P) (w := w) (ty := ty) hT hu hz hr (cO_rel ha ht hg) hq
        exact OpRes.of_vok (by simpa using this)
      · exact (inv_bad hv).elim
    · exact (inv_bad hv).elim
  · -- unsafe.String
    rename_i t rest p' n
    split at hv
    · rename_i e hu
      split at hv
      · rename_i hue
        cases h0 : Nat.beq (sizeT T e) 1 with
        | false => rw [h0] at hv; exact (inv_bad hv).elim
        | true =>
          rw [h0] at hv
          simp only [cond_true] at hv
          obtain ⟨a, b, ha, hb, hv1⟩ := inv_mk2 hv
          obtain ⟨v, h', hq, rfl⟩ := inv_e2 hv1
          have := ustr_ok (P := P) (w := w) (ty := ty) (rest := rest) hT hu hue (natbeq.1 h0) hr (cO_rel ha ht hg) (cO_rel hb ht hg) hq
          exact OpRes.of_vok (by simpa using this)
      · exact (inv_bad hv).elim
    · exact (inv_bad hv).elim
  · -- unsafe.SliceData
    rename_i ts' x
    obtain ⟨a, ha, hv1⟩ := inv_mkI0 hv
    obtain ⟨v, hq, rfl⟩ := inv_v1 hv1
    have := fun ts => udat_ok (P := P) (w := w) (ts := ts) (ty := ty) (cO_rel ha ht hg) hq
    exact OpRes.of_pok hr (by simpa using this _)
  · -- recover
    have hv : some (ANext.recover, h) = some p := hv
    cases hv
    trivial
  · exact (inv_bad hv).elim

end

end Go.AX

/- THE ENGINE: every operation: the theorem. -/
namespace Go.AX
set_option linter.unusedSimpArgs false
set_option linter.unusedVariables false

variable {P : Program}

section
variable {φ : Phi} {h : Hp} {w : World} {T : Cx} (hT : TabOk P T.types) {tm : PT AV} {c : Array Value} (ht : TmRel φ T.n tm c) (hg : GlobOk φ T.g) (hr : Rel φ h w)
include hT ht hg hr

theorem call_ok {cl : Call} {ty : TypeId} {p : ANext × Hp} (hv : opV (cCall T cl) tm h = some p) : OpSem P φ h w (do let d ← resolve (evalC c) cl ty; invoke d.target d.args) p := by
  obtain ⟨callee, args, argTypes⟩ := cl
  cases callee with
  | builtin b => exact builtin_ok hT ht hg hr hv
  | value f =>
    unfold cCall at hv
    simp only [] at hv
    split at hv
    · rename_i a l ha hl
      have hv : some (ANext.call (ev tm a) (mapL (ev tm) l), h) = some p := hv
      cases hv
      exact ⟨rfl, _, (args.map (evalC c)).toList, cO_rel ha ht hg, cOsA_rel ht hg hl, by rw [Array.toArray_toList]; rfl⟩
    · exact (inv_bad hv).elim
  | invoke r name =>
    unfold cCall at hv
    simp only [] at hv
    split at hv
    · rename_i a l ha hl
      have hv : some (ANext.call (.mth name [ev tm a]) (mapL (ev tm) l), h) = some p := hv
      cases hv
      refine ⟨rfl, .func (.method name) #[evalC c r] #[], (args.map (evalC c)).toList, .mth (fa := [evalC c r]) (.cons (cO_rel ha ht hg) .nil), cOsA_rel ht hg hl, ?_⟩
      rw [Array.toArray_toList]; rfl
    · exact (inv_bad hv).elim

omit hT ht hg hr in
theorem map_ok {t : TypeId} {f : KK → AV → OpF} {p : ANext × Hp} (hv : opV (cMap T t f) tm h = some p) : ∃ kt et kk z, undT T t = .map kt et ∧ keyT T kt = some kk ∧ zval T et = some z ∧ opV (f kk z) tm h = some p := by
  unfold cMap at hv
  split at hv
  · rename_i kt et hu
    split at hv
    · rename_i z hz
      split at hv
      · rename_i kk hk
        exact ⟨kt, et, kk, z, hu, hk, hz, hv⟩
      · exact (inv_bad hv).elim
    · exact (inv_bad hv).elim
  · exact (inv_bad hv).elim

omit hT ht hg hr in
theorem convV_same {h : Hp} {vk : VK} (hk : ∀ e, vk = .sb e → False) {x v : AV} {h' : Hp} (hv : convV h vk x = some (v, h')) : h' = h := by
  unfold convV at hv
  split at hv <;> first
    | (cases hv; rfl)
    | exact absurd rfl (hk _)
    | (split at hv <;> first | (cases hv; done) | (split at hv <;> first | (cases hv; rfl) | (cases hv; done)) | (obtain ⟨_, hv⟩ := bif_some hv; cases hv; rfl))
    | cases hv

theorem op_ok {o : Oper} {p : ANext × Hp} (hv : opV (cOp T o.op) tm h = some p) : OpSem P φ h w (execOp (evalC c) o) p := by
  have ex : ∀ {x : Op} {s : Sem Next}, o.op = x → (execOp (evalC c) o = s) → OpSem P φ h w s p → OpSem P φ h w (execOp (evalC c) o) p := fun _ e h => e ▸ h
  generalize hop : o.op = x at hv
  unfold execOp
  simp only [hop]
  cases x with
  | move x =>
    obtain ⟨a, ha, hv1⟩ := inv_mkI0 hv
    have hv1 : some (ANext.value (ev tm a), h) = some p := hv1
    cases hv1
    exact OpRes.of_val hr (cO_rel ha ht hg)
  | assign x =>
    obtain ⟨a, ha, hv1⟩ := inv_mkI0 hv
    have hv1 : some (ANext.value (ev tm a), h) = some p := hv1
    cases hv1
    exact OpRes.of_val hr (cO_rel ha ht hg)
  | pick x y z =>
    obtain ⟨a, b, d, ha, hb, hd, hv1⟩ := inv_mk3 hv
    have hv1 : r_pick a b d tm h = some p := hv1
    unfold r_pick at hv1
    split at hv1
    · rename_i t e1
      cases hv1
      have rx := cO_rel ha ht hg
      rw [e1] at rx
      show OpSem P φ h w (do pure (.value (if ← asBool (evalC c x) then evalC c y else evalC c z))) _
      rw [rx.bool_inv]
      cases t with
      | true => exact ⟨_, w, φ, by simp [asBool], .inr ⟨_, rfl, cO_rel hb ht hg⟩, hr, Ext.refl _ _ _⟩
      | false => exact ⟨_, w, φ, by simp [asBool], .inr ⟨_, rfl, cO_rel hd ht hg⟩, hr, Ext.refl _ _ _⟩
    · cases hv1
  | alloc e =>
    unfold cOp at hv
    simp only [] at hv
    split at hv
    · rename_i z hz
      have hv1 : some (ANext.value (.ptr h.next 0), h.new (.cells 1 (sizeT T e) z .leaf e false .no)) = some p := hv
      cases hv1
      exact OpRes.of_vok (alloc_ok hT hr hz)
    · exact (inv_bad hv).elim
  | box e x =>
    unfold cOp at hv
    simp only [] at hv
    cases h0 : Nat.beq (sizeT T e) 0 with
    | true => rw [h0] at hv; exact (inv_bad hv).elim
    | false =>
      have he : sizeT T e ≠ 0 := fun e => by rw [natbeq.2 e] at h0; cases h0
      rw [h0] at hv
      obtain ⟨a, ha, hv1⟩ := inv_mkI0 hv
      obtain ⟨v, h', hq, rfl⟩ := inv_e1 hv1
      exact OpRes.of_vok (box_ok hr he (cO_rel ha ht hg) hq)
  | build t ps =>
    obtain ⟨v, rfl, hp⟩ := build_ok (P := P) (w := w) hT ht hg hr hv
    refine OpRes.of_pok hr ?_
    have e : (ps.toList.map fun (i, x) => (i, evalC c x)).toArray = ps.map fun (i, x) => (i, evalC c x) := by apply Array.ext'; simp
    rw [e] at hp
    exact hp
  | buildSlice t len ps =>
    obtain ⟨v, h', rfl, hp⟩ := buildSlice_ok (P := P) (w := w) hT ht hg hr hv
    refine OpRes.of_vok ?_
    have e : (ps.toList.map fun (i, x) => (i, evalC c x)).toArray = ps.map fun (i, x) => (i, evalC c x) := by apply Array.ext'; simp
    rw [e] at hp
    exact hp
  | load t a =>
    unfold cOp at hv
    simp only [] at hv
    cases hk : known T t with
    | false => rw [hk] at hv; exact (inv_bad hv).elim
    | true =>
      rw [hk] at hv
      simp only [cond_true] at hv
      obtain ⟨a', ha, hv1⟩ := inv_mkI0 hv
      refine (?_ : OpSem P φ h w _ p)
      have : ∃ v, (bif isAggD (undT T t) then fLdN (sizeT T t) (ev tm a') h else fLd1 (ev tm a') h) = some v ∧ p = (.value v, h) := by
        cases hA : isAggD (undT T t) with
        | true => rw [hA] at hv1; exact inv_h1 hv1
        | false => rw [hA] at hv1; exact inv_h1 hv1
      obtain ⟨v, hq, rfl⟩ := this
      exact OpRes.of_pok hr (loadAt_ok hT hk hr (cO_rel ha ht hg) hq)
  | store t a x =>
    unfold cOp at hv
    simp only [] at hv
    cases hk : known T t with
    | false => rw [hk] at hv; exact (inv_bad hv).elim
    | true =>
      rw [hk] at hv
      simp only [cond_true] at hv
      obtain ⟨a', b', ha, hb, hv1⟩ := inv_mk2 hv
      have : ∃ h', (bif isAggD (undT T t) then fStN (sizeT T t) (ev tm a') (ev tm b') h else bif Nat.beq (sizeT T t) 1 then fSt1 (ev tm a') (ev tm b') h else none) = some h' ∧ p = (.value .und, h') := by
        cases hA : isAggD (undT T t) with
        | true => rw [hA] at hv1; exact inv_s2 hv1
        | false =>
          rw [hA] at hv1
          cases h1 : Nat.beq (sizeT T t) 1 with
          | true => rw [h1] at hv1; exact inv_s2 hv1
          | false => rw [h1] at hv1; exact (inv_bad hv1).elim
      obtain ⟨h', hq, rfl⟩ := this
      exact OpRes.of_uok (store_ok hT hk hr (cO_rel ha ht hg) (cO_rel hb ht hg) hq)
  | nilCheck x =>
    obtain ⟨a, ha, hv1⟩ := inv_mkI0 hv
    obtain ⟨v, hq, rfl⟩ := inv_v1 hv1
    obtain ⟨cv, h1, h2⟩ := nilCheck_ok (w := w) hT (o := o) (ρ := evalC c) hop (cO_rel ha ht hg) hq
    unfold execOp at h1
    simp only [hop] at h1
    exact ⟨_, w, φ, h1, .inr ⟨cv, rfl, h2⟩, hr, Ext.refl _ _ _⟩
  | binOp op t x y yt =>
    obtain ⟨v, rfl, hp⟩ := bin_ok (P := P) (w := w) hT ht hg hr hv
    exact OpRes.of_pok hr hp
  | unOp op t x =>
    obtain ⟨a, ha, hv1⟩ := inv_mkI0 hv
    obtain ⟨v, hq, rfl⟩ := inv_v1 hv1
    exact OpRes.of_pok hr (un_ok (cO_rel ha ht hg) hq)
  | convert src dst x =>
    have hv : opV (cConv T (vkOf T src dst) x) tm h = some p := hv
    unfold cConv at hv
    split at hv
    · rename_i e hk
      obtain ⟨a, ha, hv1⟩ := inv_mkI0 hv
      obtain ⟨v, h', hq, rfl⟩ := inv_e1 hv1
      rw [← hk] at hq
      exact OpRes.of_vok (conv_ok hT hr (cO_rel ha ht hg) hq)
    · rename_i hk
      obtain ⟨a, ha, hv1⟩ := inv_mkI0 hv
      obtain ⟨v, hq, rfl⟩ := inv_h1 hv1
      unfold convR at hq
      cases hc : convV h (vkOf T src dst) (ev tm a) with
      | none => rw [hc] at hq; cases hq
      | some q =>
        rw [hc] at hq
        obtain ⟨v', h'⟩ := q
        cases hq
        have e := convV_same hk hc
        subst e
        exact OpRes.of_vok (conv_ok hT hr (cO_rel ha ht hg) hc)
  | makeInterface t x =>
    unfold cOp at hv
    simp only [] at hv
    have key : ∀ d, undT T t = d → d ≠ .invalid → (∀ ms, d ≠ .interface ms) → opV (mkI0 (cO T x) (.v1 (fun v => some (.ifc t v)))) tm h = some p → OpSem P φ h w (do pure (.value (← Instr.makeInterface t (evalC c x)))) p := by
      intro d hu hd hm hv
      obtain ⟨a, ha, hv1⟩ := inv_mkI0 hv
      obtain ⟨v, hq, rfl⟩ := inv_v1 hv1
      cases hq
      refine OpRes.of_pok hr ⟨_, ?_, .ifc (cO_rel ha ht hg)⟩
      have hue := run_und hT hu hd w
      unfold Instr.makeInterface
      refine ok_bind hue ?_
      cases d <;> first | rfl | exact absurd rfl (hm _)
    cases hd : undT T t <;> rw [hd] at hv <;> first | exact (inv_bad hv).elim | exact key _ hd (by intro e; cases e) (by intro ms e; cases e) hv
  | makeFunc fn first captured =>
    have hv : opV (cMakeFunc T fn first.toList captured.toList) tm h = some p := hv
    unfold cMakeFunc at hv
    split at hv
    · split at hv
      · rename_i a b ha hb
        have hv1 : some (ANext.value (.fn _ (mapL (ev tm) a) (mapL (ev tm) b)), h) = some p := hv
        cases hv1
        refine OpRes.of_pok hr ⟨_, rfl, ?_⟩
        have := fun f => VRel.fn (φ := φ) (f := f) (cOsA_rel ht hg ha) (cOsA_rel ht hg hb)
        rw [Array.toArray_toList, Array.toArray_toList] at this
        exact this _
      · exact (inv_bad hv).elim
    · split at hv
      · rename_i a ha hb
        have hv1 : some (ANext.value (.mth _ (mapL (ev tm) a)), h) = some p := hv
        cases hv1
        refine OpRes.of_pok hr ⟨_, rfl, ?_⟩
        have h2 : captured = #[] := by simpa using hb
        subst h2
        rw [Array.map_empty]
        have := fun n => VRel.mth (φ := φ) (name := n) (cOsA_rel ht hg ha)
        rw [Array.toArray_toList] at this
        exact this _
      · exact (inv_bad hv).elim
    · exact (inv_bad hv).elim
  | makeMap t r =>
    unfold cOp at hv
    simp only [] at hv
    have hle : φ.le (φ.add h.next ⟨w.heap.size, 0, 0, 0⟩) := Phi.le_add _ (hr.fresh _ (Nat.le_refl _))
    obtain ⟨r1, r2⟩ := hr.new (o' := .map [] 0) ⟨w.heap.size, 0, 0, 0⟩ rfl (X := .map #[] 0) ⟨[], rfl, .nil⟩
    have hm : VRel (φ.add h.next ⟨w.heap.size, 0, 0, 0⟩) (.map h.next) (.map (some w.heap.size)) := .map (l := ⟨w.heap.size, 0, 0, 0⟩) (Phi.add_same _ _ _)
    split at hv
    · rename_i kt et hu
      have hv1 : some (ANext.value (.map h.next), h.new (.map [] 0)) = some p := hv
      cases hv1
      exact OpRes.of_vok ⟨_, _, _, by simp only [Instr.makeMap, newObj, Sem.run_bind, Sem.run, Result.andThen, Sem.run_pure, Option.map_none]; rfl, r1, r2, hm⟩
    · rename_i kt et x hu
      obtain ⟨a, ha, hv1⟩ := inv_mkI0 hv
      obtain ⟨v, h', hq, rfl⟩ := inv_e1 hv1
      unfold fMkMr at hq
      split at hq
      · rename_i e1
        cases hq
        have rx := cO_rel ha ht hg
        rw [e1] at rx
        have hue := und_ok hT hu (by intro e; cases e)
        exact OpRes.of_vok ⟨_, _, _, by simp only [Instr.makeMap, rx.int_inv, run_underlying hue, asInt, asIntOf, newObj, Sem.run_bind, Sem.run, Result.andThen, Sem.run_pure, Option.map_some]; rfl, r1, r2, hm⟩
      · cases hq
    · exact (inv_bad hv).elim
  | makeSlice t l cp =>
    have hv : opV (cMakeSlice T t l cp) tm h = some p := hv
    unfold cMakeSlice at hv
    split at hv
    · rename_i e hu
      split at hv
      · rename_i z hz
        cases hk : (Nat.beq (sizeT T e) 0 || Nat.blt 1048576 (bytesT T e)) with
        | true => rw [hk] at hv; exact (inv_bad hv).elim
        | false =>
          rw [hk] at hv
          simp only [cond_false] at hv
          simp only [Bool.or_eq_false_iff] at hk
          have hby : bytesT T e ≤ 1048576 := by
            apply Nat.le_of_not_lt
            intro hlt
            have := hk.2
            rw [natblt.2 hlt] at this; cases this
          obtain ⟨a, b, ha, hb, hv1⟩ := inv_mk2 hv
          obtain ⟨v, h', hq, rfl⟩ := inv_e2 hv1
          exact OpRes.of_vok (makeSlice_ok hT hu hz hby hr (cO_rel ha ht hg) (cO_rel hb ht hg) hq)
      · exact (inv_bad hv).elim
    · exact (inv_bad hv).elim
  | slice t x lo hi mx =>
    have hv : opV (cSlice T t x lo hi mx) tm h = some p := hv
    unfold cSlice at hv
    split at hv
    · rename_i a l hh m ha hl hhi hm
      have hv1 : oV h (sliceV (skOf T t) (ev tm a) (evo tm l) (evo tm hh) (evo tm m)) = some p := hv
      obtain ⟨v, hq, rfl⟩ := oV_inv hv1
      exact OpRes.of_pok hr (slice_ok hT (cO_rel ha ht hg) (evo_rel ht hg hl) (evo_rel ht hg hhi) (evo_rel ht hg hm) hq)
    · exact (inv_bad hv).elim
  | fieldAddr t x f =>
    have hv : opV (cFieldAddr T t x f) tm h = some p := hv
    unfold cFieldAddr at hv
    split at hv
    · rename_i fs hu
      split at hv
      · rename_i fd hf
        cases h0 : Nat.beq (sizeT T fd.type) 0 with
        | true => rw [h0] at hv; exact (inv_bad hv).elim
        | false =>
          have he : sizeT T fd.type ≠ 0 := fun e => by rw [natbeq.2 e] at h0; cases h0
          rw [h0] at hv
          obtain ⟨a, ha, hv1⟩ := inv_mkI0 hv
          obtain ⟨v, hq, rfl⟩ := inv_v1 hv1
          exact OpRes.of_pok hr (fieldAt_ok hT hu hf he (cO_rel ha ht hg) hq)
      · exact (inv_bad hv).elim
    · exact (inv_bad hv).elim
  | field t x f =>
    have hv : opV (cField T t x f) tm h = some p := hv
    unfold cField at hv
    split at hv
    · rename_i fs hu
      split at hv
      · rename_i fd hf
        cases hk : known T fd.type with
        | false => rw [hk] at hv; exact (inv_bad hv).elim
        | true =>
          rw [hk] at hv
          obtain ⟨a, ha, hv1⟩ := inv_mkI0 hv
          have : ∃ v, (bif isAggD (undT T fd.type) then fFlN fd.offset (sizeT T fd.type) (ev tm a) else fFl1 fd.offset (ev tm a)) = some v ∧ p = (.value v, h) := by
            cases hA : isAggD (undT T fd.type) with
            | true => rw [hA] at hv1; exact inv_v1 hv1
            | false => rw [hA] at hv1; exact inv_v1 hv1
          obtain ⟨v, hq, rfl⟩ := this
          exact OpRes.of_pok hr (field_ok hT hu hf hk (cO_rel ha ht hg) hq)
      · exact (inv_bad hv).elim
    · exact (inv_bad hv).elim
  | indexAddr t x i =>
    have hv : opV (cIndexAddr T t x i) tm h = some p := hv
    unfold cIndexAddr at hv
    split at hv
    · rename_i n e hu
      cases h0 : Nat.beq (sizeT T e) 0 with
      | true => rw [h0] at hv; exact (inv_bad hv).elim
      | false =>
        rw [h0] at hv
        obtain ⟨a, b, ha, hb, hv1⟩ := inv_mk2 hv
        obtain ⟨v, hq, rfl⟩ := inv_v2 hv1
        exact OpRes.of_pok hr (indexAt_ok hT (cO_rel ha ht hg) (cO_rel hb ht hg) (by rw [hu]; simp only [h0, cond_false]; exact hq))
    · rename_i e hu
      cases h0 : Nat.beq (sizeT T e) 0 with
      | true => rw [h0] at hv; exact (inv_bad hv).elim
      | false =>
        rw [h0] at hv
        obtain ⟨a, b, ha, hb, hv1⟩ := inv_mk2 hv
        obtain ⟨v, hq, rfl⟩ := inv_v2 hv1
        exact OpRes.of_pok hr (indexAt_ok hT (cO_rel ha ht hg) (cO_rel hb ht hg) (by rw [hu]; simp only [h0, cond_false]; exact hq))
    · exact (inv_bad hv).elim
  | index t x i =>
    have hv : opV (cIndex T t x i) tm h = some p := hv
    unfold cIndex at hv
    split at hv
    · rename_i n e hu
      cases hk : known T e with
      | false => rw [hk] at hv; exact (inv_bad hv).elim
      | true =>
        rw [hk] at hv
        obtain ⟨a, b, ha, hb, hv1⟩ := inv_mk2 hv
        have : ∃ v, (bif isAggD (undT T e) then fIxN n (sizeT T e) (sizeT T e) (ev tm a) (ev tm b) else fIx1 n (sizeT T e) (ev tm a) (ev tm b)) = some v ∧ p = (.value v, h) := by
          cases hA : isAggD (undT T e) with
          | true => rw [hA] at hv1; exact inv_v2 hv1
          | false => rw [hA] at hv1; exact inv_v2 hv1
        obtain ⟨v, hq, rfl⟩ := this
        exact OpRes.of_pok hr (indexArr_ok hT hu hk (cO_rel ha ht hg) (cO_rel hb ht hg) hq)
    · rename_i hu
      obtain ⟨a, b, ha, hb, hv1⟩ := inv_mk2 hv
      obtain ⟨v, hq, rfl⟩ := inv_v2 hv1
      exact OpRes.of_pok hr (indexStr_ok hT hu (cO_rel ha ht hg) (cO_rel hb ht hg) hq)
    · exact (inv_bad hv).elim
  | lookup t x i ok =>
    obtain ⟨kt, et, kk, z, hu, hk, hz, hv1⟩ := map_ok hv
    obtain ⟨a, b, ha, hb, hv2⟩ := inv_mk2 hv1
    obtain ⟨v, hq, rfl⟩ := inv_h2 hv2
    exact OpRes.of_pok hr (lookup_ok hT hu hk hz hr (cO_rel ha ht hg) (cO_rel hb ht hg) hq)
  | mapUpdate t m k x =>
    obtain ⟨kt, et, kk, z, hu, hk, hz, hv1⟩ := map_ok hv
    obtain ⟨a, b, d, ha, hb, hd, hv2⟩ := inv_mk3 hv1
    obtain ⟨h', hq, rfl⟩ := inv_s3 hv2
    exact OpRes.of_uok (mapSet_ok hT hu hk hr (cO_rel ha ht hg) (cO_rel hb ht hg) (cO_rel hd ht hg) hq)
  | insert t m k x =>
    obtain ⟨kt, et, kk, z, hu, hk, hz, hv1⟩ := map_ok hv
    obtain ⟨a, b, d, ha, hb, hd, hv2⟩ := inv_mk3 hv1
    obtain ⟨h', hq, rfl⟩ := inv_s3 hv2
    exact OpRes.of_uok (mapSet_ok hT hu hk hr (cO_rel ha ht hg) (cO_rel hb ht hg) (cO_rel hd ht hg) hq)
  | mapEntry t m k =>
    obtain ⟨kt, et, kk, z, hu, hk, hz, hv1⟩ := map_ok hv
    obtain ⟨a, b, ha, hb, hv2⟩ := inv_mk2 hv1
    obtain ⟨v, h', hq, rfl⟩ := inv_e2 hv2
    exact OpRes.of_vok (mapEntry_ok hT hu hk hz hr (cO_rel ha ht hg) (cO_rel hb ht hg) hq)
  | entryStore t m s x =>
    obtain ⟨a, b, d, ha, hb, hd, hv2⟩ := inv_mk3 hv
    obtain ⟨h', hq, rfl⟩ := inv_s3 hv2
    exact OpRes.of_uok (entryStore_ok hr (cO_rel ha ht hg) (cO_rel hb ht hg) (cO_rel hd ht hg) hq)
  | range t x =>
    unfold cOp at hv
    simp only [] at hv
    split at hv
    · rename_i hu
      obtain ⟨a, ha, hv1⟩ := inv_mkI0 hv
      obtain ⟨v, h', hq, rfl⟩ := inv_e1 hv1
      exact OpRes.of_vok (rangeS_ok hT hu hr (cO_rel ha ht hg) hq)
    · rename_i hu
      obtain ⟨a, ha, hv1⟩ := inv_mkI0 hv
      obtain ⟨v, h', hq, rfl⟩ := inv_e1 hv1
      exact OpRes.of_vok (rangeM_ok hT hu hr (cO_rel ha ht hg) hq)
    · exact (inv_bad hv).elim
  | next it s =>
    obtain ⟨a, ha, hv1⟩ := inv_mkI0 hv
    obtain ⟨v, h', hq, rfl⟩ := inv_e1 hv1
    exact OpRes.of_vok (next_ok hr (cO_rel ha ht hg) hq)
  | entry it =>
    obtain ⟨a, ha, hv1⟩ := inv_mkI0 hv
    obtain ⟨v, hq, rfl⟩ := inv_h1 hv1
    exact OpRes.of_pok hr (entry_ok hr (cO_rel ha ht hg) hq)
  | extract t i =>
    obtain ⟨a, ha, hv1⟩ := inv_mkI0 hv
    obtain ⟨v, hq, rfl⟩ := inv_v1 hv1
    exact OpRes.of_pok hr (extract_ok (cO_rel ha ht hg) hq)
  | call cl => exact call_ok hT ht hg hr hv
  | defer cl =>
    unfold cOp at hv
    simp only [] at hv
    split at hv
    · split at hv
      · rename_i a l ha hl
        have hv1 : some (ANext.defer (ev tm a) (mapL (ev tm) l), h) = some p := hv
        cases hv1
        trivial
      · exact (inv_bad hv).elim
    · exact (inv_bad hv).elim
  | _ => exact (inv_bad hv).elim

end

end Go.AX

/- THE ENGINE: frames of the machine, and their steps. -/
namespace Go.AX
set_option linter.unusedSimpArgs false
set_option linter.unusedVariables false

variable {P : Program}

/-- A frame that runs. -/
def frm (fn : FuncId) (kind : CallKind) (rnd : Option Nat) (tmps : Array Value) (defs : List Deferred) (todo : List Item) : Frame :=
  { fn, tmps, todo, defers := defs, mode := .run, kind, roundOf := rnd }

section steps
variable {fn : FuncId} {kind : CallKind} {rnd : Option Nat} {t : Array Value} {d : List Deferred} {k : List Item} {cs : List Frame} {w : World}

theorem frm_eval (todo : List Item) : (frm fn kind rnd t d todo).eval = evalC t := by
  funext x; cases x <;> rfl

theorem st_skip : Go.step P (lone (frm fn kind rnd t d (.code .skip :: k)) cs w) = .next (lone (frm fn kind rnd t d k) cs w) :=
  step_lone_go (by simp [stepG, stepG.exec, frm])
theorem st_label {l : Nat} : Go.step P (lone (frm fn kind rnd t d (.code (.label l) :: k)) cs w) = .next (lone (frm fn kind rnd t d k) cs w) :=
  step_lone_go (by simp [stepG, stepG.exec, frm])
theorem st_inBlock {id : Nat} : Go.step P (lone (frm fn kind rnd t d (.inBlock id :: k)) cs w) = .next (lone (frm fn kind rnd t d k) cs w) :=
  step_lone_go (by simp [stepG, stepG.exec, frm])
theorem st_inScope {b : Code} : Go.step P (lone (frm fn kind rnd t d (.inScope b :: k)) cs w) = .next (lone (frm fn kind rnd t d k) cs w) :=
  step_lone_go (by simp [stepG, stepG.exec, frm])
theorem st_seq {x y : Code} : Go.step P (lone (frm fn kind rnd t d (.code (.seq x y) :: k)) cs w) = .next (lone (frm fn kind rnd t d (.code x :: .code y :: k)) cs w) :=
  step_lone_go (by simp [stepG, stepG.exec, frm])
theorem st_cond {c : Operand} {x y : Code} {b : Bool} (h : evalC t c = .bool b) :
    Go.step P (lone (frm fn kind rnd t d (.code (.cond c x y) :: k)) cs w) = .next (lone (frm fn kind rnd t d (.code (if b then x else y) :: k)) cs w) :=
  step_lone_go (by
    have := congrFun (frm_eval (fn := fn) (kind := kind) (rnd := rnd) (t := t) (d := d) (.code (.cond c x y) :: k)) c
    simp only [frm] at this
    simp [stepG, stepG.exec, frm, this, h])
theorem st_block {id : Nat} {c : Code} : Go.step P (lone (frm fn kind rnd t d (.code (.block id c) :: k)) cs w) = .next (lone (frm fn kind rnd t d (.code c :: .inBlock id :: k)) cs w) :=
  step_lone_go (by simp [stepG, stepG.exec, frm])
theorem st_loop {c : Code} : Go.step P (lone (frm fn kind rnd t d (.code (.loop c) :: k)) cs w) = .next (lone (frm fn kind rnd t d (.code c :: .inLoop c :: k)) cs w) :=
  step_lone_go (by simp [stepG, stepG.exec, frm])
theorem st_inLoop {c : Code} : Go.step P (lone (frm fn kind rnd t d (.inLoop c :: k)) cs w) = .next (lone (frm fn kind rnd t d (.code c :: .inLoop c :: k)) cs w) :=
  step_lone_go (by simp [stepG, stepG.exec, frm])
theorem st_scope {c : Code} : Go.step P (lone (frm fn kind rnd t d (.code (.scope c) :: k)) cs w) = .next (lone (frm fn kind rnd t d (.code c :: .inScope c :: k)) cs w) :=
  step_lone_go (by simp [stepG, stepG.exec, frm])
theorem st_exit {id : Nat} {k' : List Item} (h : exitTo id k = some k') : Go.step P (lone (frm fn kind rnd t d (.code (.exit id) :: k)) cs w) = .next (lone (frm fn kind rnd t d k') cs w) :=
  step_lone_go (by simp [stepG, stepG.exec, frm, h])
theorem st_goto {l : Nat} {k' : List Item} (h : gotoIn l k = some k') : Go.step P (lone (frm fn kind rnd t d (.code (.goto l) :: k)) cs w) = .next (lone (frm fn kind rnd t d k') cs w) :=
  step_lone_go (by simp [stepG, stepG.exec, frm, h])
theorem st_ret : Go.step P (lone (frm fn kind none t d (.code .ret :: k)) cs w) = .next (lone { frm fn kind none t d (.code .ret :: k) with mode := .returning } cs w) :=
  step_lone_go (by simp [stepG, stepG.exec, frm])
theorem st_end : Go.step P (lone (frm fn kind none t d []) cs w) = .next (lone { frm fn kind none t d [] with mode := .returning } cs w) :=
  step_lone_go (by simp [stepG, stepG.exec, frm])
theorem st_region {id : Nat} {ops : Array Oper} : Go.step P (lone (frm fn kind rnd t d (.code (.region id ops false) :: k)) cs w) = .next (lone (frm fn kind rnd t d (.inRegion ops (List.range ops.size) :: k)) cs w) :=
  step_lone_go (by simp [stepG, stepG.exec, frm])
theorem st_draw {id : Nat} {ops : Array Oper} : Go.step P (lone (frm fn kind rnd t d (.code (.region id ops true) :: k)) cs w) =
    .next (lone (frm fn kind rnd t d (.inRegion ops (Region.schedule (P.follows .mixedOrders) ops (w.tape w.drawn (.order fn id))) :: k)) cs { w with drawn := w.drawn + 1 }) :=
  step_lone_go (by simp [stepG, stepG.exec, frm, choose, Sem.run, Question.forced, Question.cut])
theorem st_regionEnd {ops : Array Oper} : Go.step P (lone (frm fn kind rnd t d (.inRegion ops [] :: k)) cs w) = .next (lone (frm fn kind rnd t d k) cs w) :=
  step_lone_go (by simp [stepG, stepG.exec, frm])

/-- A temporary is set. -/
def setD (t : Array Value) (dst : Option Tmp) (v : Value) : Array Value :=
  match dst with
  | some d => t.setIfInBounds d v
  | none => t

theorem frm_finish {ops : Array Oper} {i : Nat} {rest : List Nat} (v : Value) :
    (frm fn kind rnd t d (.inRegion ops (i :: rest) :: k)).finish v = frm fn kind rnd (setD t ((ops[i]?).bind (·.dst)) v) d (.inRegion ops rest :: k) := by
  cases h : (ops[i]?).bind (·.dst) <;> simp [Frame.finish, frm, setD, h]

theorem st_opSkip {ops : Array Oper} {i : Nat} {rest : List Nat} (h : ((ops[i]?).map (Region.wanted · (yielded ops t))).getD false = false) :
    Go.step P (lone (frm fn kind rnd t d (.inRegion ops (i :: rest) :: k)) cs w) = .next (lone (frm fn kind rnd (setD t ((ops[i]?).bind (·.dst)) undef) d (.inRegion ops rest :: k)) cs w) := by
  rw [← frm_finish]
  exact step_lone_go (by
    have h' := h
    simp only [frm] at *
    simp [stepG, stepG.exec, h'])

theorem stG_op {ops : Array Oper} {i : Nat} {rest : List Nat} {o : Oper} (ho : ops[i]? = some o) (hw : Region.wanted o (yielded ops t) = true) (hnd : ∀ c, o.op ≠ .defer c) :
    stepG P true { frame := frm fn kind rnd t d (.inRegion ops (i :: rest) :: k), callers := cs, status := .running, dying := none } w =
      stepG.apply P true (frm fn kind rnd t d (.inRegion ops (i :: rest) :: k)) cs none (execOp (evalC t) o) w := by
  have he := frm_eval (fn := fn) (kind := kind) (rnd := rnd) (t := t) (d := d) (.inRegion ops (i :: rest) :: k)
  simp only [frm] at he
  cases rnd with
  | none => simp [stepG, stepG.exec, stepG.oper, Frame.oper?, frm, ho, hw, he]
  | some l =>
    have hx : ∀ (A : Call → GStep) (B : GStep), (match (some l : Option Nat), o.op with | some _, .defer c => A c | _, _ => B) = B := by
      intro A B
      cases hop : o.op <;> first | rfl | exact absurd hop (hnd _)
    simp [stepG, stepG.exec, stepG.oper, Frame.oper?, frm, ho, hw, he]
    split
    · rename_i h; exact absurd h (hnd _)
    · rfl

theorem st_opValue {ops : Array Oper} {i : Nat} {rest : List Nat} {o : Oper} (ho : ops[i]? = some o) (hw : Region.wanted o (yielded ops t) = true) (hnd : ∀ c, o.op ≠ .defer c) {v : Value} {w' : World}
    (hr : (execOp (evalC t) o).run P w = .ok (.value v) w') :
    Go.step P (lone (frm fn kind rnd t d (.inRegion ops (i :: rest) :: k)) cs w) = .next (lone (frm fn kind rnd (setD t o.dst v) d (.inRegion ops rest :: k)) cs w') := by
  have hf := frm_finish (fn := fn) (kind := kind) (rnd := rnd) (t := t) (d := d) (k := k) (ops := ops) (i := i) (rest := rest) v
  rw [ho] at hf
  rw [show setD t o.dst v = setD t ((some o).bind (·.dst)) v from rfl, ← hf]
  refine step_lone_go ?_
  rw [stG_op ho hw hnd]
  simp [stepG.apply, hr]

theorem st_opNone {ops : Array Oper} {i : Nat} {rest : List Nat} {o : Oper} (ho : ops[i]? = some o) (hw : Region.wanted o (yielded ops t) = true) (hnd : ∀ c, o.op ≠ .defer c) {w' : World}
    (hr : (execOp (evalC t) o).run P w = .ok .skip w') :
    Go.step P (lone (frm fn kind rnd t d (.inRegion ops (i :: rest) :: k)) cs w) = .next (lone (frm fn kind rnd (setD t o.dst undef) d (.inRegion ops rest :: k)) cs w') := by
  have hf := frm_finish (fn := fn) (kind := kind) (rnd := rnd) (t := t) (d := d) (k := k) (ops := ops) (i := i) (rest := rest) undef
  rw [ho] at hf
  rw [show setD t o.dst undef = setD t ((some o).bind (·.dst)) undef from rfl, ← hf]
  refine step_lone_go ?_
  rw [stG_op ho hw hnd]
  simp [stepG.apply, hr]

theorem st_opEnter {ops : Array Oper} {i : Nat} {rest : List Nat} {o : Oper} (ho : ops[i]? = some o) (hw : Region.wanted o (yielded ops t) = true) (hnd : ∀ c, o.op ≠ .defer c) {f : FuncId} {args : Array Value} {w' : World}
    (hr : (execOp (evalC t) o).run P w = .ok (.enter f args) w') :
    Go.step P (lone (frm fn kind rnd t d (.inRegion ops (i :: rest) :: k)) cs w) = .next (lone (Frame.enter P f args .normal) (frm fn kind rnd t d (.inRegion ops (i :: rest) :: k) :: cs) w') := by
  refine step_lone_go ?_
  rw [stG_op ho hw hnd]
  simp [stepG.apply, hr, frm]

theorem st_opRound {ops : Array Oper} {i : Nat} {rest : List Nat} {o : Oper} (ho : ops[i]? = some o) (hw : Region.wanted o (yielded ops t) = true) (hnd : ∀ c, o.op ≠ .defer c) {l : Nat} {f : FuncId} {tm : Array Value} {a b : Code} {w' : World}
    (hr : (execOp (evalC t) o).run P w = .ok (.round l f tm a b) w') :
    Go.step P (lone (frm fn kind rnd t d (.inRegion ops (i :: rest) :: k)) cs w) = .next (lone (Frame.round l f tm a b .normal) (frm fn kind rnd t d (.inRegion ops (i :: rest) :: k) :: cs) w') := by
  refine step_lone_go ?_
  rw [stG_op ho hw hnd]
  simp [stepG.apply, hr, frm]
end steps

end Go.AX

/- THE ENGINE: operations of a region, calls among them. -/
namespace Go.AX
set_option linter.unusedSimpArgs false
set_option linter.unusedVariables false

variable {P : Program}

/-- What a call of a function's value comes to. -/
def CallRes (P : Program) (φ : Phi) (h : Hp) (w : World) (v : AV) (h' : Hp) (s : Sem Next) : Prop :=
  ∃ φ' w' cv, Rel φ' h' w' ∧ Ext φ h w φ' h' w' ∧ VRel φ' v cv ∧
    (s.run P w = .ok (.value cv) w' ∨
     (∃ g args w1, s.run P w = .ok (.enter g args) w1 ∧ ∀ c cs, Steps P (lone (Frame.enter P g args .normal) (c :: cs) w1) (lone (c.finish cv) cs w')) ∨
     (∃ l f tm a b w1, s.run P w = .ok (.round l f tm a b) w1 ∧ ∀ c cs, Steps P (lone (Frame.round l f tm a b .normal) (c :: cs) w1) (lone (c.finish cv) cs w')))

def CallOk (P : Program) (prg : Prg) (rec : Rec) : Prop := ∀ f args h v h', callX prg rec f args h = some (v, h') → ∀ φ w cf cargs, Rel φ h w → GlobOk φ prg.g → VRel φ f cf → VRels φ args cargs →
  CallRes P φ h w v h' (callVal cf cargs.toArray)

section
variable {T : Cx} (hT : TabOk P T.types)

theorem guard_rel {φ : Phi} {n : Nat} {tm : PT AV} {t : Array Value} (ht : TmRel φ n tm t) {d : Nat} (hd : d < n) (want : Bool) :
    (match t[d]? with | some (.bool b) => some b | _ => none : Option Bool) = some want ↔ guardB want (tmGet tm (K.of d)) = true := by
  have hlt : d < t.size := Nat.lt_of_lt_of_le hd ht.1
  have hr := ht.2.2 d hd
  have e : t.getD d undef = t[d] := by simp [Array.getD_eq_getD_getElem?, hlt]
  rw [e] at hr
  rw [Array.getElem?_eq_getElem hlt]
  generalize tmGet tm (K.of d) = v at hr
  generalize t[d] = c at hr
  unfold guardB
  cases hr <;> simp

theorem cGuard_some {ops : Array Oper} {o : Oper} {g : Option (K × Bool)} (h : cGuard T ops o = some g) : (o.guard = none ∧ g = none) ∨
    ∃ j want d, o.guard = some (j, want) ∧ (ops[j]?).bind (·.dst) = some d ∧ d < T.n ∧ g = some (K.of d, want) := by
  unfold cGuard at h
  split at h
  · rename_i hg; cases h; exact .inl ⟨hg, rfl⟩
  · rename_i j want hg
    split at h
    · rename_i d hd
      obtain ⟨hlt, h⟩ := bif_some h
      cases h
      exact .inr ⟨j, want, d, hg, hd, natblt.1 hlt, rfl⟩
    · cases h

theorem wanted_rel {φ : Phi} {tm : PT AV} {t : Array Value} (ht : TmRel φ T.n tm t) {ops : Array Oper} {o : Oper} {g : Option (K × Bool)} (h : cGuard T ops o = some g) :
    Region.wanted o (yielded ops t) = guardOk (irOf T o g) tm := by
  rcases cGuard_some h with ⟨h1, rfl⟩ | ⟨j, want, d, h1, h2, h3, rfl⟩
  · unfold Region.wanted; rw [h1]; rfl
  · unfold Region.wanted yielded
    rw [h1]
    simp only [h2, Option.bind_some]
    show _ = guardB want (tmGet tm (K.of d))
    have := guard_rel ht h3 want
    rw [Bool.eq_iff_iff, ← this, beq_iff_eq]
    exact Iff.rfl

theorem dst_put {φ : Phi} {tm : PT AV} {t : Array Value} (ht : TmRel φ T.n tm t) {o : Oper} (hd : dstOk T o = true) {v : AV} {cv : Value} (hv : VRel φ v cv) : TmRel φ T.n (putT tm (o.dst.map K.of) v) (setD t o.dst cv) := by
  unfold dstOk at hd
  cases hdst : o.dst with
  | none => exact ht
  | some d => rw [hdst] at hd; exact ht.put (natblt.1 hd) hv

include hT in
/-- One operation. -/
theorem doOp_ok {prg : Prg} (hp : prg.types = T.types ∧ prg.g = T.g) {rec : Rec} (hc : CallOk P prg rec) {φ : Phi} {h : Hp} {w : World} {tm : PT AV} {t : Array Value} (hr : Rel φ h w) (ht : TmRel φ T.n tm t) (hg : GlobOk φ T.g) {ops : Array Oper} {i : Nat} {o : Oper} (ho : ops[i]? = some o)
    {g : Option (K × Bool)} (hw : Region.wanted o (yielded ops t) = true) (hd : dstOk T o = true) {tm' : PT AV} {h' : Hp} (hv : doOp prg rec (irOf T o g) tm h = some (tm', h')) :
    ∃ φ' w' cv v, tm' = putT tm (o.dst.map K.of) v ∧ VRel φ' v cv ∧ Rel φ' h' w' ∧ Ext φ h w φ' h' w' ∧
      ∀ fn kind rnd d rest k cs, Steps P (lone (frm fn kind rnd t d (.inRegion ops (i :: rest) :: k)) cs w) (lone (frm fn kind rnd (setD t o.dst cv) d (.inRegion ops rest :: k)) cs w') := by
  unfold doOp at hv
  cases hop : opV (irOf T o g).op tm h with
  | none => rw [hop] at hv; cases hv
  | some p =>
    rw [hop] at hv
    have hsem := op_ok hT ht hg hr (o := o) hop
    obtain ⟨nx, h1⟩ := p
    have hnd : (∀ f a, nx ≠ .defer f a) → ∀ c, o.op ≠ .defer c := by
      intro hne c hc
      have hop' : opV (cOp T o.op) tm h = some (nx, h1) := hop
      rw [hc] at hop'
      unfold cOp at hop'
      simp only [] at hop'
      split at hop'
      · split at hop'
        · have : some (ANext.defer _ _, h) = some (nx, h1) := hop'
          cases this
          exact hne _ _ rfl
        · exact inv_bad hop'
      · exact inv_bad hop'
    cases nx with
    | value v =>
      have hv : some (putT tm (o.dst.map K.of) v, h1) = some (tm', h') := hv
      cases hv
      obtain ⟨nx, w', φ', hrun, hres, r1, r2⟩ := hsem
      have hnd2 := hnd (by intro f a e; cases e)
      rcases hres with ⟨rfl, rfl⟩ | ⟨cv, rfl, hcv⟩
      · exact ⟨φ', w', undef, .und, rfl, .und _, r1, r2, fun fn kind rnd d rest k cs => .one (st_opNone ho hw hnd2 hrun)⟩
      · exact ⟨φ', w', cv, v, rfl, hcv, r1, r2, fun fn kind rnd d rest k cs => .one (st_opValue ho hw hnd2 hrun)⟩
    | call f args =>
      obtain ⟨e1, cf, cargs, hf, ha, hrun⟩ := hsem
      have e1 : h1 = h := e1
      subst e1
      have hnd2 := hnd (by intro f a e; cases e)
      have hv : Option.rec none (putR tm (o.dst.map K.of)) (callX prg rec f args h1) = some (tm', h') := hv
      cases hcx : callX prg rec f args h1 with
      | none => rw [hcx] at hv; cases hv
      | some q =>
        rw [hcx] at hv
        obtain ⟨v, h2⟩ := q
        have hv : some (putT tm (o.dst.map K.of) v, h2) = some (tm', h') := hv
        cases hv
        obtain ⟨φ', w', cv, r1, r2, hcv, hcase⟩ := hc f args h1 v h' hcx φ w cf cargs hr (by rw [hp.2]; exact hg) hf ha
        refine ⟨φ', w', cv, v, rfl, hcv, r1, r2, fun fn kind rnd d rest k cs => ?_⟩
        have hfin : ∀ d, (frm fn kind rnd t d (.inRegion ops (i :: rest) :: k)).finish cv = frm fn kind rnd (setD t o.dst cv) d (.inRegion ops rest :: k) := by
          intro d
          rw [frm_finish, ho]; rfl
        rcases hcase with e | ⟨g', args', w1, e, hs⟩ | ⟨l, f', tmm, a, b, w1, e, hs⟩
        · exact .one (st_opValue ho hw hnd2 (hrun.trans e))
        · have := hs (frm fn kind rnd t d (.inRegion ops (i :: rest) :: k)) cs
          rw [hfin] at this
          exact .head (st_opEnter ho hw hnd2 (hrun.trans e)) this
        · have := hs (frm fn kind rnd t d (.inRegion ops (i :: rest) :: k)) cs
          rw [hfin] at this
          exact .head (st_opRound ho hw hnd2 (hrun.trans e)) this
    | defer f a =>
      have hv : (none : Option (PT AV × Hp)) = some (tm', h') := hv
      cases hv
    | recover =>
      have hv : (none : Option (PT AV × Hp)) = some (tm', h') := hv
      cases hv

theorem runOps_cons {prg : Prg} {rec : Rec} (o : IR) (l : List IR) (tm : PT AV) (h : Hp) : runOps prg rec (o :: l) tm h = opsCons prg rec o (runOps prg rec l) tm h := rfl

theorem cOper_cases (ops : Array Oper) (o : Oper) : cOper T ops o = irBad ∨ ∃ g, cGuard T ops o = some g ∧ dstOk T o = true ∧ cOper T ops o = irOf T o g := by
  unfold cOper
  cases hg : cGuard T ops o with
  | none => exact .inl rfl
  | some g =>
    cases hd : dstOk T o with
    | false => exact .inl rfl
    | true => exact .inr ⟨g, rfl, rfl, rfl⟩

include hT in
theorem runOps_ok {prg : Prg} (hp : prg.types = T.types ∧ prg.g = T.g) {rec : Rec} (hc : CallOk P prg rec) {ops : Array Oper} : ∀ (l : List (Nat × Oper)) (tm : PT AV) (h : Hp) (tm' : PT AV) (h' : Hp), (∀ i o, (i, o) ∈ l → ops[i]? = some o) →
    runOps prg rec (l.map fun p => cOper T ops p.2) tm h = some (tm', h') → ∀ {φ : Phi} {w : World} {t : Array Value}, Rel φ h w → TmRel φ T.n tm t → GlobOk φ T.g →
    ∃ φ' w' t', Rel φ' h' w' ∧ TmRel φ' T.n tm' t' ∧ Ext φ h w φ' h' w' ∧
      ∀ fn kind rnd d k cs, Steps P (lone (frm fn kind rnd t d (.inRegion ops (l.map (·.1)) :: k)) cs w) (lone (frm fn kind rnd t' d k) cs w') := by
  intro l
  induction l with
  | nil =>
    intro tm h tm' h' _ hv φ w t hr ht hg
    cases hv
    exact ⟨φ, w, t, hr, ht, Ext.refl _ _ _, fun fn kind rnd d k cs => .one st_regionEnd⟩
  | cons p l ih =>
    intro tm h tm' h' hl hv φ w t hr ht hg
    obtain ⟨i, o⟩ := p
    have ho := hl i o (by simp)
    have hl' : ∀ i o, (i, o) ∈ l → ops[i]? = some o := fun i o h => hl i o (by simp [h])
    rw [List.map_cons, runOps_cons] at hv
    rcases cOper_cases (T := T) ops o with e | ⟨g, hgd, hd, e⟩
    · rw [e] at hv
      have hv : (none : Option (PT AV × Hp)) = some (tm', h') := hv
      cases hv
    · rw [e] at hv
      have hwr := wanted_rel ht hgd
      unfold opsCons at hv
      cases hgo : guardOk (irOf T o g) tm with
      | true =>
        rw [hgo] at hv hwr
        have hv : Option.rec none (fun p => runOps prg rec (l.map fun p => cOper T ops p.2) p.1 p.2) (doOp prg rec (irOf T o g) tm h) = some (tm', h') := hv
        cases hdo : doOp prg rec (irOf T o g) tm h with
        | none => rw [hdo] at hv; cases hv
        | some q =>
          obtain ⟨tm1, h1⟩ := q
          rw [hdo] at hv
          obtain ⟨φ1, w1, cv, v, rfl, hvr, r1, x1, s1⟩ := doOp_ok hT hp hc hr ht hg ho hwr hd hdo
          obtain ⟨φ2, w2, t2, r2, t2r, x2, s2⟩ := ih _ h1 tm' h' hl' hv r1 (dst_put (ht.mono x1.le) hd hvr) (hg.mono x1.le)
          exact ⟨φ2, w2, t2, r2, t2r, x1.trans x2, fun fn kind rnd d k cs => (s1 fn kind rnd d _ k cs).trans (s2 fn kind rnd d k cs)⟩
      | false =>
        rw [hgo] at hv hwr
        have hv : runOps prg rec (l.map fun p => cOper T ops p.2) (putT tm (o.dst.map K.of) .und) h = some (tm', h') := hv
        obtain ⟨φ2, w2, t2, r2, t2r, x2, s2⟩ := ih _ h tm' h' hl' hv hr (dst_put ht hd (.und φ)) hg
        refine ⟨φ2, w2, t2, r2, t2r, x2, fun fn kind rnd d k cs => .head ?_ (s2 fn kind rnd d k cs)⟩
        have := st_opSkip (P := P) (fn := fn) (kind := kind) (rnd := rnd) (t := t) (d := d) (k := k) (cs := cs) (w := w) (ops := ops) (i := i) (rest := l.map (·.1)) (by rw [ho]; exact hwr)
        rw [ho] at this
        exact this
end

end Go.AX

