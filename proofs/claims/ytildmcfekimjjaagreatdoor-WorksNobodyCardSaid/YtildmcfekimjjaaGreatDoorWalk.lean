/- What the law's call comes to, in any memory in which the listed variables are laid: true, and nothing that was there has turned. -/
import Derived.Test.YtildmcfekimjjaaGreatDoorRows
import Derived.Test.YtildmcfekimjjaaGreatDoorEnv
import Derived.Test.YtildmcfekimjjaaGreatDoorRun
import Derived.WalkKit
import Derived.ProofKit
import Derived.Carry
import Derived.Lay
import Derived.LaidLaws
import Derived.MakeChecks
import Derived.Test.YtildmcfekimjjaaGreatDoorTie
import Derived.Test.YtildmcfekimjjaaGreatDoorCards
import Derived.JoinedOf
import Derived.SevenTiedAt
namespace Go.AX
open Go Go.Proofs Go.RowKit
set_option linter.unusedSimpArgs false
variable {P : Program}

def glob0V : List Value := [.string ⟨#[109, 111, 117, 110, 116]⟩, .int .i64 1, .bool false, .string ⟨#[112, 114, 105, 110, 116]⟩, .int .i64 2, .bool false, .string ⟨#[116, 105, 99, 107]⟩, .int .i64 0, .bool false, .string ⟨#[115, 112, 111, 105, 108]⟩, .int .i64 2, .bool false, .string ⟨#[114, 101, 112, 97, 105, 114]⟩, .int .i64 2, .bool false, .string ⟨#[105, 110, 115, 112, 101, 99, 116]⟩, .int .i64 4, .bool false, .string ⟨#[99, 117, 116]⟩, .int .i64 1, .bool false, .string ⟨#[98, 101, 103, 105, 110]⟩, .int .i64 0, .bool false, .string ⟨#[108, 111, 111, 107]⟩, .int .i64 3, .bool false, .string ⟨#[109, 111, 118, 101]⟩, .int .i64 5, .bool false, .string ⟨#[99, 111, 109, 109, 105, 116]⟩, .int .i64 1, .bool false, .string ⟨#[97, 98, 111, 114, 116]⟩, .int .i64 1, .bool false, .string ⟨#[100, 101, 115, 116, 114, 111, 121]⟩, .int .i64 4, .bool false, .string ⟨#[97, 117, 100, 105, 116]⟩, .int .i64 3, .bool false, .string ⟨#[115, 97, 118, 101]⟩, .int .i64 0, .bool false, .string ⟨#[99, 104, 101, 99, 107]⟩, .int .i64 0, .bool false, .string ⟨#[99, 114, 97, 115, 104]⟩, .int .i64 0, .bool false]
def glob1V : List Value := [.string ⟨#[109, 111, 117, 110, 116, 101, 100]⟩, .int .i64 2, .bool false, .string ⟨#[112, 114, 105, 110, 116, 101, 100]⟩, .int .i64 3, .bool false, .string ⟨#[100, 114, 105, 101, 100]⟩, .int .i64 2, .bool false, .string ⟨#[115, 112, 111, 105, 108, 101, 100]⟩, .int .i64 1, .bool false, .string ⟨#[114, 101, 112, 114, 105, 110, 116, 101, 100]⟩, .int .i64 1, .bool false, .string ⟨#[114, 101, 112, 108, 97, 99, 101, 100]⟩, .int .i64 2, .bool false, .string ⟨#[111, 112, 101, 110, 101, 100]⟩, .int .i64 1, .bool false, .string ⟨#[114, 101, 112, 97, 105, 114, 101, 100]⟩, .int .i64 2, .bool false, .string ⟨#[105, 110, 115, 112, 101, 99, 116, 101, 100]⟩, .int .i64 3, .bool false, .string ⟨#[99, 117, 116]⟩, .int .i64 3, .bool false, .string ⟨#[98, 101, 103, 117, 110]⟩, .int .i64 1, .bool false, .string ⟨#[114, 117, 110]⟩, .int .i64 3, .bool false, .string ⟨#[108, 111, 111, 107, 101, 100]⟩, .int .i64 3, .bool false, .string ⟨#[109, 111, 118, 101, 100]⟩, .int .i64 3, .bool false, .string ⟨#[114, 101, 102, 117, 115, 101, 100]⟩, .int .i64 1, .bool false, .string ⟨#[119, 97, 105, 116, 115]⟩, .int .i64 1, .bool false, .string ⟨#[103, 114, 97, 110, 116, 101, 100]⟩, .int .i64 1, .bool false, .string ⟨#[99, 111, 109, 109, 105, 116, 116, 101, 100]⟩, .int .i64 2, .bool false, .string ⟨#[97, 98, 111, 114, 116, 101, 100]⟩, .int .i64 1, .bool false, .string ⟨#[100, 101, 115, 116, 114, 111, 121, 101, 100]⟩, .int .i64 2, .bool false, .string ⟨#[100, 114, 97, 119, 110]⟩, .int .i64 1, .bool true, .string ⟨#[97, 117, 100, 105, 116, 101, 100]⟩, .int .i64 2, .bool true, .string ⟨#[115, 97, 118, 101, 100]⟩, .int .i64 1, .bool false, .string ⟨#[99, 104, 101, 99, 107, 101, 100]⟩, .int .i64 1, .bool false, .string ⟨#[114, 101, 99, 111, 118, 101, 114, 101, 100]⟩, .int .i64 1, .bool false]

theorem cell_int {W : World} {r : Reach} {b : Nat} {u : TypeId} {k : IntKind} {v : Value} (hu : P.underlying u = some (.int k)) (h : Cell.okWide P W r b u v) : ∃ n, v = .int k n := by
  unfold Cell.okWide at h
  rw [hu] at h
  unfold Cell.ok at h
  rw [hu] at h
  cases v <;> simp_all

theorem cell_slice {W : World} {r : Reach} {b : Nat} {u e : TypeId} {v : Value} (hu : P.underlying u = some (.slice e)) (h : Cell.okWide P W r b u v) :
    v = .slice none 0 0 ∨ ∃ a len cap, v = .slice (some a) len cap ∧ len ≤ cap ∧ a.spot = none ∧ a.block < W.heap.size := by
  unfold Cell.okWide at h
  rw [hu] at h
  unfold Cell.ok at h
  rw [hu] at h
  match v, h with
  | .slice none 0 0, _ => exact .inl rfl
  | .slice (some a) len cap, h =>
    obtain ⟨h1, _, _, h3, row, cells, h4, _⟩ := h
    refine .inr ⟨a, len, cap, rfl, h1, h3, ?_⟩
    unfold World.shape? at h4
    rcases Nat.lt_or_ge a.block W.heap.size with h | h
    · exact h
    · rw [Array.getElem?_eq_none h] at h4; cases h4

end Go.AX

namespace Go.Proofs.YtildmcfekimjjaaGreatDoor
open Go Go.Proofs Go.AX Go.RowKit Go.ChangeShapes Go.WideShapes Go.ChangeAt
set_option linter.unusedSimpArgs false
set_option maxRecDepth 100000

theorem own : ownKnob Tryz.prog.godebug = none := by kernel_rfl
theorem laidOut : laidOutB Tryz.prog = true := by kernel_rfl

/-- The two listed tables that a works reads. -/
theorem laid_acts : flatV Rows.laid_guilloche_script_acts = glob0V := by kernel_rfl
theorem laid_events : flatV Rows.laid_guilloche_script_events = glob1V := by kernel_rfl
theorem glob0_eq : glob0V.map ofC = glob0 := by kernel_rfl
theorem glob1_eq : glob1V.map ofC = glob1 := by kernel_rfl

theorem laidW {W : World} (hL : laidMetH Tryz.prog Rows.worksNobodyRow.laid W) : ∃ e0 e1, Laid [(0, e0, glob0V), (1, e1, glob1V)] 11 W := by
  have hL : laidMetH Tryz.prog Rows.worksNobodyRow.laid W := hL
  rw [MakeChecks.laidMetH_plain _ _ _ (by kernel_rfl)] at hL
  obtain ⟨e0, h0⟩ := laid_block hL (n := "guilloche/script.acts") (d := Rows.laid_guilloche_script_acts) (by simp [Rows.worksNobodyRow]) (g := 0) (t := 104) (by kernel_rfl) (by kernel_rfl) (by kernel_rfl) (by rw [laid_acts]; decide)
  obtain ⟨e1, h1⟩ := laid_block hL (n := "guilloche/script.events") (d := Rows.laid_guilloche_script_events) (by simp [Rows.worksNobodyRow]) (g := 1) (t := 143) (by kernel_rfl) (by kernel_rfl) (by kernel_rfl) (by rw [laid_events]; decide)
  obtain ⟨e2, h2⟩ := laid_block hL (n := "math/bits.deBruijn64tab") (d := Rows.laid_math_bits_deBruijn64tab) (by simp [Rows.worksNobodyRow]) (g := 10) (t := 286) (by kernel_rfl) (by kernel_rfl) (by kernel_rfl) (by decide)
  rw [laid_acts] at h0
  rw [laid_events] at h1
  have hsz : 10 < W.heap.size := by
    rcases Nat.lt_or_ge 10 W.heap.size with h | h
    · exact h
    · rw [Array.getElem?_eq_none h] at h2; cases h2
  refine ⟨e0, e1, hsz, by decide, fun g hg => ?_, fun g hg => ?_, fun g hg => ?_, fun g hg => ?_⟩
  all_goals
    simp only [List.mem_cons, List.mem_nil_iff, or_false] at hg
    rcases hg with rfl | rfl
  · show 0 < 11; decide
  · show 1 < 11; decide
  · exact h0
  · exact h1
  · show glob0V.all plainC = true; kernel_rfl
  · show glob1V.all plainC = true; kernel_rfl
  · show 0 < glob0V.length; decide
  · show 0 < glob1V.length; decide

/-- An act's cells. -/
theorem open_act {W : World} {r : Reach} {b : Nat} {v : Value} (hval : Value.okWide Tryz.prog W r b 24 v) : ∃ x0 x1 x2 x3 x4 x5 c, v = .agg #[.int .i64 x0, .int .i64 x1, .int .i64 x2, .int .i64 x3, .int .i64 x4, .int .i64 x5, c] ∧
    (c = .slice none 0 0 ∨ ∃ a len cap, c = .slice (some a) len cap ∧ len ≤ cap ∧ a.spot = none ∧ a.block < W.heap.size) := by
  unfold Value.okWide at hval
  rw [Tryz.underlying24] at hval
  obtain ⟨cs, rfl, hsz, ts, hts, _, hcell⟩ := hval
  have hsz : cs.size = 7 := by rw [hsz]; kernel_rfl
  obtain rfl : ts = [3, 3, 3, 3, 3, 3, 22] := Option.some.inj (hts.symm.trans (by kernel_rfl))
  have hc : ∀ i, i < 7 → ∃ v, cs[i]? = some v := fun i hi => ⟨cs[i], Array.getElem?_eq_getElem (by omega)⟩
  have int : ∀ i v, i < 6 → cs[i]? = some v → ∃ x, v = .int .i64 x := by
    intro i v hi hv
    obtain ⟨u, hu, hok⟩ := hcell i v hv
    have : u = 3 := by
      rcases i with _ | _ | _ | _ | _ | _ | i <;> first | (simpa using hu.symm) | omega
    subst this
    exact cell_int Tryz.underlying3 hok
  obtain ⟨v0, h0⟩ := hc 0 (by omega)
  obtain ⟨v1, h1⟩ := hc 1 (by omega)
  obtain ⟨v2, h2⟩ := hc 2 (by omega)
  obtain ⟨v3, h3⟩ := hc 3 (by omega)
  obtain ⟨v4, h4⟩ := hc 4 (by omega)
  obtain ⟨v5, h5⟩ := hc 5 (by omega)
  obtain ⟨v6, h6⟩ := hc 6 (by omega)
  obtain ⟨x0, rfl⟩ := int 0 v0 (by omega) h0
  obtain ⟨x1, rfl⟩ := int 1 v1 (by omega) h1
  obtain ⟨x2, rfl⟩ := int 2 v2 (by omega) h2
  obtain ⟨x3, rfl⟩ := int 3 v3 (by omega) h3
  obtain ⟨x4, rfl⟩ := int 4 v4 (by omega) h4
  obtain ⟨x5, rfl⟩ := int 5 v5 (by omega) h5
  obtain ⟨u, hu, hok⟩ := hcell 6 v6 h6
  have : u = 22 := by simpa using hu.symm
  subst this
  refine ⟨x0, x1, x2, x3, x4, x5, v6, ?_, cell_slice Tryz.underlying22 hok⟩
  congr 1
  apply Array.ext'
  apply List.ext_getElem?
  intro i
  rw [Array.getElem?_toList]
  rcases i with _ | _ | _ | _ | _ | _ | _ | i
  · exact h0
  · exact h1
  · exact h2
  · exact h3
  · exact h4
  · exact h5
  · exact h6
  · rw [Array.getElem?_eq_none (by omega)]; rfl

/-- The walk, by the engine. -/
theorem walk {W : World} {e0 e1 : TypeId} (hW : Laid [(0, e0, glob0V), (1, e1, glob1V)] 11 W) {x0 x1 x2 x3 x4 x5 : Int} {c : Value} (hc : c = .slice none 0 0 ∨ ∃ a len cap, c = .slice (some a) len cap ∧ len ≤ cap ∧ a.spot = none ∧ a.block < W.heap.size) (s : ByteArray) :
    Calls Tryz.prog 3 #[.agg #[.int .i64 x0, .int .i64 x1, .int .i64 x2, .int .i64 x3, .int .i64 x4, .int .i64 x5, c], .string s] W fun e W' => e = .returned (.bool true) ∧ Below W.heap.size W W' := by
  have h11 : 11 ≤ W.heap.size := hW.size
  have key : ∀ (kv : AV) (lk : AX.Loc), lk.blk < W.heap.size → (VRel (startPhi 11 lk) kv c) → isCell kv = true →
      Calls Tryz.prog 3 #[.agg #[.int .i64 x0, .int .i64 x1, .int .i64 x2, .int .i64 x3, .int .i64 x4, .int .i64 x5, c], .string s] W fun e W' => e = .returned (.bool true) ∧ Below W.heap.size W W' := by
    intro kv lk hlk hk hcell
    obtain ⟨hr, hg⟩ := start_rel hW hlk
    have eH : startH (absG [(0, e0, glob0V), (1, e1, glob1V)]) (11 + 1) = h0T e0 e1 := by
      show startH [(0, e0, glob0V.map ofC), (1, e1, glob1V.map ofC)] 12 = _
      rw [glob0_eq, glob1_eq]; rfl
    have hrun := runT3 e0 e1 x0 x1 x2 x3 x4 x5 kv (s.data.toList.map (·.toNat))
    cases hres : callF prgT (exec prgT 5000) 3 [.agg 7 [.int .i64 x0, .int .i64 x1, .int .i64 x2, .int .i64 x3, .int .i64 x4, .int .i64 x5, kv], .str (s.data.toList.map (·.toNat))] (h0T e0 e1) with
    | none => rw [hres] at hrun; cases hrun
    | some p =>
      obtain ⟨v, h'⟩ := p
      rw [hres] at hrun
      have hrun : some (v, h'.get (K.of 0), h'.get (K.of 1)) = some (AV.bool true, some (gobj e0 glob0), some (gobj e1 glob1)) := hrun
      obtain ⟨rfl, g0, g1⟩ : v = .bool true ∧ h'.get (K.of 0) = some (gobj e0 glob0) ∧ h'.get (K.of 1) = some (gobj e1 glob1) := by
        have := Option.some.inj hrun
        simp only [Prod.mk.injEq] at this
        exact this
      rw [← eH] at hres
      have hargs : VRels (startPhi 11 lk) [.agg 7 [.int .i64 x0, .int .i64 x1, .int .i64 x2, .int .i64 x3, .int .i64 x4, .int .i64 x5, kv], .str (s.data.toList.map (·.toNat))]
          [.agg #[.int .i64 x0, .int .i64 x1, .int .i64 x2, .int .i64 x3, .int .i64 x4, .int .i64 x5, c], .string s] := by
        refine .cons (.agg (fa := [.int .i64 x0, .int .i64 x1, .int .i64 x2, .int .i64 x3, .int .i64 x4, .int .i64 x5, c]) rfl (fun v hv => ?_) ?_) (.cons (.str rfl) .nil)
        · simp only [List.mem_cons, List.mem_nil_iff, or_false] at hv
          rcases hv with rfl | rfl | rfl | rfl | rfl | rfl | rfl <;> first | rfl | exact hcell
        · exact .cons (.int _ _) (.cons (.int _ _) (.cons (.int _ _) (.cons (.int _ _) (.cons (.int _ _) (.cons (.int _ _) (.cons hk .nil))))))
      obtain ⟨φ', w', cv, r1, x1', hv, hcalls⟩ := call_calls envT Tryz.func3 (funcI_at funcsT_eq funcs_size Tryz.func3) (b := _) (show Tryz.f3.body = some _ from rfl) hres hr hg hargs
      have hb : Below W.heap.size W w' := end_below hW r1 x1' (fun g hg => by
        have hg : g ∈ [(0, e0, glob0V.map ofC), (1, e1, glob1V.map ofC)] := hg
        rw [glob0_eq, glob1_eq] at hg
        simp only [List.mem_cons, List.mem_nil_iff, or_false] at hg
        rcases hg with rfl | rfl
        · exact g0
        · exact g1)
      rw [hv.bool_inv] at hcalls
      exact hcalls.mono fun e W' ⟨he, hw⟩ => ⟨he, hw ▸ hb⟩
  rcases hc with rfl | ⟨a, len, cap, rfl, hle, hsp, hlt⟩
  · exact key .nils (AX.Loc.mk 0 0 0 0) (by show 0 < _; omega) .nils rfl
  · refine key (.slc (K.of 11) 0 len cap) (AX.Loc.mk a.block a.off 0 0) hlt ?_ rfl
    have : VRel (startPhi 11 (AX.Loc.mk a.block a.off 0 0)) (.slc (K.of 11) 0 len cap) (.slice (some ⟨a.block, a.off + 0, none⟩) len cap) :=
      .slc (l := (AX.Loc.mk a.block a.off 0 0)) (by unfold startPhi; rw [K.toNat_of (by decide), if_neg (by omega), if_pos rfl]) hle
    rw [Nat.add_zero] at this
    rw [← hsp] at this
    exact this

theorem lifted (os : Os) (started : os.Started) (H : Type) (enc : TypeId × Value → H) :
    ReturnsInHanded {} Tryz.checked os 3 .any (fun w args => (Rows.worksNobodySpec.pre enc Tryz.prog Tryz.f3 [] false w args ∧ laidMetH Tryz.prog Rows.worksNobodyRow.laid w) ∧ sizedMet enc Tryz.prog Tryz.f3 (OpenSpec.ofChange Rows.worksNobodySpec) false w args)
      (Rows.worksNobodySpec.post enc Tryz.prog Tryz.f3 false true false false) := by
  refine returnsInHanded_of_change_and (C := Tryz.checked) (X := fun w _ => laidMetH Tryz.prog Rows.worksNobodyRow.laid w) (fun _ _ _ hh h => h.of_heap hh) own started (by kernel_rfl) Tryz.func3
    (ChangeSpec.witness_shaped (enc := enc) (C := Tryz.checked) (os := os) (X := fun w _ => laidMetH Tryz.prog Rows.worksNobodyRow.laid w) false (World.laidAll Tryz.prog os Rows.worksNobodyRow.laid)
      #[.agg #[.int .i64 0, .int .i64 0, .int .i64 0, .int .i64 0, .int .i64 0, .int .i64 0, .slice none 0 0], .string ⟨#[]⟩] 8 (World.laidAll_os _ _ _)
      (World.shaped_of_ZipB (by kernel_rfl) (by kernel_rfl)) (by kernel_rfl) (by kernel_rfl) (by kernel_rfl)
      (by rw [MakeChecks.laidMetH_plain _ _ _ (by kernel_rfl)]; exact laidMet_laidAll _ (by kernel_rfl) (by kernel_rfl))) ?_
  intro W base args ds gs before hval0 hW _ _ hL _
  have hval : ∀ (j : Nat) t v, Tryz.f3.params[j]? = some t → args[j]? = some v → Value.okWide Tryz.prog W .any base t v := hval0
  have hW' := hW
  obtain ⟨p, q, hA0, hV, rfl, _, _⟩ := hW
  have hA : DataW.TrodAll enc Tryz.prog W 0 (fun _ => true) true Tryz.f3.params.toList args.toList ds p := hA0
  rw [Tryz.params3] at hA hval
  obtain ⟨v0, v1, d0, d1, p0, p1, rfl, rfl, rfl, h0, h1⟩ := trodAll_two hA
  obtain ⟨rfl, rfl⟩ := trodVars_none hV
  obtain ⟨s, rfl, rfl, rfl, hs⟩ := ChangeMaps.open_string Tryz.underlying9 (hval 1 9 v1 rfl rfl) h1
  obtain ⟨x0, x1, x2, x3, x4, x5, c, rfl, hc⟩ := open_act (hval 0 24 v0 rfl rfl)
  simp only [List.append_nil] at hW'
  obtain ⟨e0, e1, hLd⟩ := laidW hL
  have hlt : ∀ x ∈ p0, x.block < W.heap.size := fun x hx => by simpa using hW'.lt x hx
  refine (walk hLd hc s).mono fun e W' ⟨he, hb⟩ => ?_
  subst he
  exact ⟨_, rfl, _, _, _, [], p0 ++ [], [], hW', trodAll_mk1 (shut_bool Tryz.underlying4 _), trodAll_mk2 (Below.trod laidOut (by kernel_rfl) (of_decide_eq_true (by kernel_rfl)) h0 hb hlt) (ChangeMaps.shut_string Tryz.underlying9 hs), rfl, hb.frame _, fun h => by cases h⟩

end Go.Proofs.YtildmcfekimjjaaGreatDoor
