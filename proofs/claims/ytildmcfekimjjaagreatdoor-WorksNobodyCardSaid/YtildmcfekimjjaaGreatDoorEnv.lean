/- The trees are the program's own tables, and its external functions are those that the evaluator knows. No condition. -/
import Derived.Test.YtildmcfekimjjaaGreatDoorTab
import Derived.Test.YtildmcfekimjjaaGreatDoorEngC
import Derived.KernelRfl
namespace Go.AX
open Go.Proofs
set_option maxRecDepth 1000000

theorem typesT_eq : typesT = typesOf Tryz.prog := by kernel_rfl
theorem types_und : (List.range Tryz.prog.types.size).all (fun i => (Tryz.prog.underlying i).isSome) = true := by kernel_rfl
theorem types_size : Tryz.prog.types.size ≤ 65536 := of_decide_eq_true (by kernel_rfl)
theorem funcs_size : Tryz.prog.funcs.size ≤ 65536 := of_decide_eq_true (by kernel_rfl)
theorem funcsT_eq : funcsT = ofL Tryz.prog.funcs.toList 0 := by kernel_rfl
theorem no_num : Tryz.prog.funcs.toList.all (fun fn => !(fn.name == "runtime.NumGoroutine")) = true := by kernel_rfl
theorem at_same : (Tryz.prog.funcs.toList.zipIdx.filter fun x => x.1.name == "internal/abi.NoEscape").map (·.2) = [136] := by kernel_rfl
theorem at_index : (Tryz.prog.funcs.toList.zipIdx.filter fun x => x.1.name == "internal/bytealg.IndexByteString").map (·.2) = [391] := by kernel_rfl
theorem at_count : (Tryz.prog.funcs.toList.zipIdx.filter fun x => x.1.name == "internal/bytealg.CountString").map (·.2) = [285] := by kernel_rfl
theorem at_made : (Tryz.prog.funcs.toList.zipIdx.filter fun x => x.1.name == "internal/bytealg.MakeNoZero").map (·.2) = [290] := by kernel_rfl
theorem mixed : Tryz.prog.follows .mixedOrders = true := by kernel_rfl

theorem extOk : ExtOk Tryz.prog where
  same := fun f fn hf _ hn => by
    have hm := named_at at_same hf hn
    obtain rfl := List.mem_singleton.1 hm
    obtain rfl := Option.some.inj (hf.symm.trans Tryz.func136)
    exact isRow_of hf (by kernel_rfl) (by kernel_rfl) (by kernel_rfl) (by kernel_rfl)
  index := fun f fn hf _ hn => by
    have hm := named_at at_index hf hn
    obtain rfl := List.mem_singleton.1 hm
    obtain rfl := Option.some.inj (hf.symm.trans Tryz.func391)
    exact isRow_of hf (by kernel_rfl) (by kernel_rfl) (by kernel_rfl) (by kernel_rfl)
  count := fun f fn hf _ hn => by
    have hm := named_at at_count hf hn
    obtain rfl := List.mem_singleton.1 hm
    obtain rfl := Option.some.inj (hf.symm.trans Tryz.func285)
    exact isRow_of hf (by kernel_rfl) (by kernel_rfl) (by kernel_rfl) (by kernel_rfl)
  made := fun f fn hf _ hn => by
    have hm := named_at at_made hf hn
    obtain rfl := List.mem_singleton.1 hm
    obtain rfl := Option.some.inj (hf.symm.trans Tryz.func290)
    exact ⟨#[3], #[70], 70, isRow_of hf (by kernel_rfl) (by kernel_rfl) (by kernel_rfl) (by kernel_rfl), rfl, by kernel_rfl⟩

theorem envT : Env Tryz.prog prgT where
  tab := tabOk_of typesT_eq types_size types_und
  fn := fun f fi h => by
    obtain ⟨fn, h1, h2⟩ := funcI_of funcsT_eq funcs_size h
    exact ⟨fn, h1, h2, noNum no_num h1⟩
  ext := extOk
  mixed := mixed
end Go.AX
