/- The interpreter answers as plain Lean does: part 2. No condition. -/
import Derived.Test.YtikbjljifgadmaaMzaF
import Derived.Test.YtikbjljifgadmaaMzaP
import Derived.KernelRfl
import Derived.Test.YtikbjljifgadmaaMzaS0
set_option linter.unusedVariables false
set_option linter.unusedSimpArgs false
set_option maxRecDepth 100000
set_option maxHeartbeats 4000000
namespace Go.Es.Mza
theorem slices_partitionOrdered_int_ok (data_ : (List Int)) (a_ : Int) (b_ : Int) (pivot_ : Int) (r : (Int × Bool × (List Int))) (h : slices_partitionOrdered_int data_ a_ b_ pivot_ = some r) : Runs L F168.body ⟨tmOf [.ref [0] 0 0 (List.map (D.int .i64) data_).length 1, .i a_, .i b_, .i pivot_] 0, updW (fun _ => none) [([0], some (.arr (List.map (D.int .i64) data_) 0 false))]⟩ (slices_partitionOrdered_int_Q data_ a_ b_ pivot_ r) := by
 unfold slices_partitionOrdered_int at h
 refine Sq <| Ro <| Rc 2 [vi 0, vb false] <| Rk <| Sq <| Ro <| Rc 6 [⟨.ref [0] 0 0 (List.map (D.int .i64) data_).length 1, []⟩, vi a_, ⟨.ref [0] 0 0 (List.map (D.int .i64) data_).length 1, []⟩, vi pivot_, ⟨.ref [0] 0 0 (List.map (D.int .i64) data_).length 1, []⟩, vi pivot_] ?_
 obtain ⟨z_1, hz_1, h⟩ := bind_s h
 refine Rt (some 18) (.iaddrS 1) [] none [.ref [0] 0 0 (List.map (D.int .i64) data_).length 1, .i pivot_] (.eref [0] 0 (0 + (pivot_).toNat) 0) [] (cut_atR (e := (D.int .i64)) (l := data_) hz_1 rfl) <| Rt (some 19) (.load none) [] none [.eref [0] 0 (0 + (pivot_).toNat) 0] (.i z_1) [] (cut_loadR (e := (D.int .i64)) (l := data_) (fz := false) (y := z_1) (by kernel_rfl) hz_1 (by kernel_rfl) (by kernel_rfl)) <| Rc 2 [⟨.ref [0] 0 0 (List.map (D.int .i64) data_).length 1, []⟩, vi a_] ?_
 obtain ⟨z_2, hz_2, h⟩ := bind_s h
 refine Rt (some 22) (.iaddrS 1) [] none [.ref [0] 0 0 (List.map (D.int .i64) data_).length 1, .i a_] (.eref [0] 0 (0 + (a_).toNat) 0) [] (cut_atR (e := (D.int .i64)) (l := data_) hz_2 rfl) <| Rt (some 23) (.load none) [] none [.eref [0] 0 (0 + (a_).toNat) 0] (.i z_2) [] (cut_loadR (e := (D.int .i64)) (l := data_) (fz := false) (y := z_2) (by kernel_rfl) hz_2 (by kernel_rfl) (by kernel_rfl)) ?_
 obtain ⟨z_3, hz_3, h⟩ := bind_s h
 refine Rt (some 24) (.iaddrS 1) [] none [.ref [0] 0 0 (List.map (D.int .i64) data_).length 1, .i a_] (.eref [0] 0 (0 + (a_).toNat) 0) [] (cut_atR (e := (D.int .i64)) (l := data_) hz_3 rfl) <| Rt none (.store 1) [] none [.eref [0] 0 (0 + (a_).toNat) 0, .i z_1] (.tup []) [([0], some (.arr (List.map (D.int .i64) (List.set data_ (a_).toNat z_1)) 0 false))] (cut_setR (e := (D.int .i64)) (l := data_) (y := z_3) (y' := z_1) (ds := [.int .i64 z_1]) (by kernel_rfl) hz_3 (by kernel_rfl) (by kernel_rfl) (by kernel_rfl) (by kernel_rfl)) ?_
 obtain ⟨z_4, hz_4, h⟩ := bind_s h
 refine Rt (some 25) (.iaddrS 1) [] none [.ref [0] 0 0 (List.map (D.int .i64) data_).length 1, .i pivot_] (.eref [0] 0 (0 + (pivot_).toNat) 0) [] (cut_atR (e := (D.int .i64)) (l := (List.set data_ (a_).toNat z_1)) hz_4 (by simp only [List.length_map, List.length_set, cpy_length] : (List.map (D.int .i64) data_).length = (List.map (D.int .i64) (List.set data_ (a_).toNat z_1)).length)) <| Rt none (.store 1) [] none [.eref [0] 0 (0 + (pivot_).toNat) 0, .i z_2] (.tup []) [([0], some (.arr (List.map (D.int .i64) (List.set (List.set data_ (a_).toNat z_1) (pivot_).toNat z_2)) 0 false))] (cut_setR (e := (D.int .i64)) (l := (List.set data_ (a_).toNat z_1)) (y := z_4) (y' := z_2) (ds := [.int .i64 z_2]) (by kernel_rfl) hz_4 (by kernel_rfl) (by kernel_rfl) (by kernel_rfl) (by kernel_rfl)) <| Rk <| Sq <| Ro <| Rc 6 [vi a_, vi (IntKind.wrap .i64 (a_ + 1)), vi b_, vi (IntKind.wrap .i64 (b_ - 1)), vi (IntKind.wrap .i64 (a_ + 1)), vi (IntKind.wrap .i64 (b_ - 1))] <| Rk <| Sq <| Runs.block ?_
 obtain ⟨e_1, he_1, h⟩ := bind_s h
 refine Runs.loop (fun x : Int => slices_partitionOrdered_int_l8 data_ (List.set (List.set data_ (a_).toNat z_1) (pivot_).toNat z_2) a_ x (IntKind.wrap .i64 (b_ - 1))) (fun (x : Int) (g : Unit) => slices_partitionOrdered_int_h8 data_ (List.set (List.set data_ (a_).toNat z_1) (pivot_).toNat z_2) a_ x (IntKind.wrap .i64 (b_ - 1))) (slices_partitionOrdered_int_P8 data_ a_ b_ pivot_ data_ (List.set (List.set data_ (a_).toNat z_1) (pivot_).toNat z_2) a_ (IntKind.wrap .i64 (b_ - 1))) (fun x g r hr => slices_partitionOrdered_int_l8_ok data_ a_ b_ pivot_ data_ (List.set (List.set data_ (a_).toNat z_1) (pivot_).toNat z_2) a_ x (IntKind.wrap .i64 (b_ - 1))  r hr) () he_1 (Canon.len (f := fun n => slices_partitionOrdered_int_h8n data_ (List.set (List.set data_ (a_).toNat z_1) (pivot_).toNat z_2) a_ (IntKind.wrap .i64 (a_ + 1)) (IntKind.wrap .i64 (b_ - 1)) n) ((by simp only [List.length_map, List.length_set, cpy_length] : (List.map (D.int .i64) data_).length = (List.map (D.int .i64) (List.set (List.set data_ (a_).toNat z_1) (pivot_).toNat z_2)).length)).symm Cz) ?_
 rintro ⟨o, s⟩ hp
 obtain ⟨ho, g_1, hk_1⟩ := hp
 have ho' : o = .exit 0 := ho
 subst ho'
 refine kB_hit <| kS_nrm <| Runs.canon _ hk_1 <| Sq <| Runs.block ?_
 obtain ⟨e_2, he_2, h⟩ := bind_s h
 refine Runs.loop (fun x : Int => slices_partitionOrdered_int_l19 data_ (List.set (List.set data_ (a_).toNat z_1) (pivot_).toNat z_2) a_ e_1 x) (fun (x : Int) (g : Unit) => slices_partitionOrdered_int_h19 data_ (List.set (List.set data_ (a_).toNat z_1) (pivot_).toNat z_2) a_ e_1 x) (slices_partitionOrdered_int_P19 data_ a_ b_ pivot_ data_ (List.set (List.set data_ (a_).toNat z_1) (pivot_).toNat z_2) a_ e_1) (fun x g r hr => slices_partitionOrdered_int_l19_ok data_ a_ b_ pivot_ data_ (List.set (List.set data_ (a_).toNat z_1) (pivot_).toNat z_2) a_ e_1 x  r hr) () he_2 Cz ?_
 rintro ⟨o, s⟩ hp
 obtain ⟨ho, g_2, hk_2⟩ := hp
 have ho' : o = .exit 2 := ho
 subst ho'
 refine kB_hit <| kS_nrm <| Runs.canon _ hk_2 <| Sq <| Sq <| Ro <| Rc 3 [vi e_1, vi e_2, vb (decide (e_1 > e_2))] <| Rk ?_
 cases hb_1 : ((decide (e_1 > e_2)) : Bool) with
 | true =>
  replace h := ite_t hb_1 h
  refine Ct <| Sq <| Ro <| Rc 6 [⟨.ref [0] 0 0 (List.map (D.int .i64) (List.set (List.set data_ (a_).toNat z_1) (pivot_).toNat z_2)).length 1, []⟩, vi e_2, ⟨.ref [0] 0 0 (List.map (D.int .i64) (List.set (List.set data_ (a_).toNat z_1) (pivot_).toNat z_2)).length 1, []⟩, vi a_, ⟨.ref [0] 0 0 (List.map (D.int .i64) (List.set (List.set data_ (a_).toNat z_1) (pivot_).toNat z_2)).length 1, []⟩, vi a_] ?_
  obtain ⟨z_5, hz_5, h⟩ := bind_s h
  refine Rt (some 72) (.iaddrS 1) [] none [.ref [0] 0 0 (List.map (D.int .i64) (List.set (List.set data_ (a_).toNat z_1) (pivot_).toNat z_2)).length 1, .i a_] (.eref [0] 0 (0 + (a_).toNat) 0) [] (cut_atR (e := (D.int .i64)) (l := (List.set (List.set data_ (a_).toNat z_1) (pivot_).toNat z_2)) hz_5 rfl) <| Rt (some 73) (.load none) [] none [.eref [0] 0 (0 + (a_).toNat) 0] (.i z_5) [] (cut_loadR (e := (D.int .i64)) (l := (List.set (List.set data_ (a_).toNat z_1) (pivot_).toNat z_2)) (fz := false) (y := z_5) (by kernel_rfl) hz_5 (by kernel_rfl) (by kernel_rfl)) <| Rc 2 [⟨.ref [0] 0 0 (List.map (D.int .i64) (List.set (List.set data_ (a_).toNat z_1) (pivot_).toNat z_2)).length 1, []⟩, vi e_2] ?_
  obtain ⟨z_6, hz_6, h⟩ := bind_s h
  refine Rt (some 76) (.iaddrS 1) [] none [.ref [0] 0 0 (List.map (D.int .i64) (List.set (List.set data_ (a_).toNat z_1) (pivot_).toNat z_2)).length 1, .i e_2] (.eref [0] 0 (0 + (e_2).toNat) 0) [] (cut_atR (e := (D.int .i64)) (l := (List.set (List.set data_ (a_).toNat z_1) (pivot_).toNat z_2)) hz_6 rfl) <| Rt (some 77) (.load none) [] none [.eref [0] 0 (0 + (e_2).toNat) 0] (.i z_6) [] (cut_loadR (e := (D.int .i64)) (l := (List.set (List.set data_ (a_).toNat z_1) (pivot_).toNat z_2)) (fz := false) (y := z_6) (by kernel_rfl) hz_6 (by kernel_rfl) (by kernel_rfl)) ?_
  obtain ⟨z_7, hz_7, h⟩ := bind_s h
  refine Rt (some 78) (.iaddrS 1) [] none [.ref [0] 0 0 (List.map (D.int .i64) (List.set (List.set data_ (a_).toNat z_1) (pivot_).toNat z_2)).length 1, .i e_2] (.eref [0] 0 (0 + (e_2).toNat) 0) [] (cut_atR (e := (D.int .i64)) (l := (List.set (List.set data_ (a_).toNat z_1) (pivot_).toNat z_2)) hz_7 rfl) <| Rt none (.store 1) [] none [.eref [0] 0 (0 + (e_2).toNat) 0, .i z_5] (.tup []) [([0], some (.arr (List.map (D.int .i64) (List.set (List.set (List.set data_ (a_).toNat z_1) (pivot_).toNat z_2) (e_2).toNat z_5)) 0 false))] (cut_setR (e := (D.int .i64)) (l := (List.set (List.set data_ (a_).toNat z_1) (pivot_).toNat z_2)) (y := z_7) (y' := z_5) (ds := [.int .i64 z_5]) (by kernel_rfl) hz_7 (by kernel_rfl) (by kernel_rfl) (by kernel_rfl) (by kernel_rfl)) ?_
  obtain ⟨z_8, hz_8, h⟩ := bind_s h
  refine Rt (some 79) (.iaddrS 1) [] none [.ref [0] 0 0 (List.map (D.int .i64) (List.set (List.set data_ (a_).toNat z_1) (pivot_).toNat z_2)).length 1, .i a_] (.eref [0] 0 (0 + (a_).toNat) 0) [] (cut_atR (e := (D.int .i64)) (l := (List.set (List.set (List.set data_ (a_).toNat z_1) (pivot_).toNat z_2) (e_2).toNat z_5)) hz_8 (by simp only [List.length_map, List.length_set, cpy_length] : (List.map (D.int .i64) (List.set (List.set data_ (a_).toNat z_1) (pivot_).toNat z_2)).length = (List.map (D.int .i64) (List.set (List.set (List.set data_ (a_).toNat z_1) (pivot_).toNat z_2) (e_2).toNat z_5)).length)) <| Rt none (.store 1) [] none [.eref [0] 0 (0 + (a_).toNat) 0, .i z_6] (.tup []) [([0], some (.arr (List.map (D.int .i64) (List.set (List.set (List.set (List.set data_ (a_).toNat z_1) (pivot_).toNat z_2) (e_2).toNat z_5) (a_).toNat z_6)) 0 false))] (cut_setR (e := (D.int .i64)) (l := (List.set (List.set (List.set data_ (a_).toNat z_1) (pivot_).toNat z_2) (e_2).toNat z_5)) (y := z_8) (y' := z_6) (ds := [.int .i64 z_6]) (by kernel_rfl) hz_8 (by kernel_rfl) (by kernel_rfl) (by kernel_rfl) (by kernel_rfl)) <| Rk <| Sq <| Ro <| Rc 3 [vi e_2, vi e_2, vb true] <| Rk <| Runs.ret <| kS_ret ?_
  obtain rfl := sj h
  exact ⟨Out.ret_ne, (fin_ofL (rs := [.i e_2, .b true]) (by kernel_rfl) (map_cons_ (lendP_of (fz := false) (es := List.map (D.int .i64) (List.set (List.set (List.set (List.set data_ (a_).toNat z_1) (pivot_).toNat z_2) (e_2).toNat z_5) (a_).toNat z_6)) (by kernel_rfl) (by simp only [List.length_map, List.length_set, cpy_length] : (List.map (D.int .i64) data_).length = (List.map (D.int .i64) (List.set (List.set (List.set (List.set data_ (a_).toNat z_1) (pivot_).toNat z_2) (e_2).toNat z_5) (a_).toNat z_6)).length) (by decide)) (map_cons_ rfl (map_cons_ rfl (map_cons_ rfl map_nil_)))) (by kernel_rfl) (outs_d (outs_d outs_nil)) (gives_cons (give_lref (fz := false) (es := List.map (D.int .i64) (List.set (List.set (List.set (List.set data_ (a_).toNat z_1) (pivot_).toNat z_2) (e_2).toNat z_5) (a_).toNat z_6)) (by kernel_rfl) (by simp only [List.length_map, List.length_set, cpy_length] : (List.map (D.int .i64) data_).length = (List.map (D.int .i64) (List.set (List.set (List.set (List.set data_ (a_).toNat z_1) (pivot_).toNat z_2) (e_2).toNat z_5) (a_).toNat z_6)).length) (by kernel_rfl) (by decide)) (gives_cons (give_same (by kernel_rfl)) (gives_cons (give_same (by kernel_rfl)) (gives_cons (give_same (by kernel_rfl)) gives_nil)))))⟩
 | false =>
  replace h := ite_f hb_1 h
  refine Cf <| Runs.skip <| kS_nrm <| Sq <| Ro <| Rc 6 [⟨.ref [0] 0 0 (List.map (D.int .i64) (List.set (List.set data_ (a_).toNat z_1) (pivot_).toNat z_2)).length 1, []⟩, vi e_1, ⟨.ref [0] 0 0 (List.map (D.int .i64) (List.set (List.set data_ (a_).toNat z_1) (pivot_).toNat z_2)).length 1, []⟩, vi e_2, ⟨.ref [0] 0 0 (List.map (D.int .i64) (List.set (List.set data_ (a_).toNat z_1) (pivot_).toNat z_2)).length 1, []⟩, vi e_2] ?_
  obtain ⟨z_9, hz_9, h⟩ := bind_s h
  refine Rt (some 87) (.iaddrS 1) [] none [.ref [0] 0 0 (List.map (D.int .i64) (List.set (List.set data_ (a_).toNat z_1) (pivot_).toNat z_2)).length 1, .i e_2] (.eref [0] 0 (0 + (e_2).toNat) 0) [] (cut_atR (e := (D.int .i64)) (l := (List.set (List.set data_ (a_).toNat z_1) (pivot_).toNat z_2)) hz_9 rfl) <| Rt (some 88) (.load none) [] none [.eref [0] 0 (0 + (e_2).toNat) 0] (.i z_9) [] (cut_loadR (e := (D.int .i64)) (l := (List.set (List.set data_ (a_).toNat z_1) (pivot_).toNat z_2)) (fz := false) (y := z_9) (by kernel_rfl) hz_9 (by kernel_rfl) (by kernel_rfl)) <| Rc 2 [⟨.ref [0] 0 0 (List.map (D.int .i64) (List.set (List.set data_ (a_).toNat z_1) (pivot_).toNat z_2)).length 1, []⟩, vi e_1] ?_
  obtain ⟨z_10, hz_10, h⟩ := bind_s h
  refine Rt (some 91) (.iaddrS 1) [] none [.ref [0] 0 0 (List.map (D.int .i64) (List.set (List.set data_ (a_).toNat z_1) (pivot_).toNat z_2)).length 1, .i e_1] (.eref [0] 0 (0 + (e_1).toNat) 0) [] (cut_atR (e := (D.int .i64)) (l := (List.set (List.set data_ (a_).toNat z_1) (pivot_).toNat z_2)) hz_10 rfl) <| Rt (some 92) (.load none) [] none [.eref [0] 0 (0 + (e_1).toNat) 0] (.i z_10) [] (cut_loadR (e := (D.int .i64)) (l := (List.set (List.set data_ (a_).toNat z_1) (pivot_).toNat z_2)) (fz := false) (y := z_10) (by kernel_rfl) hz_10 (by kernel_rfl) (by kernel_rfl)) ?_
  obtain ⟨z_11, hz_11, h⟩ := bind_s h
  refine Rt (some 93) (.iaddrS 1) [] none [.ref [0] 0 0 (List.map (D.int .i64) (List.set (List.set data_ (a_).toNat z_1) (pivot_).toNat z_2)).length 1, .i e_1] (.eref [0] 0 (0 + (e_1).toNat) 0) [] (cut_atR (e := (D.int .i64)) (l := (List.set (List.set data_ (a_).toNat z_1) (pivot_).toNat z_2)) hz_11 rfl) <| Rt none (.store 1) [] none [.eref [0] 0 (0 + (e_1).toNat) 0, .i z_9] (.tup []) [([0], some (.arr (List.map (D.int .i64) (List.set (List.set (List.set data_ (a_).toNat z_1) (pivot_).toNat z_2) (e_1).toNat z_9)) 0 false))] (cut_setR (e := (D.int .i64)) (l := (List.set (List.set data_ (a_).toNat z_1) (pivot_).toNat z_2)) (y := z_11) (y' := z_9) (ds := [.int .i64 z_9]) (by kernel_rfl) hz_11 (by kernel_rfl) (by kernel_rfl) (by kernel_rfl) (by kernel_rfl)) ?_
  obtain ⟨z_12, hz_12, h⟩ := bind_s h
  refine Rt (some 94) (.iaddrS 1) [] none [.ref [0] 0 0 (List.map (D.int .i64) (List.set (List.set data_ (a_).toNat z_1) (pivot_).toNat z_2)).length 1, .i e_2] (.eref [0] 0 (0 + (e_2).toNat) 0) [] (cut_atR (e := (D.int .i64)) (l := (List.set (List.set (List.set data_ (a_).toNat z_1) (pivot_).toNat z_2) (e_1).toNat z_9)) hz_12 (by simp only [List.length_map, List.length_set, cpy_length] : (List.map (D.int .i64) (List.set (List.set data_ (a_).toNat z_1) (pivot_).toNat z_2)).length = (List.map (D.int .i64) (List.set (List.set (List.set data_ (a_).toNat z_1) (pivot_).toNat z_2) (e_1).toNat z_9)).length)) <| Rt none (.store 1) [] none [.eref [0] 0 (0 + (e_2).toNat) 0, .i z_10] (.tup []) [([0], some (.arr (List.map (D.int .i64) (List.set (List.set (List.set (List.set data_ (a_).toNat z_1) (pivot_).toNat z_2) (e_1).toNat z_9) (e_2).toNat z_10)) 0 false))] (cut_setR (e := (D.int .i64)) (l := (List.set (List.set (List.set data_ (a_).toNat z_1) (pivot_).toNat z_2) (e_1).toNat z_9)) (y := z_12) (y' := z_10) (ds := [.int .i64 z_10]) (by kernel_rfl) hz_12 (by kernel_rfl) (by kernel_rfl) (by kernel_rfl) (by kernel_rfl)) <| Rk <| Sq <| Ro <| Rc 3 [vi e_1, vi (IntKind.wrap .i64 (e_1 + 1)), vi (IntKind.wrap .i64 (e_1 + 1))] <| Rk <| Sq <| Ro <| Rc 3 [vi e_2, vi (IntKind.wrap .i64 (e_2 - 1)), vi (IntKind.wrap .i64 (e_2 - 1))] <| Rk <| Sq ?_
  refine Runs.block ?_
  obtain ⟨e_3, he_3, h⟩ := bind_s h
  refine Runs.loop (fun x : ((List Int) × Int × Int) => slices_partitionOrdered_int_l46 data_ x.1 a_ x.2.1 x.2.2) (fun (x : ((List Int) × Int × Int)) (g : Unit) => slices_partitionOrdered_int_h46 data_ x.1 a_ x.2.1 x.2.2) (slices_partitionOrdered_int_P46 data_ a_ b_ pivot_ data_ a_) (fun x g r hr => slices_partitionOrdered_int_l46_ok data_ a_ b_ pivot_ data_ x.1 a_ x.2.1 x.2.2  r hr) () he_3 (Canon.len (f := fun n => slices_partitionOrdered_int_h46n data_ (List.set (List.set (List.set (List.set data_ (a_).toNat z_1) (pivot_).toNat z_2) (e_1).toNat z_9) (e_2).toNat z_10) a_ (IntKind.wrap .i64 (e_1 + 1)) (IntKind.wrap .i64 (e_2 - 1)) n) ((by simp only [List.length_map, List.length_set, cpy_length] : (List.map (D.int .i64) (List.set (List.set data_ (a_).toNat z_1) (pivot_).toNat z_2)).length = (List.map (D.int .i64) (List.set (List.set (List.set (List.set data_ (a_).toNat z_1) (pivot_).toNat z_2) (e_1).toNat z_9) (e_2).toNat z_10)).length)).symm Cz) ?_
  rintro ⟨o, s⟩ hp
  obtain ⟨ho, g_3, hk_3⟩ := hp
  have ho' : o = .exit 4 := ho
  subst ho'
  refine kB_hit <| kS_nrm <| Runs.canon _ hk_3 <| Sq <| Ro <| Rc 6 [⟨.ref [0] 0 0 (List.map (D.int .i64) e_3.1).length 1, []⟩, vi e_3.2, ⟨.ref [0] 0 0 (List.map (D.int .i64) e_3.1).length 1, []⟩, vi a_, ⟨.ref [0] 0 0 (List.map (D.int .i64) e_3.1).length 1, []⟩, vi a_] ?_
  obtain ⟨z_13, hz_13, h⟩ := bind_s h
  refine Rt (some 159) (.iaddrS 1) [] none [.ref [0] 0 0 (List.map (D.int .i64) e_3.1).length 1, .i a_] (.eref [0] 0 (0 + (a_).toNat) 0) [] (cut_atR (e := (D.int .i64)) (l := e_3.1) hz_13 rfl) <| Rt (some 160) (.load none) [] none [.eref [0] 0 (0 + (a_).toNat) 0] (.i z_13) [] (cut_loadR (e := (D.int .i64)) (l := e_3.1) (fz := false) (y := z_13) (by kernel_rfl) hz_13 (by kernel_rfl) (by kernel_rfl)) <| Rc 2 [⟨.ref [0] 0 0 (List.map (D.int .i64) e_3.1).length 1, []⟩, vi e_3.2] ?_
  obtain ⟨z_14, hz_14, h⟩ := bind_s h
  refine Rt (some 163) (.iaddrS 1) [] none [.ref [0] 0 0 (List.map (D.int .i64) e_3.1).length 1, .i e_3.2] (.eref [0] 0 (0 + (e_3.2).toNat) 0) [] (cut_atR (e := (D.int .i64)) (l := e_3.1) hz_14 rfl) <| Rt (some 164) (.load none) [] none [.eref [0] 0 (0 + (e_3.2).toNat) 0] (.i z_14) [] (cut_loadR (e := (D.int .i64)) (l := e_3.1) (fz := false) (y := z_14) (by kernel_rfl) hz_14 (by kernel_rfl) (by kernel_rfl)) ?_
  obtain ⟨z_15, hz_15, h⟩ := bind_s h
  refine Rt (some 165) (.iaddrS 1) [] none [.ref [0] 0 0 (List.map (D.int .i64) e_3.1).length 1, .i e_3.2] (.eref [0] 0 (0 + (e_3.2).toNat) 0) [] (cut_atR (e := (D.int .i64)) (l := e_3.1) hz_15 rfl) <| Rt none (.store 1) [] none [.eref [0] 0 (0 + (e_3.2).toNat) 0, .i z_13] (.tup []) [([0], some (.arr (List.map (D.int .i64) (List.set e_3.1 (e_3.2).toNat z_13)) 0 false))] (cut_setR (e := (D.int .i64)) (l := e_3.1) (y := z_15) (y' := z_13) (ds := [.int .i64 z_13]) (by kernel_rfl) hz_15 (by kernel_rfl) (by kernel_rfl) (by kernel_rfl) (by kernel_rfl)) ?_
  obtain ⟨z_16, hz_16, h⟩ := bind_s h
  refine Rt (some 166) (.iaddrS 1) [] none [.ref [0] 0 0 (List.map (D.int .i64) e_3.1).length 1, .i a_] (.eref [0] 0 (0 + (a_).toNat) 0) [] (cut_atR (e := (D.int .i64)) (l := (List.set e_3.1 (e_3.2).toNat z_13)) hz_16 (by simp only [List.length_map, List.length_set, cpy_length] : (List.map (D.int .i64) e_3.1).length = (List.map (D.int .i64) (List.set e_3.1 (e_3.2).toNat z_13)).length)) <| Rt none (.store 1) [] none [.eref [0] 0 (0 + (a_).toNat) 0, .i z_14] (.tup []) [([0], some (.arr (List.map (D.int .i64) (List.set (List.set e_3.1 (e_3.2).toNat z_13) (a_).toNat z_14)) 0 false))] (cut_setR (e := (D.int .i64)) (l := (List.set e_3.1 (e_3.2).toNat z_13)) (y := z_16) (y' := z_14) (ds := [.int .i64 z_14]) (by kernel_rfl) hz_16 (by kernel_rfl) (by kernel_rfl) (by kernel_rfl) (by kernel_rfl)) <| Rk <| Sq <| Ro <| Rc 3 [vi e_3.2, vi e_3.2, vb false] <| Rk <| Runs.ret ?_
  try dsimp only at h
  by_cases hlw0 : (List.set (List.set e_3.1 (e_3.2).toNat z_13) (a_).toNat z_14).length = data_.length
  case neg => rw [if_neg hlw0] at h; cases h
  rw [if_pos hlw0] at h
  obtain rfl := sj h
  exact ⟨Out.ret_ne, (fin_ofL (rs := [.i e_3.2, .b false]) (by kernel_rfl) (map_cons_ (lendP_of (fz := false) (es := List.map (D.int .i64) (List.set (List.set e_3.1 (e_3.2).toNat z_13) (a_).toNat z_14)) (by kernel_rfl) (by rw [List.length_map, List.length_map, hlw0] : (List.map (D.int .i64) data_).length = (List.map (D.int .i64) (List.set (List.set e_3.1 (e_3.2).toNat z_13) (a_).toNat z_14)).length) (by decide)) (map_cons_ rfl (map_cons_ rfl (map_cons_ rfl map_nil_)))) (by kernel_rfl) (outs_d (outs_d outs_nil)) (gives_cons (give_lref (fz := false) (es := List.map (D.int .i64) (List.set (List.set e_3.1 (e_3.2).toNat z_13) (a_).toNat z_14)) (by kernel_rfl) (by rw [List.length_map, List.length_map, hlw0] : (List.map (D.int .i64) data_).length = (List.map (D.int .i64) (List.set (List.set e_3.1 (e_3.2).toNat z_13) (a_).toNat z_14)).length) (by kernel_rfl) (by decide)) (gives_cons (give_same (by kernel_rfl)) (gives_cons (give_same (by kernel_rfl)) (gives_cons (give_same (by kernel_rfl)) gives_nil)))))⟩
theorem slices_partitionOrdered_int_L (data_ : (List Int)) (a_ : Int) (b_ : Int) (pivot_ : Int) (r : (Int × Bool × (List Int))) (h : slices_partitionOrdered_int data_ a_ b_ pivot_ = some r) : L 168 [.arr false 1 (List.map (D.int .i64) data_), .i a_, .i b_, .i pivot_] = some (.tup [.i r.1, .b r.2.1], [.arr false 1 (List.map (D.int .i64) r.2.2), .i a_, .i b_, .i pivot_]) := by
 obtain ⟨p, ⟨hne, hf⟩, hr⟩ := slices_partitionOrdered_int_ok data_ a_ b_ pivot_ r h
 obtain ⟨k, hk⟩ := run_of (F := F168) (args := [.arr false 1 (List.map (D.int .i64) data_), .i a_, .i b_, .i pivot_]) (ap := [.ref [0] 0 0 (List.map (D.int .i64) data_).length 1, .i a_, .i b_, .i pivot_]) (bx0 := updW (fun _ => none) [([0], some (.arr (List.map (D.int .i64) data_) 0 false))]) rfl rfl (by kernel_rfl) ⟨p, ⟨hne, hf⟩, hr⟩
 exact lim_run (k := k) rfl hk
def slices_pdqsortOrdered_int_h5n (data_ : (List Int)) (w_data_ : (List Int)) (a1 : Int) (b2 : Int) (limit3 : Int) (wasBalanced8 : Bool) (wasPartitioned9 : Bool) (n_0 : Nat) : St := ⟨tab [(0, .ref [0] 0 0 n_0 1), (1, .i a1), (2, .i b2), (3, .i limit3), (8, .b wasBalanced8), (9, .b wasPartitioned9)], tabB [([0], some (.arr (List.map (D.int .i64) w_data_) 0 false))]⟩
def slices_pdqsortOrdered_int_h5 (data_ : (List Int)) (w_data_ : (List Int)) (a1 : Int) (b2 : Int) (limit3 : Int) (wasBalanced8 : Bool) (wasPartitioned9 : Bool) : St := slices_pdqsortOrdered_int_h5n data_ w_data_ a1 b2 limit3 wasBalanced8 wasPartitioned9 (List.map (D.int .i64) w_data_).length
def slices_pdqsortOrdered_int_h33n (data_ : (List Int)) (w_data_ : (List Int)) (a1 : Int) (b2 : Int) (limit3 : Int) (wasBalanced8 : Bool) (wasPartitioned9 : Bool) (length10 : Int) (n_0 : Nat) : St := ⟨tab [(0, .ref [0] 0 0 n_0 1), (1, .i a1), (2, .i b2), (3, .i limit3), (8, .b wasBalanced8), (9, .b wasPartitioned9), (10, .i length10)], tabB [([0], some (.arr (List.map (D.int .i64) w_data_) 0 false))]⟩
def slices_pdqsortOrdered_int_h33 (data_ : (List Int)) (w_data_ : (List Int)) (a1 : Int) (b2 : Int) (limit3 : Int) (wasBalanced8 : Bool) (wasPartitioned9 : Bool) (length10 : Int) : St := slices_pdqsortOrdered_int_h33n data_ w_data_ a1 b2 limit3 wasBalanced8 wasPartitioned9 length10 (List.map (D.int .i64) w_data_).length
def slices_pdqsortOrdered_int_h45n (data_ : (List Int)) (w_data_ : (List Int)) (a1 : Int) (b2 : Int) (limit3 : Int) (wasBalanced8 : Bool) (wasPartitioned9 : Bool) (length10 : Int) (pivot11 : Int) (hint12 : Int) (n_0 : Nat) : St := ⟨tab [(0, .ref [0] 0 0 n_0 1), (1, .i a1), (2, .i b2), (3, .i limit3), (8, .b wasBalanced8), (9, .b wasPartitioned9), (10, .i length10), (11, .i pivot11), (12, .i hint12)], tabB [([0], some (.arr (List.map (D.int .i64) w_data_) 0 false))]⟩
def slices_pdqsortOrdered_int_h45 (data_ : (List Int)) (w_data_ : (List Int)) (a1 : Int) (b2 : Int) (limit3 : Int) (wasBalanced8 : Bool) (wasPartitioned9 : Bool) (length10 : Int) (pivot11 : Int) (hint12 : Int) : St := slices_pdqsortOrdered_int_h45n data_ w_data_ a1 b2 limit3 wasBalanced8 wasPartitioned9 length10 pivot11 hint12 (List.map (D.int .i64) w_data_).length
def slices_pdqsortOrdered_int_h55n (data_ : (List Int)) (w_data_ : (List Int)) (a1 : Int) (b2 : Int) (limit3 : Int) (wasBalanced8 : Bool) (wasPartitioned9 : Bool) (length10 : Int) (pivot11 : Int) (n_0 : Nat) : St := ⟨tab [(0, .ref [0] 0 0 n_0 1), (1, .i a1), (2, .i b2), (3, .i limit3), (8, .b wasBalanced8), (9, .b wasPartitioned9), (10, .i length10), (11, .i pivot11)], tabB [([0], some (.arr (List.map (D.int .i64) w_data_) 0 false))]⟩
def slices_pdqsortOrdered_int_h55 (data_ : (List Int)) (w_data_ : (List Int)) (a1 : Int) (b2 : Int) (limit3 : Int) (wasBalanced8 : Bool) (wasPartitioned9 : Bool) (length10 : Int) (pivot11 : Int) : St := slices_pdqsortOrdered_int_h55n data_ w_data_ a1 b2 limit3 wasBalanced8 wasPartitioned9 length10 pivot11 (List.map (D.int .i64) w_data_).length
def slices_pdqsortOrdered_int_h65 (data_ : (List Int)) (w_data_ : (List Int)) (a1 : Int) (b2 : Int) (limit3 : Int) (length10 : Int) (pivot11 : Int) : St := ⟨tab [(0, .ref [0] 0 0 (List.map (D.int .i64) w_data_).length 1), (1, .i a1), (2, .i b2), (3, .i limit3), (10, .i length10), (11, .i pivot11)], tabB [([0], some (.arr (List.map (D.int .i64) w_data_) 0 false))]⟩
def slices_pdqsortOrdered_int_Q (data_ : (List Int)) (a_ : Int) (b_ : Int) (limit_ : Int) (r : (List Int)) (p : Out × St) : Prop := (∀ i, p.1 ≠ .exit i) ∧ finF F135 [.ref [0] 0 0 (List.map (D.int .i64) data_).length 1, .i a_, .i b_, .i limit_] p.2 = some (.tup [], [.arr false 1 (List.map (D.int .i64) r), .i a_, .i b_, .i limit_])
def slices_pdqsortOrdered_int_P5 (data_ : (List Int)) (a_ : Int) (b_ : Int) (limit_ : Int) (data_ : (List Int)) (e : (List Int)) (p : Out × St) : Prop := p.1 = .ret ∧ finF F135 [.ref [0] 0 0 (List.map (D.int .i64) data_).length 1, .i a_, .i b_, .i limit_] p.2 = some (.tup [], [.arr false 1 (List.map (D.int .i64) e), .i a_, .i b_, .i limit_])
theorem slices_pdqsortOrdered_int_j65_ok (self_ : (List Int) → Int → Int → Int → Option (List Int)) (hs_ : ∀ (data_ : (List Int)) (a_ : Int) (b_ : Int) (limit_ : Int) (r : (List Int)), self_ data_ a_ b_ limit_ = some r → L 135 [.arr false 1 (List.map (D.int .i64) data_), .i a_, .i b_, .i limit_] = some (.tup [], [.arr false 1 (List.map (D.int .i64) r), .i a_, .i b_, .i limit_])) (data_ : (List Int)) (a_ : Int) (b_ : Int) (limit_ : Int) (data_ : (List Int)) (w_data_ : (List Int)) (a1 : Int) (b2 : Int) (limit3 : Int) (length10 : Int) (pivot11 : Int) (r : (Lp ((List Int) × Int × Int × Int × Bool × Bool) (List Int))) (h : slices_pdqsortOrdered_int_j65 self_ data_ w_data_ a1 b2 limit3 length10 pivot11 = some r) : Runs L F135b65 (slices_pdqsortOrdered_int_h65 data_ w_data_ a1 b2 limit3 length10 pivot11) (kB 1 (LQ [] [0, 1, 2, 3, 8, 9] [[0]] (fun (x : ((List Int) × Int × Int × Int × Bool × Bool)) (g : Unit) => slices_pdqsortOrdered_int_h5 data_ x.1 x.2.1 x.2.2.1 x.2.2.2.1 x.2.2.2.2.1 x.2.2.2.2.2) (slices_pdqsortOrdered_int_P5 data_ a_ b_ limit_ data_) r)) := by
 unfold slices_pdqsortOrdered_int_j65 at h
 refine Sq <| Ro <| Rc 4 [⟨.ref [0] 0 0 (List.map (D.int .i64) w_data_).length 1, []⟩, vi a1, vi b2, vi pivot11] ?_
 obtain ⟨r_9, hr_9, h⟩ := bind_s h
 have hc_9 := slices_partitionOrdered_int_L w_data_ a1 b2 pivot11 r_9 hr_9
 have hn_8 := lim_len (F := tab1) (X := fun _ _ => none) hc_9 (show tab1 168 = some F168 from by kernel_rfl) rfl 0 rfl (by decide) rfl
 refine Rt (some 99) (.callf 168) [] none [.lref [0] 0 0 (List.map (D.int .i64) w_data_).length 1, .i a1, .i b2, .i pivot11] (.tup [.i r_9.1, .b r_9.2.1]) [([0], some (.arr (List.map (D.int .i64) r_9.2.2) 0 false))] (cut_call (call_ofL (ws := []) (us := [([0], some (.arr (List.map (D.int .i64) r_9.2.2) 0 false))]) (by kernel_rfl) (map_cons_ (lendX_of (fz := false) (es := List.map (D.int .i64) w_data_) (by kernel_rfl) (by kernel_rfl) rfl (by decide)) (map_cons_ rfl (map_cons_ rfl (map_cons_ rfl map_nil_)))) (gives_cons (ws := []) (give_lref (fz := false) (es := List.map (D.int .i64) w_data_) (by kernel_rfl) rfl (by kernel_rfl) (by decide)) (gives_cons (ws := []) (give_same (by kernel_rfl)) (gives_cons (ws := []) (give_same (by kernel_rfl)) (gives_cons (ws := []) (give_same (by kernel_rfl)) gives_nil)))) hc_9 (backs_cons_ (ws := [([0], some (.arr (List.map (D.int .i64) r_9.2.2) 0 false))]) (back_lref (f0 := false) (es0 := List.map (D.int .i64) w_data_) (by kernel_rfl) hn_8) (backs_cons_ (ws := []) (by kernel_rfl) (backs_cons_ (ws := []) (by kernel_rfl) (backs_cons_ (ws := []) (by kernel_rfl) backs_nil_)))) (by kernel_rfl))) <| Rc 5 [⟨.tup [.i r_9.1, .b r_9.2.1], []⟩, vi r_9.1, vb r_9.2.1, vi r_9.1, vb r_9.2.1] <| Rk <| Sq <| Ro <| Rc 2 [vb r_9.2.1, vb r_9.2.1] <| Rk <| Sq <| Ro <| Rc 8 [vi r_9.1, vi a1, vi (IntKind.wrap .i64 (r_9.1 - a1)), vi b2, vi r_9.1, vi (IntKind.wrap .i64 (b2 - r_9.1)), vi (IntKind.wrap .i64 (r_9.1 - a1)), vi (IntKind.wrap .i64 (b2 - r_9.1))] ?_
 refine Rk <| Sq <| Ro <| Rc 3 [vi length10, vi (IntKind.wrap .i64 (Int.tdiv length10 8)), vi (IntKind.wrap .i64 (Int.tdiv length10 8))] <| Rk <| Sq <| Ro <| Rc 3 [vi (IntKind.wrap .i64 (r_9.1 - a1)), vi (IntKind.wrap .i64 (b2 - r_9.1)), vb (decide ((IntKind.wrap .i64 (r_9.1 - a1)) < (IntKind.wrap .i64 (b2 - r_9.1))))] <| Rk ?_
 cases hb_11 : ((decide ((IntKind.wrap .i64 (r_9.1 - a1)) < (IntKind.wrap .i64 (b2 - r_9.1)))) : Bool) with
 | true =>
  replace h := ite_t hb_11 h
  refine Ct <| Sq <| Ro <| Rc 4 [vi (IntKind.wrap .i64 (r_9.1 - a1)), vi (IntKind.wrap .i64 (Int.tdiv length10 8)), vb (decide ((IntKind.wrap .i64 (r_9.1 - a1)) ≥ (IntKind.wrap .i64 (Int.tdiv length10 8)))), vb (decide ((IntKind.wrap .i64 (r_9.1 - a1)) ≥ (IntKind.wrap .i64 (Int.tdiv length10 8))))] <| Rk <| Sq <| Ro <| Rc 4 [⟨.ref [0] 0 0 (List.map (D.int .i64) w_data_).length 1, []⟩, vi a1, vi r_9.1, vi limit3] ?_
  obtain ⟨r_10, hr_10, h⟩ := bind_s h
  have hc_10 := hs_ r_9.2.2 a1 r_9.1 limit3 r_10 hr_10
  have hn_9 := lim_len (F := tab1) (X := fun _ _ => none) hc_10 (show tab1 135 = some F135 from by kernel_rfl) rfl 0 rfl (by decide) rfl
  refine Rt (some 121) (.callf 135) [] none [.lref [0] 0 0 (List.map (D.int .i64) w_data_).length 1, .i a1, .i r_9.1, .i limit3] (.tup []) [([0], some (.arr (List.map (D.int .i64) r_10) 0 false))] (cut_call (call_ofL (ws := []) (us := [([0], some (.arr (List.map (D.int .i64) r_10) 0 false))]) (by kernel_rfl) (map_cons_ (lendX_of (fz := false) (es := List.map (D.int .i64) r_9.2.2) (by kernel_rfl) (by kernel_rfl) (by simp only [List.length_map, List.length_set, cpy_length] at * <;> omega : (List.map (D.int .i64) w_data_).length = (List.map (D.int .i64) r_9.2.2).length) (by decide)) (map_cons_ rfl (map_cons_ rfl (map_cons_ rfl map_nil_)))) (gives_cons (ws := []) (give_lref (fz := false) (es := List.map (D.int .i64) r_9.2.2) (by kernel_rfl) (by simp only [List.length_map, List.length_set, cpy_length] at * <;> omega : (List.map (D.int .i64) w_data_).length = (List.map (D.int .i64) r_9.2.2).length) (by kernel_rfl) (by decide)) (gives_cons (ws := []) (give_same (by kernel_rfl)) (gives_cons (ws := []) (give_same (by kernel_rfl)) (gives_cons (ws := []) (give_same (by kernel_rfl)) gives_nil)))) hc_10 (backs_cons_ (ws := [([0], some (.arr (List.map (D.int .i64) r_10) 0 false))]) (back_lref (f0 := false) (es0 := List.map (D.int .i64) r_9.2.2) (by kernel_rfl) hn_9) (backs_cons_ (ws := []) (by kernel_rfl) (backs_cons_ (ws := []) (by kernel_rfl) (backs_cons_ (ws := []) (by kernel_rfl) backs_nil_)))) (by kernel_rfl))) <| Rk <| Ro <| Rc 3 [vi r_9.1, vi (IntKind.wrap .i64 (r_9.1 + 1)), vi (IntKind.wrap .i64 (r_9.1 + 1))] ?_
  refine Rd <| kB_nrm ?_
  obtain rfl := sj h
  exact ⟨rfl, (), (Canon.len (f := fun n => slices_pdqsortOrdered_int_h5n data_ r_10 (IntKind.wrap .i64 (r_9.1 + 1)) b2 limit3 (decide ((IntKind.wrap .i64 (r_9.1 - a1)) ≥ (IntKind.wrap .i64 (Int.tdiv length10 8)))) r_9.2.1 n) ((by simp only [List.length_map, List.length_set, cpy_length] at * <;> omega : (List.map (D.int .i64) w_data_).length = (List.map (D.int .i64) r_10).length)).symm Cz)⟩
 | false =>
  replace h := ite_f hb_11 h
  refine Cf <| Sq <| Ro <| Rc 4 [vi (IntKind.wrap .i64 (b2 - r_9.1)), vi (IntKind.wrap .i64 (Int.tdiv length10 8)), vb (decide ((IntKind.wrap .i64 (b2 - r_9.1)) ≥ (IntKind.wrap .i64 (Int.tdiv length10 8)))), vb (decide ((IntKind.wrap .i64 (b2 - r_9.1)) ≥ (IntKind.wrap .i64 (Int.tdiv length10 8))))] <| Rk <| Sq <| Ro <| Rc 5 [⟨.ref [0] 0 0 (List.map (D.int .i64) w_data_).length 1, []⟩, vi r_9.1, vi (IntKind.wrap .i64 (r_9.1 + 1)), vi b2, vi limit3] ?_
  obtain ⟨r_11, hr_11, h⟩ := bind_s h
  have hc_11 := hs_ r_9.2.2 (IntKind.wrap .i64 (r_9.1 + 1)) b2 limit3 r_11 hr_11
  have hn_10 := lim_len (F := tab1) (X := fun _ _ => none) hc_11 (show tab1 135 = some F135 from by kernel_rfl) rfl 0 rfl (by decide) rfl
  refine Rt (some 132) (.callf 135) [] none [.lref [0] 0 0 (List.map (D.int .i64) w_data_).length 1, .i (IntKind.wrap .i64 (r_9.1 + 1)), .i b2, .i limit3] (.tup []) [([0], some (.arr (List.map (D.int .i64) r_11) 0 false))] (cut_call (call_ofL (ws := []) (us := [([0], some (.arr (List.map (D.int .i64) r_11) 0 false))]) (by kernel_rfl) (map_cons_ (lendX_of (fz := false) (es := List.map (D.int .i64) r_9.2.2) (by kernel_rfl) (by kernel_rfl) (by simp only [List.length_map, List.length_set, cpy_length] at * <;> omega : (List.map (D.int .i64) w_data_).length = (List.map (D.int .i64) r_9.2.2).length) (by decide)) (map_cons_ rfl (map_cons_ rfl (map_cons_ rfl map_nil_)))) (gives_cons (ws := []) (give_lref (fz := false) (es := List.map (D.int .i64) r_9.2.2) (by kernel_rfl) (by simp only [List.length_map, List.length_set, cpy_length] at * <;> omega : (List.map (D.int .i64) w_data_).length = (List.map (D.int .i64) r_9.2.2).length) (by kernel_rfl) (by decide)) (gives_cons (ws := []) (give_same (by kernel_rfl)) (gives_cons (ws := []) (give_same (by kernel_rfl)) (gives_cons (ws := []) (give_same (by kernel_rfl)) gives_nil)))) hc_11 (backs_cons_ (ws := [([0], some (.arr (List.map (D.int .i64) r_11) 0 false))]) (back_lref (f0 := false) (es0 := List.map (D.int .i64) r_9.2.2) (by kernel_rfl) hn_10) (backs_cons_ (ws := []) (by kernel_rfl) (backs_cons_ (ws := []) (by kernel_rfl) (backs_cons_ (ws := []) (by kernel_rfl) backs_nil_)))) (by kernel_rfl))) <| Rk ?_
  refine Ro <| Rc 2 [vi r_9.1, vi r_9.1] <| Rd <| kB_nrm ?_
  obtain rfl := sj h
  exact ⟨rfl, (), (Canon.len (f := fun n => slices_pdqsortOrdered_int_h5n data_ r_11 a1 r_9.1 limit3 (decide ((IntKind.wrap .i64 (b2 - r_9.1)) ≥ (IntKind.wrap .i64 (Int.tdiv length10 8)))) r_9.2.1 n) ((by simp only [List.length_map, List.length_set, cpy_length] at * <;> omega : (List.map (D.int .i64) w_data_).length = (List.map (D.int .i64) r_11).length)).symm Cz)⟩
theorem slices_pdqsortOrdered_int_j55_ok (self_ : (List Int) → Int → Int → Int → Option (List Int)) (hs_ : ∀ (data_ : (List Int)) (a_ : Int) (b_ : Int) (limit_ : Int) (r : (List Int)), self_ data_ a_ b_ limit_ = some r → L 135 [.arr false 1 (List.map (D.int .i64) data_), .i a_, .i b_, .i limit_] = some (.tup [], [.arr false 1 (List.map (D.int .i64) r), .i a_, .i b_, .i limit_])) (data_ : (List Int)) (a_ : Int) (b_ : Int) (limit_ : Int) (data_ : (List Int)) (w_data_ : (List Int)) (a1 : Int) (b2 : Int) (limit3 : Int) (wasBalanced8 : Bool) (wasPartitioned9 : Bool) (length10 : Int) (pivot11 : Int) (r : (Lp ((List Int) × Int × Int × Int × Bool × Bool) (List Int))) (h : slices_pdqsortOrdered_int_j55 self_ data_ w_data_ a1 b2 limit3 wasBalanced8 wasPartitioned9 length10 pivot11 = some r) : Runs L F135b55 (slices_pdqsortOrdered_int_h55 data_ w_data_ a1 b2 limit3 wasBalanced8 wasPartitioned9 length10 pivot11) (kB 1 (LQ [] [0, 1, 2, 3, 8, 9] [[0]] (fun (x : ((List Int) × Int × Int × Int × Bool × Bool)) (g : Unit) => slices_pdqsortOrdered_int_h5 data_ x.1 x.2.1 x.2.2.1 x.2.2.2.1 x.2.2.2.2.1 x.2.2.2.2.2) (slices_pdqsortOrdered_int_P5 data_ a_ b_ limit_ data_) r)) := by
 unfold slices_pdqsortOrdered_int_j55 at h
 refine Sq <| Sq <| Ro <| Rc 3 [vi a1, vb (decide (a1 > 0)), vb (decide (a1 > 0))] ?_
 cases hb_9 : ((decide (a1 > 0)) : Bool) with
 | true =>
  replace h := ite_t hb_9 h
  refine Rc 3 [⟨.ref [0] 0 0 (List.map (D.int .i64) w_data_).length 1, []⟩, vi a1, vi (IntKind.wrap .i64 (a1 - 1))] ?_
  obtain ⟨z_1, hz_1, h⟩ := bind_s h
  refine Rt (some 79) (.iaddrS 1) [] none [.ref [0] 0 0 (List.map (D.int .i64) w_data_).length 1, .i (IntKind.wrap .i64 (a1 - 1))] (.eref [0] 0 (0 + ((IntKind.wrap .i64 (a1 - 1))).toNat) 0) [] (cut_atR (e := (D.int .i64)) (l := w_data_) hz_1 rfl) <| Rt (some 80) (.load none) [] none [.eref [0] 0 (0 + ((IntKind.wrap .i64 (a1 - 1))).toNat) 0] (.i z_1) [] (cut_loadR (e := (D.int .i64)) (l := w_data_) (fz := false) (y := z_1) (by kernel_rfl) hz_1 (by kernel_rfl) (by kernel_rfl)) <| Rc 2 [⟨.ref [0] 0 0 (List.map (D.int .i64) w_data_).length 1, []⟩, vi pivot11] ?_
  obtain ⟨z_2, hz_2, h⟩ := bind_s h
  refine Rt (some 83) (.iaddrS 1) [] none [.ref [0] 0 0 (List.map (D.int .i64) w_data_).length 1, .i pivot11] (.eref [0] 0 (0 + (pivot11).toNat) 0) [] (cut_atR (e := (D.int .i64)) (l := w_data_) hz_2 rfl) <| Rt (some 84) (.load none) [] none [.eref [0] 0 (0 + (pivot11).toNat) 0] (.i z_2) [] (cut_loadR (e := (D.int .i64)) (l := w_data_) (fz := false) (y := z_2) (by kernel_rfl) hz_2 (by kernel_rfl) (by kernel_rfl)) ?_
  obtain ⟨r_7, hr_7, h⟩ := bind_s h
  have hc_7 := cmp_Less_int_L z_1 z_2 r_7 hr_7
  refine Rt (some 85) (.callf 166) [] none [.i z_1, .i z_2] (.b r_7) [] (cc hc_7) <| Rc 2 [vb (!r_7), vb (!r_7)] <| Rk ?_
  cases hb_10 : ((!r_7) : Bool) with
  | true =>
   replace h := ite_t hb_10 h
   refine Ct <| Sq <| Ro <| Rc 4 [⟨.ref [0] 0 0 (List.map (D.int .i64) w_data_).length 1, []⟩, vi a1, vi b2, vi pivot11] ?_
   obtain ⟨r_8, hr_8, h⟩ := bind_s h
   have hc_8 := slices_partitionEqualOrdered_int_L w_data_ a1 b2 pivot11 r_8 hr_8
   have hn_7 := lim_len (F := tab1) (X := fun _ _ => none) hc_8 (show tab1 167 = some F167 from by kernel_rfl) rfl 0 rfl (by decide) rfl
   refine Rt (some 92) (.callf 167) [] none [.lref [0] 0 0 (List.map (D.int .i64) w_data_).length 1, .i a1, .i b2, .i pivot11] (.i r_8.1) [([0], some (.arr (List.map (D.int .i64) r_8.2) 0 false))] (cut_call (call_ofL (ws := []) (us := [([0], some (.arr (List.map (D.int .i64) r_8.2) 0 false))]) (by kernel_rfl) (map_cons_ (lendX_of (fz := false) (es := List.map (D.int .i64) w_data_) (by kernel_rfl) (by kernel_rfl) rfl (by decide)) (map_cons_ rfl (map_cons_ rfl (map_cons_ rfl map_nil_)))) (gives_cons (ws := []) (give_lref (fz := false) (es := List.map (D.int .i64) w_data_) (by kernel_rfl) rfl (by kernel_rfl) (by decide)) (gives_cons (ws := []) (give_same (by kernel_rfl)) (gives_cons (ws := []) (give_same (by kernel_rfl)) (gives_cons (ws := []) (give_same (by kernel_rfl)) gives_nil)))) hc_8 (backs_cons_ (ws := [([0], some (.arr (List.map (D.int .i64) r_8.2) 0 false))]) (back_lref (f0 := false) (es0 := List.map (D.int .i64) w_data_) (by kernel_rfl) hn_7) (backs_cons_ (ws := []) (by kernel_rfl) (backs_cons_ (ws := []) (by kernel_rfl) (backs_cons_ (ws := []) (by kernel_rfl) backs_nil_)))) (by kernel_rfl))) <| Rc 1 [vi r_8.1] <| Rk <| Sq <| Ro <| Rc 2 [vi r_8.1, vi r_8.1] <| Rk <| Runs.exit <| kS_exit <| kB_hit ?_
   obtain rfl := sj h
   exact ⟨rfl, (), (Canon.len (f := fun n => slices_pdqsortOrdered_int_h5n data_ r_8.2 r_8.1 b2 limit3 wasBalanced8 wasPartitioned9 n) ((by simp only [List.length_map, List.length_set, cpy_length] at * <;> omega : (List.map (D.int .i64) w_data_).length = (List.map (D.int .i64) r_8.2).length)).symm Cz)⟩
  | false =>
   replace h := ite_f hb_10 h
   refine Cf <| Runs.skip <| kS_nrm <| Runs.canon (slices_pdqsortOrdered_int_h65 data_ w_data_ a1 b2 limit3 length10 pivot11) Cz ?_
   exact slices_pdqsortOrdered_int_j65_ok self_ hs_ data_ a_ b_ limit_ data_ w_data_ a1 b2 limit3 length10 pivot11 r h
 | false =>
  replace h := ite_f hb_9 h
  refine Rc 12 [vn, vn, vn, vn, vn, vn, vn, vn, vn, vn, vn, vb false] <| Rk <| Cf <| Runs.skip <| kS_nrm <| Runs.canon (slices_pdqsortOrdered_int_h65 data_ w_data_ a1 b2 limit3 length10 pivot11) Cz ?_
  exact slices_pdqsortOrdered_int_j65_ok self_ hs_ data_ a_ b_ limit_ data_ w_data_ a1 b2 limit3 length10 pivot11 r h
theorem slices_pdqsortOrdered_int_j45_ok (self_ : (List Int) → Int → Int → Int → Option (List Int)) (hs_ : ∀ (data_ : (List Int)) (a_ : Int) (b_ : Int) (limit_ : Int) (r : (List Int)), self_ data_ a_ b_ limit_ = some r → L 135 [.arr false 1 (List.map (D.int .i64) data_), .i a_, .i b_, .i limit_] = some (.tup [], [.arr false 1 (List.map (D.int .i64) r), .i a_, .i b_, .i limit_])) (data_ : (List Int)) (a_ : Int) (b_ : Int) (limit_ : Int) (data_ : (List Int)) (w_data_ : (List Int)) (a1 : Int) (b2 : Int) (limit3 : Int) (wasBalanced8 : Bool) (wasPartitioned9 : Bool) (length10 : Int) (pivot11 : Int) (hint12 : Int) (r : (Lp ((List Int) × Int × Int × Int × Bool × Bool) (List Int))) (h : slices_pdqsortOrdered_int_j45 self_ data_ w_data_ a1 b2 limit3 wasBalanced8 wasPartitioned9 length10 pivot11 hint12 = some r) : Runs L F135b45 (slices_pdqsortOrdered_int_h45 data_ w_data_ a1 b2 limit3 wasBalanced8 wasPartitioned9 length10 pivot11 hint12) (kB 1 (LQ [] [0, 1, 2, 3, 8, 9] [[0]] (fun (x : ((List Int) × Int × Int × Int × Bool × Bool)) (g : Unit) => slices_pdqsortOrdered_int_h5 data_ x.1 x.2.1 x.2.2.1 x.2.2.2.1 x.2.2.2.2.1 x.2.2.2.2.2) (slices_pdqsortOrdered_int_P5 data_ a_ b_ limit_ data_) r)) := by
 unfold slices_pdqsortOrdered_int_j45 at h
 refine Sq <| Sq <| Ro <| Rc 2 [vb wasBalanced8, vb wasBalanced8] ?_
 cases hb_5 : (wasBalanced8 : Bool) with
 | true =>
  replace h := ite_t hb_5 h
  refine Rc 3 [vb wasPartitioned9, vb wasPartitioned9, vb wasPartitioned9] ?_
  cases hb_6 : (wasPartitioned9 : Bool) with
  | true =>
   replace h := ite_t hb_6 h
   refine Rc 3 [vi hint12, vb (hint12 == 1), vb (hint12 == 1)] <| Rk ?_
   cases hb_7 : ((hint12 == 1) : Bool) with
   | true =>
    replace h := ite_t hb_7 h
    refine Ct <| Sq <| Ro <| Rc 3 [⟨.ref [0] 0 0 (List.map (D.int .i64) w_data_).length 1, []⟩, vi a1, vi b2] ?_
    obtain ⟨r_6, hr_6, h⟩ := bind_s h
    have hc_6 := slices_partialInsertionSortOrdered_int_L w_data_ a1 b2 r_6 hr_6
    have hn_6 := lim_len (F := tab1) (X := fun _ _ => none) hc_6 (show tab1 165 = some F165 from by kernel_rfl) rfl 0 rfl (by decide) rfl
    refine Rt (some 72) (.callf 165) [] none [.lref [0] 0 0 (List.map (D.int .i64) w_data_).length 1, .i a1, .i b2] (.b r_6.1) [([0], some (.arr (List.map (D.int .i64) r_6.2) 0 false))] (cut_call (call_ofL (ws := []) (us := [([0], some (.arr (List.map (D.int .i64) r_6.2) 0 false))]) (by kernel_rfl) (map_cons_ (lendX_of (fz := false) (es := List.map (D.int .i64) w_data_) (by kernel_rfl) (by kernel_rfl) rfl (by decide)) (map_cons_ rfl (map_cons_ rfl map_nil_))) (gives_cons (ws := []) (give_lref (fz := false) (es := List.map (D.int .i64) w_data_) (by kernel_rfl) rfl (by kernel_rfl) (by decide)) (gives_cons (ws := []) (give_same (by kernel_rfl)) (gives_cons (ws := []) (give_same (by kernel_rfl)) gives_nil))) hc_6 (backs_cons_ (ws := [([0], some (.arr (List.map (D.int .i64) r_6.2) 0 false))]) (back_lref (f0 := false) (es0 := List.map (D.int .i64) w_data_) (by kernel_rfl) hn_6) (backs_cons_ (ws := []) (by kernel_rfl) (backs_cons_ (ws := []) (by kernel_rfl) backs_nil_))) (by kernel_rfl))) <| Rk ?_
    cases hb_8 : (r_6.1 : Bool) with
    | true =>
     replace h := ite_t hb_8 h
     refine Ct <| Runs.ret <| kS_ret <| kB_ret ?_
     try dsimp only at h
     by_cases hlw0 : r_6.2.length = data_.length
     case neg => rw [if_neg hlw0] at h; cases h
     rw [if_pos hlw0] at h
     obtain rfl := sj h
     exact ⟨nofun, rfl, (fin_ofL (rs := []) (by kernel_rfl) (map_cons_ (lendP_of (fz := false) (es := List.map (D.int .i64) r_6.2) (by kernel_rfl) (by rw [List.length_map, List.length_map, hlw0] : (List.map (D.int .i64) data_).length = (List.map (D.int .i64) r_6.2).length) (by decide)) (map_cons_ rfl (map_cons_ rfl (map_cons_ rfl map_nil_)))) (by kernel_rfl) outs_nil (gives_cons (give_lref (fz := false) (es := List.map (D.int .i64) r_6.2) (by kernel_rfl) (by rw [List.length_map, List.length_map, hlw0] : (List.map (D.int .i64) data_).length = (List.map (D.int .i64) r_6.2).length) (by kernel_rfl) (by decide)) (gives_cons (give_same (by kernel_rfl)) (gives_cons (give_same (by kernel_rfl)) (gives_cons (give_same (by kernel_rfl)) gives_nil)))))⟩
    | false =>
     replace h := ite_f hb_8 h
     refine Cf <| Runs.skip <| kS_nrm <| Runs.canon (slices_pdqsortOrdered_int_h55 data_ r_6.2 a1 b2 limit3 true true length10 pivot11) (Canon.len (f := fun n => slices_pdqsortOrdered_int_h55n data_ r_6.2 a1 b2 limit3 true true length10 pivot11 n) ((by simp only [List.length_map, List.length_set, cpy_length] at * <;> omega : (List.map (D.int .i64) w_data_).length = (List.map (D.int .i64) r_6.2).length)).symm Cz) ?_
     exact slices_pdqsortOrdered_int_j55_ok self_ hs_ data_ a_ b_ limit_ data_ r_6.2 a1 b2 limit3 true true length10 pivot11 r h
   | false =>
    replace h := ite_f hb_7 h
    refine Cf <| Runs.skip <| kS_nrm <| Runs.canon (slices_pdqsortOrdered_int_h55 data_ w_data_ a1 b2 limit3 true true length10 pivot11) Cz ?_
    exact slices_pdqsortOrdered_int_j55_ok self_ hs_ data_ a_ b_ limit_ data_ w_data_ a1 b2 limit3 true true length10 pivot11 r h
  | false =>
   replace h := ite_f hb_6 h
   refine Rc 3 [vn, vn, vb false] <| Rk <| Cf <| Runs.skip <| kS_nrm <| Runs.canon (slices_pdqsortOrdered_int_h55 data_ w_data_ a1 b2 limit3 true false length10 pivot11) Cz ?_
   exact slices_pdqsortOrdered_int_j55_ok self_ hs_ data_ a_ b_ limit_ data_ w_data_ a1 b2 limit3 true false length10 pivot11 r h
 | false =>
  replace h := ite_f hb_5 h
  refine Rc 6 [vn, vb false, vb false, vn, vn, vb false] <| Rk <| Cf <| Runs.skip <| kS_nrm <| Runs.canon (slices_pdqsortOrdered_int_h55 data_ w_data_ a1 b2 limit3 false wasPartitioned9 length10 pivot11) Cz ?_
  exact slices_pdqsortOrdered_int_j55_ok self_ hs_ data_ a_ b_ limit_ data_ w_data_ a1 b2 limit3 false wasPartitioned9 length10 pivot11 r h
theorem slices_pdqsortOrdered_int_j33_ok (self_ : (List Int) → Int → Int → Int → Option (List Int)) (hs_ : ∀ (data_ : (List Int)) (a_ : Int) (b_ : Int) (limit_ : Int) (r : (List Int)), self_ data_ a_ b_ limit_ = some r → L 135 [.arr false 1 (List.map (D.int .i64) data_), .i a_, .i b_, .i limit_] = some (.tup [], [.arr false 1 (List.map (D.int .i64) r), .i a_, .i b_, .i limit_])) (data_ : (List Int)) (a_ : Int) (b_ : Int) (limit_ : Int) (data_ : (List Int)) (w_data_ : (List Int)) (a1 : Int) (b2 : Int) (limit3 : Int) (wasBalanced8 : Bool) (wasPartitioned9 : Bool) (length10 : Int) (r : (Lp ((List Int) × Int × Int × Int × Bool × Bool) (List Int))) (h : slices_pdqsortOrdered_int_j33 self_ data_ w_data_ a1 b2 limit3 wasBalanced8 wasPartitioned9 length10 = some r) : Runs L F135b33 (slices_pdqsortOrdered_int_h33 data_ w_data_ a1 b2 limit3 wasBalanced8 wasPartitioned9 length10) (kB 1 (LQ [] [0, 1, 2, 3, 8, 9] [[0]] (fun (x : ((List Int) × Int × Int × Int × Bool × Bool)) (g : Unit) => slices_pdqsortOrdered_int_h5 data_ x.1 x.2.1 x.2.2.1 x.2.2.2.1 x.2.2.2.2.1 x.2.2.2.2.2) (slices_pdqsortOrdered_int_P5 data_ a_ b_ limit_ data_) r)) := by
 unfold slices_pdqsortOrdered_int_j33 at h
 refine Sq <| Ro <| Rc 3 [⟨.ref [0] 0 0 (List.map (D.int .i64) w_data_).length 1, []⟩, vi a1, vi b2] ?_
 obtain ⟨r_4, hr_4, h⟩ := bind_s h
 have hc_4 := slices_choosePivotOrdered_int_L w_data_ a1 b2 r_4 hr_4
 have hn_4 := lim_len (F := tab1) (X := fun _ _ => none) hc_4 (show tab1 163 = some F163 from by kernel_rfl) rfl 0 rfl (by decide) rfl
 refine Rt (some 46) (.callf 163) [] none [.lref [0] 0 0 (List.map (D.int .i64) w_data_).length 1, .i a1, .i b2] (.tup [.i r_4.1, .i r_4.2]) [([0], some (.arr (List.map (D.int .i64) w_data_) 0 false))] (cut_call (call_ofL (ws := []) (us := [([0], some (.arr (List.map (D.int .i64) w_data_) 0 false))]) (by kernel_rfl) (map_cons_ (lendX_of (fz := false) (es := List.map (D.int .i64) w_data_) (by kernel_rfl) (by kernel_rfl) rfl (by decide)) (map_cons_ rfl (map_cons_ rfl map_nil_))) (gives_cons (ws := []) (give_lref (fz := false) (es := List.map (D.int .i64) w_data_) (by kernel_rfl) rfl (by kernel_rfl) (by decide)) (gives_cons (ws := []) (give_same (by kernel_rfl)) (gives_cons (ws := []) (give_same (by kernel_rfl)) gives_nil))) hc_4 (backs_cons_ (ws := [([0], some (.arr (List.map (D.int .i64) w_data_) 0 false))]) (back_lref (f0 := false) (es0 := List.map (D.int .i64) w_data_) (by kernel_rfl) hn_4) (backs_cons_ (ws := []) (by kernel_rfl) (backs_cons_ (ws := []) (by kernel_rfl) backs_nil_))) (by kernel_rfl))) <| Rc 5 [⟨.tup [.i r_4.1, .i r_4.2], []⟩, vi r_4.1, vi r_4.2, vi r_4.1, vi r_4.2] <| Rk <| Sq <| Sq <| Ro <| Rc 2 [vi r_4.2, vb (r_4.2 == 2)] <| Rk ?_
 cases hb_4 : ((r_4.2 == 2) : Bool) with
 | true =>
  replace h := ite_t hb_4 h
  refine Ct <| Sq <| Ro <| Rc 3 [⟨.ref [0] 0 0 (List.map (D.int .i64) w_data_).length 1, []⟩, vi a1, vi b2] ?_
  obtain ⟨r_5, hr_5, h⟩ := bind_s h
  have hc_5 := slices_reverseRangeOrdered_int_L w_data_ a1 b2 r_5 hr_5
  have hn_5 := lim_len (F := tab1) (X := fun _ _ => none) hc_5 (show tab1 164 = some F164 from by kernel_rfl) rfl 0 rfl (by decide) rfl
  refine Rt (some 54) (.callf 164) [] none [.lref [0] 0 0 (List.map (D.int .i64) w_data_).length 1, .i a1, .i b2] (.tup []) [([0], some (.arr (List.map (D.int .i64) r_5) 0 false))] (cut_call (call_ofL (ws := []) (us := [([0], some (.arr (List.map (D.int .i64) r_5) 0 false))]) (by kernel_rfl) (map_cons_ (lendX_of (fz := false) (es := List.map (D.int .i64) w_data_) (by kernel_rfl) (by kernel_rfl) rfl (by decide)) (map_cons_ rfl (map_cons_ rfl map_nil_))) (gives_cons (ws := []) (give_lref (fz := false) (es := List.map (D.int .i64) w_data_) (by kernel_rfl) rfl (by kernel_rfl) (by decide)) (gives_cons (ws := []) (give_same (by kernel_rfl)) (gives_cons (ws := []) (give_same (by kernel_rfl)) gives_nil))) hc_5 (backs_cons_ (ws := [([0], some (.arr (List.map (D.int .i64) r_5) 0 false))]) (back_lref (f0 := false) (es0 := List.map (D.int .i64) w_data_) (by kernel_rfl) hn_5) (backs_cons_ (ws := []) (by kernel_rfl) (backs_cons_ (ws := []) (by kernel_rfl) backs_nil_))) (by kernel_rfl))) <| Rk <| Sq <| Ro <| Rc 7 [vi b2, vi (IntKind.wrap .i64 (b2 - 1)), vi r_4.1, vi a1, vi (IntKind.wrap .i64 (r_4.1 - a1)), vi (IntKind.wrap .i64 ((IntKind.wrap .i64 (b2 - 1)) - (IntKind.wrap .i64 (r_4.1 - a1)))), vi (IntKind.wrap .i64 ((IntKind.wrap .i64 (b2 - 1)) - (IntKind.wrap .i64 (r_4.1 - a1))))] <| Rk <| Ro <| Rc 1 [vi 1] ?_
  refine Rk <| Runs.canon (slices_pdqsortOrdered_int_h45 data_ r_5 a1 b2 limit3 wasBalanced8 wasPartitioned9 length10 (IntKind.wrap .i64 ((IntKind.wrap .i64 (b2 - 1)) - (IntKind.wrap .i64 (r_4.1 - a1)))) 1) (Canon.len (f := fun n => slices_pdqsortOrdered_int_h45n data_ r_5 a1 b2 limit3 wasBalanced8 wasPartitioned9 length10 (IntKind.wrap .i64 ((IntKind.wrap .i64 (b2 - 1)) - (IntKind.wrap .i64 (r_4.1 - a1)))) 1 n) ((by simp only [List.length_map, List.length_set, cpy_length] at * <;> omega : (List.map (D.int .i64) w_data_).length = (List.map (D.int .i64) r_5).length)).symm Cz) ?_
  exact slices_pdqsortOrdered_int_j45_ok self_ hs_ data_ a_ b_ limit_ data_ r_5 a1 b2 limit3 wasBalanced8 wasPartitioned9 length10 (IntKind.wrap .i64 ((IntKind.wrap .i64 (b2 - 1)) - (IntKind.wrap .i64 (r_4.1 - a1)))) 1 r h
 | false =>
  replace h := ite_f hb_4 h
  refine Cf <| Runs.skip <| kS_nrm <| Runs.canon (slices_pdqsortOrdered_int_h45 data_ w_data_ a1 b2 limit3 wasBalanced8 wasPartitioned9 length10 r_4.1 r_4.2) Cz ?_
  exact slices_pdqsortOrdered_int_j45_ok self_ hs_ data_ a_ b_ limit_ data_ w_data_ a1 b2 limit3 wasBalanced8 wasPartitioned9 length10 r_4.1 r_4.2 r h
theorem slices_pdqsortOrdered_int_l5_ok (self_ : (List Int) → Int → Int → Int → Option (List Int)) (hs_ : ∀ (data_ : (List Int)) (a_ : Int) (b_ : Int) (limit_ : Int) (r : (List Int)), self_ data_ a_ b_ limit_ = some r → L 135 [.arr false 1 (List.map (D.int .i64) data_), .i a_, .i b_, .i limit_] = some (.tup [], [.arr false 1 (List.map (D.int .i64) r), .i a_, .i b_, .i limit_])) (data_ : (List Int)) (a_ : Int) (b_ : Int) (limit_ : Int) (data_ : (List Int)) (w_data_ : (List Int)) (a1 : Int) (b2 : Int) (limit3 : Int) (wasBalanced8 : Bool) (wasPartitioned9 : Bool) (r : (Lp ((List Int) × Int × Int × Int × Bool × Bool) (List Int))) (h : slices_pdqsortOrdered_int_l5 self_ data_ w_data_ a1 b2 limit3 wasBalanced8 wasPartitioned9 = some r) : Runs L F135l5 (slices_pdqsortOrdered_int_h5 data_ w_data_ a1 b2 limit3 wasBalanced8 wasPartitioned9) (LQ [] [0, 1, 2, 3, 8, 9] [[0]] (fun (x : ((List Int) × Int × Int × Int × Bool × Bool)) (g : Unit) => slices_pdqsortOrdered_int_h5 data_ x.1 x.2.1 x.2.2.1 x.2.2.2.1 x.2.2.2.2.1 x.2.2.2.2.2) (slices_pdqsortOrdered_int_P5 data_ a_ b_ limit_ data_) r) := by
 unfold slices_pdqsortOrdered_int_l5 at h
 refine Runs.block <| Sq <| Ro <| Rc 4 [vi b2, vi a1, vi (IntKind.wrap .i64 (b2 - a1)), vi (IntKind.wrap .i64 (b2 - a1))] <| Rk <| Sq <| Sq <| Ro <| Rc 2 [vi (IntKind.wrap .i64 (b2 - a1)), vb (decide ((IntKind.wrap .i64 (b2 - a1)) ≤ 12))] <| Rk ?_
 cases hb_1 : ((decide ((IntKind.wrap .i64 (b2 - a1)) ≤ 12)) : Bool) with
 | true =>
  replace h := ite_t hb_1 h
  refine Ct <| Sq <| Ro <| Rc 3 [⟨.ref [0] 0 0 (List.map (D.int .i64) w_data_).length 1, []⟩, vi a1, vi b2] ?_
  obtain ⟨r_1, hr_1, h⟩ := bind_s h
  have hc_1 := slices_insertionSortOrdered_int_L w_data_ a1 b2 r_1 hr_1
  have hn_1 := lim_len (F := tab1) (X := fun _ _ => none) hc_1 (show tab1 160 = some F160 from by kernel_rfl) rfl 0 rfl (by decide) rfl
  refine Rt (some 27) (.callf 160) [] none [.lref [0] 0 0 (List.map (D.int .i64) w_data_).length 1, .i a1, .i b2] (.tup []) [([0], some (.arr (List.map (D.int .i64) r_1) 0 false))] (cut_call (call_ofL (ws := []) (us := [([0], some (.arr (List.map (D.int .i64) r_1) 0 false))]) (by kernel_rfl) (map_cons_ (lendX_of (fz := false) (es := List.map (D.int .i64) w_data_) (by kernel_rfl) (by kernel_rfl) rfl (by decide)) (map_cons_ rfl (map_cons_ rfl map_nil_))) (gives_cons (ws := []) (give_lref (fz := false) (es := List.map (D.int .i64) w_data_) (by kernel_rfl) rfl (by kernel_rfl) (by decide)) (gives_cons (ws := []) (give_same (by kernel_rfl)) (gives_cons (ws := []) (give_same (by kernel_rfl)) gives_nil))) hc_1 (backs_cons_ (ws := [([0], some (.arr (List.map (D.int .i64) r_1) 0 false))]) (back_lref (f0 := false) (es0 := List.map (D.int .i64) w_data_) (by kernel_rfl) hn_1) (backs_cons_ (ws := []) (by kernel_rfl) (backs_cons_ (ws := []) (by kernel_rfl) backs_nil_))) (by kernel_rfl))) <| Rk <| Runs.ret <| kS_ret <| kB_ret ?_
  try dsimp only at h
  by_cases hlw0 : r_1.length = data_.length
  case neg => rw [if_neg hlw0] at h; cases h
  rw [if_pos hlw0] at h
  obtain rfl := sj h
  exact ⟨nofun, rfl, (fin_ofL (rs := []) (by kernel_rfl) (map_cons_ (lendP_of (fz := false) (es := List.map (D.int .i64) r_1) (by kernel_rfl) (by rw [List.length_map, List.length_map, hlw0] : (List.map (D.int .i64) data_).length = (List.map (D.int .i64) r_1).length) (by decide)) (map_cons_ rfl (map_cons_ rfl (map_cons_ rfl map_nil_)))) (by kernel_rfl) outs_nil (gives_cons (give_lref (fz := false) (es := List.map (D.int .i64) r_1) (by kernel_rfl) (by rw [List.length_map, List.length_map, hlw0] : (List.map (D.int .i64) data_).length = (List.map (D.int .i64) r_1).length) (by kernel_rfl) (by decide)) (gives_cons (give_same (by kernel_rfl)) (gives_cons (give_same (by kernel_rfl)) (gives_cons (give_same (by kernel_rfl)) gives_nil)))))⟩
 | false =>
  replace h := ite_f hb_1 h
  refine Cf <| Runs.skip <| kS_nrm <| Sq <| Sq <| Ro <| Rc 2 [vi limit3, vb (limit3 == 0)] <| Rk ?_
  cases hb_2 : ((limit3 == 0) : Bool) with
  | true =>
   replace h := ite_t hb_2 h
   refine Ct <| Sq <| Ro <| Rc 3 [⟨.ref [0] 0 0 (List.map (D.int .i64) w_data_).length 1, []⟩, vi a1, vi b2] ?_
   obtain ⟨r_2, hr_2, h⟩ := bind_s h
   have hc_2 := slices_heapSortOrdered_int_L w_data_ a1 b2 r_2 hr_2
   have hn_2 := lim_len (F := tab1) (X := fun _ _ => none) hc_2 (show tab1 161 = some F161 from by kernel_rfl) rfl 0 rfl (by decide) rfl
   refine Rt (some 33) (.callf 161) [] none [.lref [0] 0 0 (List.map (D.int .i64) w_data_).length 1, .i a1, .i b2] (.tup []) [([0], some (.arr (List.map (D.int .i64) r_2) 0 false))] (cut_call (call_ofL (ws := []) (us := [([0], some (.arr (List.map (D.int .i64) r_2) 0 false))]) (by kernel_rfl) (map_cons_ (lendX_of (fz := false) (es := List.map (D.int .i64) w_data_) (by kernel_rfl) (by kernel_rfl) rfl (by decide)) (map_cons_ rfl (map_cons_ rfl map_nil_))) (gives_cons (ws := []) (give_lref (fz := false) (es := List.map (D.int .i64) w_data_) (by kernel_rfl) rfl (by kernel_rfl) (by decide)) (gives_cons (ws := []) (give_same (by kernel_rfl)) (gives_cons (ws := []) (give_same (by kernel_rfl)) gives_nil))) hc_2 (backs_cons_ (ws := [([0], some (.arr (List.map (D.int .i64) r_2) 0 false))]) (back_lref (f0 := false) (es0 := List.map (D.int .i64) w_data_) (by kernel_rfl) hn_2) (backs_cons_ (ws := []) (by kernel_rfl) (backs_cons_ (ws := []) (by kernel_rfl) backs_nil_))) (by kernel_rfl))) <| Rk <| Runs.ret <| kS_ret <| kB_ret ?_
   try dsimp only at h
   by_cases hlw0 : r_2.length = data_.length
   case neg => rw [if_neg hlw0] at h; cases h
   rw [if_pos hlw0] at h
   obtain rfl := sj h
   exact ⟨nofun, rfl, (fin_ofL (rs := []) (by kernel_rfl) (map_cons_ (lendP_of (fz := false) (es := List.map (D.int .i64) r_2) (by kernel_rfl) (by rw [List.length_map, List.length_map, hlw0] : (List.map (D.int .i64) data_).length = (List.map (D.int .i64) r_2).length) (by decide)) (map_cons_ rfl (map_cons_ rfl (map_cons_ rfl map_nil_)))) (by kernel_rfl) outs_nil (gives_cons (give_lref (fz := false) (es := List.map (D.int .i64) r_2) (by kernel_rfl) (by rw [List.length_map, List.length_map, hlw0] : (List.map (D.int .i64) data_).length = (List.map (D.int .i64) r_2).length) (by kernel_rfl) (by decide)) (gives_cons (give_same (by kernel_rfl)) (gives_cons (give_same (by kernel_rfl)) (gives_cons (give_same (by kernel_rfl)) gives_nil)))))⟩
  | false =>
   replace h := ite_f hb_2 h
   refine Cf <| Runs.skip <| kS_nrm <| Sq <| Sq <| Ro <| Rc 2 [vb wasBalanced8, vb (!wasBalanced8)] <| Rk ?_
   cases hb_3 : ((!wasBalanced8) : Bool) with
   | true =>
    replace h := ite_t hb_3 h
    refine Ct <| Sq <| Ro <| Rc 3 [⟨.ref [0] 0 0 (List.map (D.int .i64) w_data_).length 1, []⟩, vi a1, vi b2] ?_
    obtain ⟨r_3, hr_3, h⟩ := bind_s h
    have hc_3 := slices_breakPatternsOrdered_int_L w_data_ a1 b2 r_3 hr_3
    have hn_3 := lim_len (F := tab1) (X := fun _ _ => none) hc_3 (show tab1 162 = some F162 from by kernel_rfl) rfl 0 rfl (by decide) rfl
    refine Rt (some 39) (.callf 162) [] none [.lref [0] 0 0 (List.map (D.int .i64) w_data_).length 1, .i a1, .i b2] (.tup []) [([0], some (.arr (List.map (D.int .i64) r_3) 0 false))] (cut_call (call_ofL (ws := []) (us := [([0], some (.arr (List.map (D.int .i64) r_3) 0 false))]) (by kernel_rfl) (map_cons_ (lendX_of (fz := false) (es := List.map (D.int .i64) w_data_) (by kernel_rfl) (by kernel_rfl) rfl (by decide)) (map_cons_ rfl (map_cons_ rfl map_nil_))) (gives_cons (ws := []) (give_lref (fz := false) (es := List.map (D.int .i64) w_data_) (by kernel_rfl) rfl (by kernel_rfl) (by decide)) (gives_cons (ws := []) (give_same (by kernel_rfl)) (gives_cons (ws := []) (give_same (by kernel_rfl)) gives_nil))) hc_3 (backs_cons_ (ws := [([0], some (.arr (List.map (D.int .i64) r_3) 0 false))]) (back_lref (f0 := false) (es0 := List.map (D.int .i64) w_data_) (by kernel_rfl) hn_3) (backs_cons_ (ws := []) (by kernel_rfl) (backs_cons_ (ws := []) (by kernel_rfl) backs_nil_))) (by kernel_rfl))) <| Rk <| Ro <| Rc 3 [vi limit3, vi (IntKind.wrap .i64 (limit3 - 1)), vi (IntKind.wrap .i64 (limit3 - 1))] <| Rk <| Runs.canon (slices_pdqsortOrdered_int_h33 data_ r_3 a1 b2 (IntKind.wrap .i64 (limit3 - 1)) wasBalanced8 wasPartitioned9 (IntKind.wrap .i64 (b2 - a1))) (Canon.len (f := fun n => slices_pdqsortOrdered_int_h33n data_ r_3 a1 b2 (IntKind.wrap .i64 (limit3 - 1)) wasBalanced8 wasPartitioned9 (IntKind.wrap .i64 (b2 - a1)) n) ((by simp only [List.length_map, List.length_set, cpy_length] at * <;> omega : (List.map (D.int .i64) w_data_).length = (List.map (D.int .i64) r_3).length)).symm Cz) ?_
    exact slices_pdqsortOrdered_int_j33_ok self_ hs_ data_ a_ b_ limit_ data_ r_3 a1 b2 (IntKind.wrap .i64 (limit3 - 1)) wasBalanced8 wasPartitioned9 (IntKind.wrap .i64 (b2 - a1)) r h
   | false =>
    replace h := ite_f hb_3 h
    refine Cf <| Runs.skip <| kS_nrm <| Runs.canon (slices_pdqsortOrdered_int_h33 data_ w_data_ a1 b2 limit3 wasBalanced8 wasPartitioned9 (IntKind.wrap .i64 (b2 - a1))) Cz ?_
    exact slices_pdqsortOrdered_int_j33_ok self_ hs_ data_ a_ b_ limit_ data_ w_data_ a1 b2 limit3 wasBalanced8 wasPartitioned9 (IntKind.wrap .i64 (b2 - a1)) r h
theorem slices_pdqsortOrdered_int_ok (self_ : (List Int) → Int → Int → Int → Option (List Int)) (hs_ : ∀ (data_ : (List Int)) (a_ : Int) (b_ : Int) (limit_ : Int) (r : (List Int)), self_ data_ a_ b_ limit_ = some r → L 135 [.arr false 1 (List.map (D.int .i64) data_), .i a_, .i b_, .i limit_] = some (.tup [], [.arr false 1 (List.map (D.int .i64) r), .i a_, .i b_, .i limit_])) (data_ : (List Int)) (a_ : Int) (b_ : Int) (limit_ : Int) (r : (List Int)) (h : slices_pdqsortOrdered_int_b self_ data_ a_ b_ limit_ = some r) : Runs L F135.body ⟨tmOf [.ref [0] 0 0 (List.map (D.int .i64) data_).length 1, .i a_, .i b_, .i limit_] 0, updW (fun _ => none) [([0], some (.arr (List.map (D.int .i64) data_) 0 false))]⟩ (slices_pdqsortOrdered_int_Q data_ a_ b_ limit_ r) := by
 unfold slices_pdqsortOrdered_int_b at h
 refine Sq <| Sq <| Ro <| Rc 1 [vb true] <| Rk <| Sq <| Ro <| Rc 1 [vb true] <| Rk <| Runs.block ?_
 obtain ⟨e_1, he_1, h⟩ := bind_s h
 refine Runs.loop (fun x : ((List Int) × Int × Int × Int × Bool × Bool) => slices_pdqsortOrdered_int_l5 self_ data_ x.1 x.2.1 x.2.2.1 x.2.2.2.1 x.2.2.2.2.1 x.2.2.2.2.2) (fun (x : ((List Int) × Int × Int × Int × Bool × Bool)) (g : Unit) => slices_pdqsortOrdered_int_h5 data_ x.1 x.2.1 x.2.2.1 x.2.2.2.1 x.2.2.2.2.1 x.2.2.2.2.2) (slices_pdqsortOrdered_int_P5 data_ a_ b_ limit_ data_) (fun x g r hr => slices_pdqsortOrdered_int_l5_ok self_ hs_ data_ a_ b_ limit_ data_ x.1 x.2.1 x.2.2.1 x.2.2.2.1 x.2.2.2.2.1 x.2.2.2.2.2  r hr) () he_1 Cz ?_
 rintro ⟨o, s⟩ hp
 obtain ⟨ho, hf⟩ := hp
 have ho' : o = .ret := ho
 subst ho'
 refine kB_ret <| kS_ret ?_
 obtain rfl := sj h
 exact ⟨Out.ret_ne, hf⟩
theorem slices_pdqsortOrdered_int_L : ∀ (n_ : Nat) (data_ : (List Int)) (a_ : Int) (b_ : Int) (limit_ : Int) (r : (List Int)) (h : slices_pdqsortOrdered_int n_ data_ a_ b_ limit_ = some r), L 135 [.arr false 1 (List.map (D.int .i64) data_), .i a_, .i b_, .i limit_] = some (.tup [], [.arr false 1 (List.map (D.int .i64) r), .i a_, .i b_, .i limit_])
 | 0, data_, a_, b_, limit_, r, h => by cases h
 | n_ + 1, data_, a_, b_, limit_, r, h => by
  have h : slices_pdqsortOrdered_int_b (slices_pdqsortOrdered_int n_) data_ a_ b_ limit_ = some r := h
  obtain ⟨p, ⟨hne, hf⟩, hr⟩ := slices_pdqsortOrdered_int_ok (slices_pdqsortOrdered_int n_) (fun data_ a_ b_ limit_ r h => slices_pdqsortOrdered_int_L n_ data_ a_ b_ limit_ r h) data_ a_ b_ limit_ r h
  obtain ⟨k, hk⟩ := run_of (F := F135) (args := [.arr false 1 (List.map (D.int .i64) data_), .i a_, .i b_, .i limit_]) (ap := [.ref [0] 0 0 (List.map (D.int .i64) data_).length 1, .i a_, .i b_, .i limit_]) (bx0 := updW (fun _ => none) [([0], some (.arr (List.map (D.int .i64) data_) 0 false))]) rfl rfl (by kernel_rfl) ⟨p, ⟨hne, hf⟩, hr⟩
  exact lim_run (k := k) rfl hk
def slices_Sort_Lint_Q (x_ : (List Int)) (r : (List Int)) (p : Out × St) : Prop := (∀ i, p.1 ≠ .exit i) ∧ finF F106 [.ref [0] 0 0 (List.map (D.int .i64) x_).length 1] p.2 = some (.tup [], [.arr false 1 (List.map (D.int .i64) r)])
theorem slices_Sort_Lint_ok (x_ : (List Int)) (r : (List Int)) (h : slices_Sort_Lint x_ = some r) : Runs L F106.body ⟨tmOf [.ref [0] 0 0 (List.map (D.int .i64) x_).length 1] 0, updW (fun _ => none) [([0], some (.arr (List.map (D.int .i64) x_) 0 false))]⟩ (slices_Sort_Lint_Q x_ r) := by
 unfold slices_Sort_Lint at h
 refine Sq <| Sq <| Ro <| Rc 1 [⟨.ref [0] 0 0 (List.map (D.int .i64) x_).length 1, []⟩] <| Rt (some 4) .lenL [] none [.ref [0] 0 0 (List.map (D.int .i64) x_).length 1] (.i (x_.length : Int)) [] (cut_lenR (e := (D.int .i64)) x_ rfl) <| Rc 1 [vi (x_.length : Int)] <| Rk <| Ro <| Rc 4 [⟨.ref [0] 0 0 (List.map (D.int .i64) x_).length 1, []⟩, vi (x_.length : Int), vi (x_.length : Int), ⟨.d (.int .u64 (IntKind.wrap .u64 (x_.length : Int))), []⟩] ?_
 obtain ⟨r_1, hr_1, h⟩ := bind_s h
 have hc_1 := math_bits_Len_L (IntKind.wrap .u64 (x_.length : Int)) r_1 hr_1
 refine Rt (some 9) (.callf 136) [] none [.d (.int .u64 (IntKind.wrap .u64 (x_.length : Int)))] (.i r_1) [] (cc hc_1) ?_
 obtain ⟨r_2, hr_2, h⟩ := bind_s h
 have hc_2 := slices_pdqsortOrdered_int_L 64 x_ 0 (x_.length : Int) r_1 r_2 hr_2
 have hn_1 := lim_len (F := tab1) (X := fun _ _ => none) hc_2 (show tab1 135 = some F135 from by kernel_rfl) rfl 0 rfl (by decide) rfl
 refine Rt (some 10) (.callf 135) [] none [.lref [0] 0 0 (List.map (D.int .i64) x_).length 1, .i 0, .i (x_.length : Int), .i r_1] (.tup []) [([0], some (.arr (List.map (D.int .i64) r_2) 0 false))] (cut_call (call_ofL (ws := []) (us := [([0], some (.arr (List.map (D.int .i64) r_2) 0 false))]) (by kernel_rfl) (map_cons_ (lendX_of (fz := false) (es := List.map (D.int .i64) x_) (by kernel_rfl) (by kernel_rfl) rfl (by decide)) (map_cons_ rfl (map_cons_ rfl (map_cons_ rfl map_nil_)))) (gives_cons (ws := []) (give_lref (fz := false) (es := List.map (D.int .i64) x_) (by kernel_rfl) rfl (by kernel_rfl) (by decide)) (gives_cons (ws := []) (give_same (by kernel_rfl)) (gives_cons (ws := []) (give_same (by kernel_rfl)) (gives_cons (ws := []) (give_same (by kernel_rfl)) gives_nil)))) hc_2 (backs_cons_ (ws := [([0], some (.arr (List.map (D.int .i64) r_2) 0 false))]) (back_lref (f0 := false) (es0 := List.map (D.int .i64) x_) (by kernel_rfl) hn_1) (backs_cons_ (ws := []) (by kernel_rfl) (backs_cons_ (ws := []) (by kernel_rfl) (backs_cons_ (ws := []) (by kernel_rfl) backs_nil_)))) (by kernel_rfl))) <| Rk <| Runs.gnil ?_
 obtain rfl := sj h
 exact ⟨Out.nrm_ne, (fin_ofL (rs := []) (by kernel_rfl) (map_cons_ (lendP_of (fz := false) (es := List.map (D.int .i64) r_2) (by kernel_rfl) (by simp only [List.length_map, List.length_set, cpy_length] at * <;> omega : (List.map (D.int .i64) x_).length = (List.map (D.int .i64) r_2).length) (by decide)) map_nil_) (by kernel_rfl) outs_nil (gives_cons (give_lref (fz := false) (es := List.map (D.int .i64) r_2) (by kernel_rfl) (by simp only [List.length_map, List.length_set, cpy_length] at * <;> omega : (List.map (D.int .i64) x_).length = (List.map (D.int .i64) r_2).length) (by kernel_rfl) (by decide)) gives_nil))⟩
theorem slices_Sort_Lint_L (x_ : (List Int)) (r : (List Int)) (h : slices_Sort_Lint x_ = some r) : L 106 [.arr false 1 (List.map (D.int .i64) x_)] = some (.tup [], [.arr false 1 (List.map (D.int .i64) r)]) := by
 obtain ⟨p, ⟨hne, hf⟩, hr⟩ := slices_Sort_Lint_ok x_ r h
 obtain ⟨k, hk⟩ := run_of (F := F106) (args := [.arr false 1 (List.map (D.int .i64) x_)]) (ap := [.ref [0] 0 0 (List.map (D.int .i64) x_).length 1]) (bx0 := updW (fun _ => none) [([0], some (.arr (List.map (D.int .i64) x_) 0 false))]) rfl rfl (by kernel_rfl) ⟨p, ⟨hne, hf⟩, hr⟩
 exact lim_run (k := k) rfl hk
def mz_sites_h22 (h4 : Header) (out9 : (List Int)) (b0 : (List Int)) (n2 : Int) (at8 : Int) (v_9 : Nat) : St := ⟨tab [(0, .d (.sl (mY b0))), (2, .i n2), (4, .ptr [4] 0 0), (8, .i at8), (9, .ref [9] v_9 0 (List.map (D.int .i64) out9).length 1)], tabB [([4], some (.cells [.w h4.last, .w h4.pages, .w h4.relocs, .w h4.paras, .w h4.min, .w h4.ss, .w h4.sp, .w h4.ip, .w h4.cs_, .w h4.table] 0)), ([9], some (.arr (List.map (D.int .i64) out9) v_9 false))]⟩
def mz_sites_h26 (out9 : (List Int)) (b0 : (List Int)) (n2 : Int) (at8 : Int) (t45 : Int) (t46 : Int) (v_9 : Nat) : St := ⟨tab [(0, .d (.sl (mY b0))), (2, .i n2), (8, .i at8), (9, .ref [9] v_9 0 (List.map (D.int .i64) out9).length 1), (45, .i t45), (46, .i t46)], tabB [([9], some (.arr (List.map (D.int .i64) out9) v_9 false))]⟩
def mz_sites_h43 (out9 : (List Int)) (n2 : Int) (v_9 : Nat) : St := ⟨tab [(2, .i n2), (9, .ref [9] v_9 0 (List.map (D.int .i64) out9).length 1)], tabB [([9], some (.arr (List.map (D.int .i64) out9) v_9 false))]⟩
def mz_sites_h49n (out9 : (List Int)) (n2 : Int) (t74 : (List Int)) (t75 : Int) (t76 : Int) (v_9 : Nat) (f_9 : Bool) (n_9 : Nat) : St := ⟨tab [(2, .i n2), (9, .ref [9] v_9 0 n_9 1), (74, .d (.sl (List.map (D.int .i64) t74))), (75, .i t75), (76, .i t76)], tabB [([9], some (.arr (List.map (D.int .i64) out9) v_9 f_9))]⟩
def mz_sites_h49 (out9 : (List Int)) (n2 : Int) (t74 : (List Int)) (t75 : Int) (t76 : Int) (v_9 : Nat) (f_9 : Bool) : St := mz_sites_h49n out9 n2 t74 t75 t76 v_9 f_9 (List.map (D.int .i64) out9).length
def mz_sites_h68 (out9 : (List Int)) (v_9 : Nat) (f_9 : Bool) : St := ⟨tab [(9, .ref [9] v_9 0 (List.map (D.int .i64) out9).length 1)], tabB [([9], some (.arr (List.map (D.int .i64) out9) v_9 f_9))]⟩
def mz_sites_Q (b_ : (List Int)) (h_ : Header) (n_ : Int) (r : ((List Int) × Int)) (p : Out × St) : Prop := (∀ i, p.1 ≠ .exit i) ∧ finF F74 [.d (.sl (mY b_)), .d (Header.d h_), .i n_] p.2 = some (.tup [.d (.sl (List.map (D.int .i64) r.1)), .i r.2], [.d (.sl (mY b_)), .d (Header.d h_), .i n_])
def mz_sites_P26 (b_ : (List Int)) (h_ : Header) (n_ : Int) (b0 : (List Int)) (n2 : Int) (at8 : Int) (t45 : Int) (e : (List Int)) (p : Out × St) : Prop := p.1 = .exit 0 ∧ ∃ g : Nat, Canon [] [2, 9] [[9]] p.2 (mz_sites_h43 e n2 g)
def mz_sites_P49 (b_ : (List Int)) (h_ : Header) (n_ : Int) (out9 : (List Int)) (n2 : Int) (t74 : (List Int)) (t75 : Int) (e : (((List Int) × Int) ⊕ Unit)) (p : Out × St) : Prop := match e with
 | .inl x => p.1 = .ret ∧ finF F74 [.d (.sl (mY b_)), .d (Header.d h_), .i n_] p.2 = some (.tup [.d (.sl (List.map (D.int .i64) x.1)), .i x.2], [.d (.sl (mY b_)), .d (Header.d h_), .i n_])
 | .inr x => p.1 = .exit 2 ∧ ∃ g : (Nat × Bool), Canon [] [9] [[9]] p.2 (mz_sites_h68 out9 g.1 g.2)
theorem mz_sites_l26_ok (b_ : (List Int)) (h_ : Header) (n_ : Int) (out9 : (List Int)) (b0 : (List Int)) (n2 : Int) (at8 : Int) (t45 : Int) (t46 : Int) (v_9 : Nat) (r : (Lp ((List Int) × Int) (List Int))) (h : mz_sites_l26 out9 b0 n2 at8 t45 t46 = some r) : Runs L F74l26 (mz_sites_h26 out9 b0 n2 at8 t45 t46 v_9) (LQ [] [0, 2, 8, 9, 45, 46] [[9]] (fun (x : ((List Int) × Int)) (g : Nat) => mz_sites_h26 x.1 b0 n2 at8 t45 x.2 g) (mz_sites_P26 b_ h_ n_ b0 n2 at8 t45) r) := by
 unfold mz_sites_l26 at h
 refine Sq <| Ro <| Rc 1 [vb (decide (t46 < t45))] <| Rk <| Sq ?_
 cases hb_4 : ((decide (t46 < t45)) : Bool) with
 | true =>
  replace h := ite_t hb_4 h
  refine Ct <| Runs.skip <| kS_nrm <| Sq <| Runs.block <| Sq <| Ro <| Rc 2 [vi t46, vi t46] <| Rk <| Sq <| Ro <| Rc 10 [⟨.d (.sl (mY b0)), []⟩, vi at8, vi t46, vi (IntKind.wrap .i64 (4 * t46)), vi (IntKind.wrap .i64 (at8 + (IntKind.wrap .i64 (4 * t46)))), vi at8, vi t46, vi (IntKind.wrap .i64 (4 * t46)), vi (IntKind.wrap .i64 (at8 + (IntKind.wrap .i64 (4 * t46)))), vi (IntKind.wrap .i64 ((IntKind.wrap .i64 (at8 + (IntKind.wrap .i64 (4 * t46)))) + 4))] ?_
  obtain ⟨z_1, hz_1, h⟩ := bind_s h
  refine Rt (some 59) (.subsl 1 true true false) [] none [.d (.sl (mY b0)), .i (IntKind.wrap .i64 (at8 + (IntKind.wrap .i64 (4 * t46)))), .i (IntKind.wrap .i64 ((IntKind.wrap .i64 (at8 + (IntKind.wrap .i64 (4 * t46)))) + 4))] (.d (.sl (mY z_1))) [] (cut_slTT hz_1 (fun _ => rfl)) ?_
  obtain ⟨r_1, hr_1, h⟩ := bind_s h
  have hc_1 := index_From_L z_1 r_1 hr_1
  refine Rt (some 60) (.callf 50) [] none [.d (.sl (mY z_1))] (.ptr [60] 0 0) [([60], some (.cells [.d (.sl (mY r_1.b)), .i r_1.e] 0))] (cc hc_1) <| Rc 1 [vp [60] 0 0] <| Rk <| Sq <| Ro <| Rc 1 [vp [60] 0 0] ?_
  obtain ⟨r_2, hr_2, h⟩ := bind_s h
  have hc_2 := index_Source_Word_L r_1 r_2 hr_2
  refine Rt (some 62) (.callf 64) [] none [.ptr [60] 0 0] (.w r_2.1) [([60], some (.cells [.d (.sl (mY r_2.2.b)), .i r_2.2.e] 0))] (cut_call (call_of (ws := []) (us := [([60], some (.cells [.d (.sl (mY r_2.2.b)), .i r_2.2.e] 0))]) (by kernel_rfl) (by kernel_rfl) hc_2 (by kernel_rfl) (by kernel_rfl))) <| Rc 1 [vw r_2.1] <| Rk <| Ro <| Rc 2 [⟨.ref [9] v_9 0 (List.map (D.int .i64) out9).length 1, []⟩, vp [60] 0 0] ?_
  obtain ⟨r_3, hr_3, h⟩ := bind_s h
  have hc_3 := index_Source_Word_L r_2.2 r_3 hr_3
  refine Rt (some 65) (.callf 64) [] none [.ptr [60] 0 0] (.w r_3.1) [([60], some (.cells [.d (.sl (mY r_3.2.b)), .i r_3.2.e] 0))] (cut_call (call_of (ws := []) (us := [([60], some (.cells [.d (.sl (mY r_3.2.b)), .i r_3.2.e] 0))]) (by kernel_rfl) (by kernel_rfl) hc_3 (by kernel_rfl) (by kernel_rfl))) <| Rc 1 [vw r_2.1] ?_
  obtain ⟨r_4, hr_4, h⟩ := bind_s h
  have hc_4 := bits_Linear_L r_3.1 r_2.1 r_4 hr_4
  refine Rt (some 67) (.callf 105) [] none [.w r_3.1, .w r_2.1] (.u r_4) [] (cc hc_4) <| Rc 2 [vi (IntKind.wrap .i64 r_4), ⟨.ref [69] 0 0 (List.map (D.int .i64) ([(IntKind.wrap .i64 r_4)] : List Int)).length 1, [([69], some (.arr (List.map (D.int .i64) ([(IntKind.wrap .i64 r_4)] : List Int)) 0 false))]⟩] ?_
  obtain ⟨z_2, hz_2, h⟩ := bind_s h
  refine Rt (some 70) (.append 1 8 false) [] none [.ref [9] v_9 0 (List.map (D.int .i64) out9).length 1, .ref [69] 0 0 (List.map (D.int .i64) ([(IntKind.wrap .i64 r_4)] : List Int)).length 1] (.ref [9] (v_9 + 1) 0 (List.map (D.int .i64) z_2).length 1) [([9], some (.arr (List.map (D.int .i64) z_2) (v_9 + 1) false))] (cut_appR (e := (D.int .i64)) (l := out9) (fz := false) (ws := []) (ap_ref (e := (D.int .i64)) (l := ([(IntKind.wrap .i64 r_4)] : List Int)) (fz := false) (by kernel_rfl) (by kernel_rfl) rfl) (fun _ => rfl) hz_2 (by kernel_rfl) (by kernel_rfl) rfl) <| Rc 1 [⟨.ref [9] (v_9 + 1) 0 (List.map (D.int .i64) z_2).length 1, []⟩] <| Rd <| kB_nrm <| kS_nrm <| Ro <| Rc 2 [vi (IntKind.wrap .i64 (t46 + 1)), vi (IntKind.wrap .i64 (t46 + 1))] <| Rd ?_
  obtain rfl := sj h
  exact ⟨rfl, (v_9 + 1), Cz⟩
 | false =>
  replace h := ite_f hb_4 h
  refine Cf <| Runs.exit <| kS_exit ?_
  obtain rfl := sj h
  exact ⟨nofun, rfl, v_9, Cz⟩
theorem mz_sites_l49_ok (b_ : (List Int)) (h_ : Header) (n_ : Int) (out9 : (List Int)) (n2 : Int) (t74 : (List Int)) (t75 : Int) (t76 : Int) (v_9 : Nat) (f_9 : Bool) (r : (Lp Int (((List Int) × Int) ⊕ Unit))) (h : mz_sites_l49 out9 n2 t74 t75 t76 = some r) : Runs L F74l49 (mz_sites_h49 out9 n2 t74 t75 t76 v_9 f_9) (LQ [.frz 74] [2, 9, 74, 75, 76] [[9]] (fun (x : Int) (g : (Nat × Bool)) => mz_sites_h49 out9 n2 t74 t75 x g.1 g.2) (mz_sites_P49 b_ h_ n_ out9 n2 t74 t75) r) := by
 unfold mz_sites_l49 at h
 refine Sq <| Ro <| Rc 1 [vb (decide (t76 < t75))] <| Rk <| Sq ?_
 cases hb_4 : ((decide (t76 < t75)) : Bool) with
 | true =>
  replace h := ite_t hb_4 h
  refine Ct <| Runs.skip <| kS_nrm <| Sq <| Runs.block <| Sq <| Ro <| Rc 1 [vi t76] ?_
  obtain ⟨z_1, hz_1, h⟩ := bind_s h
  refine Rt (some 79) (.iaddrS 1) [] none [.d (.sl (List.map (D.int .i64) t74)), .i t76] (.elt (.int .i64 z_1) 0) [] (cut_at hz_1 (fun _ => rfl)) <| Rc 3 [vi z_1, vi t76, vi z_1] <| Rk <| Sq <| Ro <| Rc 5 [vi z_1, vi n2, vi (IntKind.wrap .i64 (n2 - 2)), vb (decide (z_1 > (IntKind.wrap .i64 (n2 - 2)))), vb (decide (z_1 > (IntKind.wrap .i64 (n2 - 2))))] ?_
  cases hb_5 : ((decide (z_1 > (IntKind.wrap .i64 (n2 - 2)))) : Bool) with
  | true =>
   replace h := ite_t hb_5 h
   refine Rc 13 [vn, vn, vn, vn, vn, vn, vn, vn, vn, vn, vn, vn, vb true] <| Rk <| Ct <| Sq <| Ro <| Rc 2 [⟨.nils, []⟩, vi 3] <| Rk <| Sq <| Runs.gcons (frz_nil (D.int .i64) (by kernel_rfl)) <| Runs.gnil <| kS_nrm <| Runs.ret <| kB_ret <| kS_ret ?_
   obtain rfl := sj h
   exact ⟨nofun, rfl, (by kernel_rfl)⟩
  | false =>
   replace h := ite_f hb_5 h
   refine Rc 3 [vi t76, vb (decide (t76 > 0)), vb (decide (t76 > 0))] ?_
   cases hb_6 : ((decide (t76 > 0)) : Bool) with
   | true =>
    replace h := ite_t hb_6 h
    refine Rc 4 [vi z_1, ⟨.ref [9] v_9 0 (List.map (D.int .i64) out9).length 1, []⟩, vi t76, vi (IntKind.wrap .i64 (t76 - 1))] ?_
    obtain ⟨z_2, hz_2, h⟩ := bind_s h
    refine Rt (some 93) (.iaddrS 1) [] none [.ref [9] v_9 0 (List.map (D.int .i64) out9).length 1, .i (IntKind.wrap .i64 (t76 - 1))] (.eref [9] v_9 (0 + ((IntKind.wrap .i64 (t76 - 1))).toNat) 0) [] (cut_atR (e := (D.int .i64)) (l := out9) hz_2 rfl) <| Rt (some 94) (.load none) [] none [.eref [9] v_9 (0 + ((IntKind.wrap .i64 (t76 - 1))).toNat) 0] (.i z_2) [] (cut_loadR (e := (D.int .i64)) (l := out9) (fz := f_9) (y := z_2) (by kernel_rfl) hz_2 (by kernel_rfl) (by kernel_rfl)) <| Rc 4 [vi (IntKind.wrap .i64 (z_1 - z_2)), vb (decide ((IntKind.wrap .i64 (z_1 - z_2)) < 2)), vb (decide ((IntKind.wrap .i64 (z_1 - z_2)) < 2)), vb (decide ((IntKind.wrap .i64 (z_1 - z_2)) < 2))] <| Rk ?_
    cases hb_7 : ((decide ((IntKind.wrap .i64 (z_1 - z_2)) < 2)) : Bool) with
    | true =>
     replace h := ite_t hb_7 h
     refine Ct <| Sq <| Ro <| Rc 2 [⟨.nils, []⟩, vi 3] <| Rk <| Sq <| Runs.gcons (frz_nil (D.int .i64) (by kernel_rfl)) <| Runs.gnil <| kS_nrm <| Runs.ret <| kB_ret <| kS_ret ?_
     obtain rfl := sj h
     exact ⟨nofun, rfl, (by kernel_rfl)⟩
    | false =>
     replace h := ite_f hb_7 h
     refine Cf <| Runs.skip <| kB_nrm <| kS_nrm <| Ro <| Rc 2 [vi (IntKind.wrap .i64 (t76 + 1)), vi (IntKind.wrap .i64 (t76 + 1))] <| Rd ?_
     obtain rfl := sj h
     exact ⟨rfl, (v_9, f_9), (Canon.same (by kernel_rfl) Cz)⟩
   | false =>
    replace h := ite_f hb_6 h
    refine Rc 10 [vn, vn, vn, vn, vn, vn, vn, vn, vb false, vb false] <| Rk <| Cf <| Runs.skip <| kB_nrm <| kS_nrm <| Ro <| Rc 2 [vi (IntKind.wrap .i64 (t76 + 1)), vi (IntKind.wrap .i64 (t76 + 1))] <| Rd ?_
    obtain rfl := sj h
    exact ⟨rfl, (v_9, f_9), (Canon.same (by kernel_rfl) Cz)⟩
 | false =>
  replace h := ite_f hb_4 h
  refine Cf <| Runs.exit <| kS_exit ?_
  obtain rfl := sj h
  exact ⟨nofun, rfl, (v_9, f_9), Cz⟩
theorem mz_sites_ok (b_ : (List Int)) (h_ : Header) (n_ : Int) (r : ((List Int) × Int)) (h : mz_sites b_ h_ n_ = some r) : Runs L F74.body ⟨tmOf [.d (.sl (mY b_)), .d (Header.d h_), .i n_] 0, updW (fun _ => none) []⟩ (mz_sites_Q b_ h_ n_ r) := by
 unfold mz_sites at h
 refine Sq <| Ro <| Rc 3 [⟨.ptr [4] 0 0, [([4], some (.cells [.w h_.last, .w h_.pages, .w h_.relocs, .w h_.paras, .w h_.min, .w h_.ss, .w h_.sp, .w h_.ip, .w h_.cs_, .w h_.table] 0))]⟩, ⟨.nils, []⟩, vi 0] <| Rk <| Sq <| Ro <| Rc 4 [vp [4] 0 9, vw h_.table, vi (IntKind.wrap .i64 h_.table), vi (IntKind.wrap .i64 h_.table)] <| Rk <| Sq <| Sq <| Ro <| Rc 3 [vp [4] 0 2, vw h_.relocs, vb (decide (h_.relocs > 4000))] <| Rk ?_
 cases hb_1 : ((decide (h_.relocs > 4000)) : Bool) with
 | true =>
  replace h := ite_t hb_1 h
  refine Ct <| Sq <| Ro <| Rc 2 [⟨.nils, []⟩, vi 8] <| Rk <| Sq <| Runs.gcons (frz_nil (D.int .i64) (by kernel_rfl)) <| Runs.gnil <| kS_nrm <| Runs.ret <| kS_ret ?_
  cases h
  exact Fq
 | false =>
  replace h := ite_f hb_1 h
  refine Cf <| Runs.skip <| kS_nrm <| Sq <| Sq <| Ro <| Rc 1 [⟨.d (.sl (mY b_)), []⟩] <| Rt (some 22) .lenL [] none [.d (.sl (mY b_))] (.i (b_.length : Int)) [] (cut_len _) <| Rc 8 [vi (IntKind.wrap .i64 h_.table), vp [4] 0 2, vw h_.relocs, vi (IntKind.wrap .i64 h_.relocs), vi (IntKind.wrap .i64 (4 * (IntKind.wrap .i64 h_.relocs))), vi (IntKind.wrap .i64 ((IntKind.wrap .i64 h_.table) + (IntKind.wrap .i64 (4 * (IntKind.wrap .i64 h_.relocs))))), vb (decide ((b_.length : Int) < (IntKind.wrap .i64 ((IntKind.wrap .i64 h_.table) + (IntKind.wrap .i64 (4 * (IntKind.wrap .i64 h_.relocs))))))), vb (decide ((b_.length : Int) < (IntKind.wrap .i64 ((IntKind.wrap .i64 h_.table) + (IntKind.wrap .i64 (4 * (IntKind.wrap .i64 h_.relocs)))))))] ?_
  cases hb_2 : ((decide ((b_.length : Int) < (IntKind.wrap .i64 ((IntKind.wrap .i64 h_.table) + (IntKind.wrap .i64 (4 * (IntKind.wrap .i64 h_.relocs))))))) : Bool) with
  | true =>
   replace h := ite_t hb_2 h
   refine Rc 12 [vn, vn, vn, vn, vn, vn, vn, vn, vn, vn, vn, vb true] <| Rk <| Ct <| Sq <| Ro <| Rc 2 [⟨.nils, []⟩, vi 2] <| Rk <| Sq <| Runs.gcons (frz_nil (D.int .i64) (by kernel_rfl)) <| Runs.gnil <| kS_nrm <| Runs.ret <| kS_ret ?_
   cases h
   exact Fq
  | false =>
   replace h := ite_f hb_2 h
   refine Rc 12 [vi (IntKind.wrap .i64 h_.table), vp [4] 0 2, vw h_.relocs, vi (IntKind.wrap .i64 h_.relocs), vi (IntKind.wrap .i64 (4 * (IntKind.wrap .i64 h_.relocs))), vi (IntKind.wrap .i64 ((IntKind.wrap .i64 h_.table) + (IntKind.wrap .i64 (4 * (IntKind.wrap .i64 h_.relocs))))), vp [4] 0 3, vw h_.paras, vi (IntKind.wrap .i64 h_.paras), vi (IntKind.wrap .i64 ((IntKind.wrap .i64 h_.paras) * 16)), vb (decide ((IntKind.wrap .i64 ((IntKind.wrap .i64 h_.table) + (IntKind.wrap .i64 (4 * (IntKind.wrap .i64 h_.relocs))))) > (IntKind.wrap .i64 ((IntKind.wrap .i64 h_.paras) * 16)))), vb (decide ((IntKind.wrap .i64 ((IntKind.wrap .i64 h_.table) + (IntKind.wrap .i64 (4 * (IntKind.wrap .i64 h_.relocs))))) > (IntKind.wrap .i64 ((IntKind.wrap .i64 h_.paras) * 16))))] <| Rk ?_
   cases hb_3 : ((decide ((IntKind.wrap .i64 ((IntKind.wrap .i64 h_.table) + (IntKind.wrap .i64 (4 * (IntKind.wrap .i64 h_.relocs))))) > (IntKind.wrap .i64 ((IntKind.wrap .i64 h_.paras) * 16)))) : Bool) with
   | true =>
    replace h := ite_t hb_3 h
    refine Ct <| Sq <| Ro <| Rc 2 [⟨.nils, []⟩, vi 2] <| Rk <| Sq <| Runs.gcons (frz_nil (D.int .i64) (by kernel_rfl)) <| Runs.gnil <| kS_nrm <| Runs.ret <| kS_ret ?_
    cases h
    exact Fq
   | false =>
    replace h := ite_f hb_3 h
    refine Cf <| Runs.skip <| kS_nrm <| Sq <| Ro <| Rc 1 [⟨.nils, []⟩] <| Rk <| Runs.canon (mz_sites_h22 h_ ([] : List Int) b_ n_ (IntKind.wrap .i64 h_.table) 0) (Canon.cons (own_nil (D.int .i64) (v := 0) (by kernel_rfl) (by kernel_rfl)) Cz) <| Sq <| Sq <| Ro <| Rc 4 [vp [4] 0 2, vw h_.relocs, vi (IntKind.wrap .i64 h_.relocs), vi 0] <| Rk <| Runs.block ?_
    obtain ⟨e_1, he_1, h⟩ := bind_s h
    refine Runs.loop (fun x : ((List Int) × Int) => mz_sites_l26 x.1 b_ n_ (IntKind.wrap .i64 h_.table) (IntKind.wrap .i64 h_.relocs) x.2) (fun (x : ((List Int) × Int)) (g : Nat) => mz_sites_h26 x.1 b_ n_ (IntKind.wrap .i64 h_.table) (IntKind.wrap .i64 h_.relocs) x.2 g) (mz_sites_P26 b_ h_ n_ b_ n_ (IntKind.wrap .i64 h_.table) (IntKind.wrap .i64 h_.relocs)) (fun x g r hr => mz_sites_l26_ok b_ h_ n_ x.1 b_ n_ (IntKind.wrap .i64 h_.table) (IntKind.wrap .i64 h_.relocs) x.2 g r hr) 0 he_1 Cz ?_
    rintro ⟨o, s⟩ hp
    obtain ⟨ho, g_1, hk_1⟩ := hp
    have ho' : o = .exit 0 := ho
    subst ho'
    refine kB_hit <| kS_nrm <| Runs.canon _ hk_1 <| Sq <| Ro <| Rc 1 [⟨.ref [9] g_1 0 (List.map (D.int .i64) e_1).length 1, []⟩] ?_
    obtain ⟨r_1, hr_1, h⟩ := bind_s h
    have hc_1 := slices_Sort_Lint_L e_1 r_1 hr_1
    have hn_1 := lim_len (F := tab1) (X := fun _ _ => none) hc_1 (show tab1 106 = some F106 from by kernel_rfl) rfl 0 rfl (by decide) rfl
    refine Rt (some 73) (.callf 106) [] none [.lref [9] g_1 0 (List.map (D.int .i64) e_1).length 1] (.tup []) [([9], some (.arr (List.map (D.int .i64) r_1) g_1 false))] (cut_call (call_ofL (ws := []) (us := [([9], some (.arr (List.map (D.int .i64) r_1) g_1 false))]) (by kernel_rfl) (map_cons_ (lendX_of (fz := false) (es := List.map (D.int .i64) e_1) (by kernel_rfl) (by kernel_rfl) rfl (by decide)) map_nil_) (gives_cons (ws := []) (give_lref (fz := false) (es := List.map (D.int .i64) e_1) (by kernel_rfl) rfl (by kernel_rfl) (by decide)) gives_nil) hc_1 (backs_cons_ (ws := [([9], some (.arr (List.map (D.int .i64) r_1) g_1 false))]) (back_lref (f0 := false) (es0 := List.map (D.int .i64) e_1) (by kernel_rfl) hn_1) backs_nil_) (by kernel_rfl))) <| Rk <| Sq <| Sq <| Ro <| Rc 1 [⟨.ref [9] g_1 0 (List.map (D.int .i64) e_1).length 1, []⟩] <| Rt (some 75) .lenL [] none [.ref [9] g_1 0 (List.map (D.int .i64) e_1).length 1] (.i (r_1.length : Int)) [] (cut_lenR (e := (D.int .i64)) r_1 (by simp only [List.length_map, List.length_set, cpy_length] at * <;> omega : (List.map (D.int .i64) e_1).length = (List.map (D.int .i64) r_1).length)) <| Rc 1 [vi 0] <| Rk <| Runs.block ?_
    obtain ⟨e_2, he_2, h⟩ := bind_s h
    refine Runs.loop (fun x : Int => mz_sites_l49 r_1 n_ r_1 (r_1.length : Int) x) (fun (x : Int) (g : (Nat × Bool)) => mz_sites_h49 r_1 n_ r_1 (r_1.length : Int) x g.1 g.2) (mz_sites_P49 b_ h_ n_ r_1 n_ r_1 (r_1.length : Int)) (fun x g r hr => mz_sites_l49_ok b_ h_ n_ r_1 n_ r_1 (r_1.length : Int) x g.1 g.2 r hr) (g_1, true) he_2 (Canon.cons (frz_ref (e := (D.int .i64)) (l := r_1) (id := [9]) (v := g_1) (n := 1) (fz := false) (by kernel_rfl) (by kernel_rfl) (by simp only [List.length_map, List.length_set, cpy_length] at * <;> omega : (List.map (D.int .i64) e_1).length = (List.map (D.int .i64) r_1).length)) (Canon.len (f := fun n => mz_sites_h49n r_1 n_ r_1 (r_1.length : Int) 0 g_1 true n) ((by simp only [List.length_map, List.length_set, cpy_length] at * <;> omega : (List.map (D.int .i64) e_1).length = (List.map (D.int .i64) r_1).length)).symm Cz)) ?_
    rintro ⟨o, s⟩ hp
    cases e_2 with
    | inl e_3 =>
     obtain ⟨ho, hf⟩ := hp
     have ho' : o = .ret := ho
     subst ho'
     refine kB_ret <| kS_ret ?_
     obtain rfl := sj h
     exact ⟨Out.ret_ne, hf⟩
    | inr e_4 =>
     obtain ⟨ho, g_2, hk_2⟩ := hp
     have ho' : o = .exit 2 := ho
     subst ho'
     refine kB_hit <| kS_nrm <| Runs.canon _ hk_2 <| Sq <| Ro <| Rc 3 [⟨.ref [9] g_2.1 0 (List.map (D.int .i64) r_1).length 1, []⟩, ⟨.ref [9] g_2.1 0 (List.map (D.int .i64) r_1).length 1, []⟩, vi 0] <| Rk <| Sq <| Runs.gcons (frz_ref (e := (D.int .i64)) (l := r_1) (id := [9]) (v := g_2.1) (n := 1) (fz := g_2.2) (by kernel_rfl) (by kernel_rfl) rfl) <| Runs.gnil <| kS_nrm <| Runs.ret ?_
     cases h
     exact Fq
theorem mz_sites_L (b_ : (List Int)) (h_ : Header) (n_ : Int) (r : ((List Int) × Int)) (h : mz_sites b_ h_ n_ = some r) : L 74 [.d (.sl (mY b_)), .d (Header.d h_), .i n_] = some (.tup [.d (.sl (List.map (D.int .i64) r.1)), .i r.2], [.d (.sl (mY b_)), .d (Header.d h_), .i n_]) := by
 obtain ⟨p, ⟨hne, hf⟩, hr⟩ := mz_sites_ok b_ h_ n_ r h
 obtain ⟨k, hk⟩ := run_of (F := F74) (args := [.d (.sl (mY b_)), .d (Header.d h_), .i n_]) (ap := [.d (.sl (mY b_)), .d (Header.d h_), .i n_]) (bx0 := updW (fun _ => none) []) rfl rfl (by kernel_rfl) ⟨p, ⟨hne, hf⟩, hr⟩
 exact lim_run (k := k) rfl hk
def slices_Clone_Lbyte_Q (s_ : List Int) (r : (List Int)) (p : Out × St) : Prop := (∀ i, p.1 ≠ .exit i) ∧ finF F67 [.d (.sl (mY s_))] p.2 = some (.arr false 1 (mY r), [.d (.sl (mY s_))])
theorem slices_Clone_Lbyte_ok_cons (x_ : Int) (r_ : List Int) (r : (List Int)) (h : ((grow 1 ([] : List Int) (x_ :: r_)).bind fun z_1 => some z_1) = some r) : Runs L F67.body ⟨tmOf [.d (.sl (mY (x_ :: r_)))] 0, fun _ => none⟩ (slices_Clone_Lbyte_Q (x_ :: r_) r) := by
 refine Sq <| Ro <| Rc 1 [⟨.nils, []⟩] <| Rk <| Sq <| Sq <| Ro <| Rc 2 [⟨.d (.sl (mY (x_ :: r_))), []⟩, vb false] <| Rk <| Cf <| Runs.skip <| kS_nrm <| Sq <| Ro <| Rc 2 [⟨.ref [5] 0 0 (mY ([] : List Int)).length 1, [([5], some (.arr (mY ([] : List Int)) 0 false))]⟩, ⟨.d (.sl (mY (x_ :: r_))), []⟩] ?_
 obtain ⟨z_1, hz_1, h⟩ := bind_s h
 refine Rt (some 7) (.append 1 1 false) [] none [.ref [5] 0 0 (mY ([] : List Int)).length 1, .d (.sl (mY (x_ :: r_)))] (.ref [5] 1 0 (mY z_1).length 1) [([5], some (.arr (mY z_1) 1 false))] (cut_appR (e := (D.int .u8)) (l := ([] : List Int)) (fz := false) (ws := []) (ap_data _) (fun _ => rfl) hz_1 (by kernel_rfl) (by kernel_rfl) rfl) <| Rc 1 [⟨.ref [5] 1 0 (mY z_1).length 1, []⟩] <| Rk <| Runs.ret ?_
 obtain rfl := sj h
 exact ⟨Out.ret_ne, (fin_of (rs := [.ref [5] 1 0 (mY z_1).length 1]) (by kernel_rfl) (by kernel_rfl) (outs_own (id := [5]) (v := 1) (fz := false) (es := List.map (D.int .u8) z_1) (by kernel_rfl) (by decide) rfl outs_nil) (gives_cons (give_same (by kernel_rfl)) gives_nil))⟩
theorem slices_Clone_Lbyte_ok_nil  (r : (List Int)) (h : (some ([] : List Int)) = some r) : Runs L F67.body ⟨tmOf [.nils] 0, fun _ => none⟩ (slices_Clone_Lbyte_Q ([] : List Int) r) := by
 refine Sq <| Ro <| Rc 1 [⟨.nils, []⟩] <| Rk <| Sq <| Sq <| Ro <| Rc 2 [⟨.nils, []⟩, vb true] <| Rk <| Ct <| Sq <| Ro <| Rc 1 [⟨.nils, []⟩] <| Rk <| Sq <| Runs.gcons (own_nil (D.int .u8) (v := 0) (by kernel_rfl) (by kernel_rfl)) <| Runs.gnil <| kS_nrm <| Runs.ret <| kS_ret ?_
 obtain rfl := sj h
 exact ⟨Out.ret_ne, (fin_of (rs := [.ref [2] 0 0 (mY ([] : List Int)).length 1]) (by kernel_rfl) (by kernel_rfl) (outs_own (id := [2]) (v := 0) (fz := false) (es := List.map (D.int .u8) ([] : List Int)) (by kernel_rfl) (by decide) rfl outs_nil) (gives_cons (give_same (by kernel_rfl)) gives_nil))⟩
theorem slices_Clone_Lbyte_ok_empt  (r : (List Int)) (h : ((grow 1 ([] : List Int) ([] : List Int)).bind fun z_1 => some z_1) = some r) : Runs L F67.body ⟨tmOf [.empt] 0, fun _ => none⟩ (slices_Clone_Lbyte_Q ([] : List Int) r) := by
 refine Sq <| Ro <| Rc 1 [⟨.nils, []⟩] <| Rk <| Sq <| Sq <| Ro <| Rc 2 [⟨.empt, []⟩, vb false] <| Rk <| Cf <| Runs.skip <| kS_nrm <| Sq <| Ro <| Rc 2 [⟨.ref [5] 0 0 (mY ([] : List Int)).length 1, [([5], some (.arr (mY ([] : List Int)) 0 false))]⟩, ⟨.empt, []⟩] ?_
 obtain ⟨z_1, hz_1, h⟩ := bind_s h
 refine Rt (some 7) (.append 1 1 false) [] none [.ref [5] 0 0 (mY ([] : List Int)).length 1, .empt] (.ref [5] 1 0 (mY z_1).length 1) [([5], some (.arr (mY z_1) 1 false))] (cut_appR (e := (D.int .u8)) (l := ([] : List Int)) (fz := false) (ws := []) (ap_empt) (fun _ => rfl) hz_1 (by kernel_rfl) (by kernel_rfl) rfl) <| Rc 1 [⟨.ref [5] 1 0 (mY z_1).length 1, []⟩] <| Rk <| Runs.ret ?_
 obtain rfl := sj h
 exact ⟨Out.ret_ne, (fin_of (rs := [.ref [5] 1 0 (mY z_1).length 1]) (by kernel_rfl) (by kernel_rfl) (outs_own (id := [5]) (v := 1) (fz := false) (es := List.map (D.int .u8) z_1) (by kernel_rfl) (by decide) rfl outs_nil) (gives_cons (give_same (by kernel_rfl)) gives_nil))⟩
theorem slices_Clone_Lbyte_L (s_ : List Int) (r : (List Int)) (h : slices_Clone_Lbyte s_ = some r) : L 67 [.d (.sl (mY s_))] = some (.arr false 1 (mY r), [.d (.sl (mY s_))]) := by
 unfold slices_Clone_Lbyte at h
 cases s_ with
 | cons x_ r_ =>
  obtain ⟨p, ⟨hne, hf⟩, hr⟩ := slices_Clone_Lbyte_ok_cons x_ r_ r (by rw [h]; rfl)
  obtain ⟨k, hk⟩ := run_of_cons (F := F67) (x := (D.int .u8) x_) (xs := List.map (D.int .u8) r_) (ap := [.d (.sl (mY (x_ :: r_)))]) (bx0 := fun _ => none) rfl (by kernel_rfl) ⟨p, ⟨hne, hf⟩, hr⟩
  exact lim_run (k := k) rfl hk
 | nil =>
  obtain rfl : r = [] := by unfold grow at h; split at h <;> first | (cases h; rfl) | cases h
  obtain ⟨p, ⟨hne, hf⟩, hr⟩ := slices_Clone_Lbyte_ok_nil [] (by rfl)
  obtain ⟨q, ⟨hne', hf'⟩, hr'⟩ := slices_Clone_Lbyte_ok_empt [] (by rw [h]; rfl)
  obtain ⟨k, hk⟩ := run_of_empty (F := F67) (n := 1) rfl rfl ⟨p, ⟨hne, hf⟩, hr⟩ ⟨q, ⟨hne', hf'⟩, hr'⟩
  exact lim_run (k := k) rfl hk
def bits_Paras_Q (n_ : Int) (r : Int) (p : Out × St) : Prop := (∀ i, p.1 ≠ .exit i) ∧ finF F75 [.i n_] p.2 = some (.i r, [.i n_])
theorem bits_Paras_ok (n_ : Int) (r : Int) (h : bits_Paras n_ = some r) : Runs L F75.body ⟨tmOf [.i n_] 0, updW (fun _ => none) []⟩ (bits_Paras_Q n_ r) := by
 unfold bits_Paras at h
 refine Sq <| Ro <| Rc 1 [vi 0] <| Rk <| Sq <| Sq <| Ro <| Rc 2 [vi n_, vb (decide (n_ < 1))] <| Rk ?_
 cases hb_1 : ((decide (n_ < 1)) : Bool) with
 | true =>
  replace h := ite_t hb_1 h
  refine Ct <| Sq <| Ro <| Rc 1 [vi 0] <| Rk <| Runs.ret <| kS_ret ?_
  cases h
  exact Fq
 | false =>
  replace h := ite_f hb_1 h
  refine Cf <| Runs.skip <| kS_nrm <| Sq <| Ro <| Rc 5 [vi n_, vi (IntKind.wrap .i64 (n_ - 1)), vi (IntKind.wrap .i64 (Int.tdiv (IntKind.wrap .i64 (n_ - 1)) 16)), vi (IntKind.wrap .i64 ((IntKind.wrap .i64 (Int.tdiv (IntKind.wrap .i64 (n_ - 1)) 16)) + 1)), vi (IntKind.wrap .i64 ((IntKind.wrap .i64 (Int.tdiv (IntKind.wrap .i64 (n_ - 1)) 16)) + 1))] <| Rk <| Runs.ret ?_
  cases h
  exact Fq
theorem bits_Paras_L (n_ : Int) (r : Int) (h : bits_Paras n_ = some r) : L 75 [.i n_] = some (.i r, [.i n_]) := by
 obtain ⟨p, ⟨hne, hf⟩, hr⟩ := bits_Paras_ok n_ r h
 obtain ⟨k, hk⟩ := run_of (F := F75) (args := [.i n_]) (ap := [.i n_]) (bx0 := updW (fun _ => none) []) rfl rfl (by kernel_rfl) ⟨p, ⟨hne, hf⟩, hr⟩
 exact lim_run (k := k) rfl hk
def mz_May_h14 (x1 : Image) (t31 : (List Int)) (t32 : Int) (t33 : Int) : St := ⟨tab [(1, .ptr [1] 0 0), (31, .d (.sl (List.map (D.int .i64) t31))), (32, .i t32), (33, .i t33)], tabB [([1], some (.cells [.d (.sl (mY x1.Bytes)), .d (.sl (List.map (D.int .i64) x1.Relocs)), .w x1.CS, .w x1.IP, .w x1.SS, .w x1.SP, .i x1.Min] 0))]⟩
def mz_May_h33  : St := ⟨tab [], tabB []⟩
def mz_May_Q (x_ : Image) (r : Bool) (p : Out × St) : Prop := (∀ i, p.1 ≠ .exit i) ∧ finF F34 [.d (Image.d x_)] p.2 = some (.b r, [.d (Image.d x_)])
def mz_May_P14 (x_ : Image) (x1 : Image) (t31 : (List Int)) (t32 : Int) (e : (Bool ⊕ Unit)) (p : Out × St) : Prop := match e with
 | .inl x => p.1 = .ret ∧ finF F34 [.d (Image.d x_)] p.2 = some (.b x, [.d (Image.d x_)])
 | .inr x => p.1 = .exit 0 ∧ ∃ g : Unit, Canon [] [] [] p.2 (mz_May_h33)
theorem mz_May_l14_ok (x_ : Image) (x1 : Image) (t31 : (List Int)) (t32 : Int) (t33 : Int) (r : (Lp Int (Bool ⊕ Unit))) (h : mz_May_l14 x1 t31 t32 t33 = some r) : Runs L F34l14 (mz_May_h14 x1 t31 t32 t33) (LQ [] [1, 31, 32, 33] [[1]] (fun (x : Int) (g : Unit) => mz_May_h14 x1 t31 t32 x) (mz_May_P14 x_ x1 t31 t32) r) := by
 unfold mz_May_l14 at h
 refine Sq <| Ro <| Rc 1 [vb (decide (t33 < t32))] <| Rk <| Sq ?_
 cases hb_5 : ((decide (t33 < t32)) : Bool) with
 | true =>
  replace h := ite_t hb_5 h
  refine Ct <| Runs.skip <| kS_nrm <| Sq <| Runs.block <| Sq <| Ro <| Rc 1 [vi t33] ?_
  obtain ⟨z_1, hz_1, h⟩ := bind_s h
  refine Rt (some 36) (.iaddrS 1) [] none [.d (.sl (List.map (D.int .i64) t31)), .i t33] (.elt (.int .i64 z_1) 0) [] (cut_at hz_1 (fun _ => rfl)) <| Rc 3 [vi z_1, vi t33, vi z_1] <| Rk <| Sq <| Ro <| Rc 3 [vi z_1, vb (decide (z_1 < 0)), vb (decide (z_1 < 0))] ?_
  cases hb_6 : ((decide (z_1 < 0)) : Bool) with
  | true =>
   replace h := ite_t hb_6 h
   refine Rc 22 [vn, vn, vn, vn, vn, vn, vb true, vb true, vn, vn, vn, vn, vn, vn, vn, vn, vn, vn, vn, vn, vn, vb true] <| Rk <| Ct <| Sq <| Ro <| Rc 1 [vb false] <| Rk <| Runs.ret <| kB_ret <| kS_ret ?_
   obtain rfl := sj h
   exact ⟨nofun, rfl, (by kernel_rfl)⟩
  | false =>
   replace h := ite_f hb_6 h
   refine Rc 3 [vi z_1, vp [1] 0 0, ⟨.d (.sl (mY x1.Bytes)), []⟩] <| Rt (some 44) .lenL [] none [.d (.sl (mY x1.Bytes))] (.i (x1.Bytes.length : Int)) [] (cut_len _) <| Rc 4 [vi (IntKind.wrap .i64 ((x1.Bytes.length : Int) - 2)), vb (decide (z_1 > (IntKind.wrap .i64 ((x1.Bytes.length : Int) - 2)))), vb (decide (z_1 > (IntKind.wrap .i64 ((x1.Bytes.length : Int) - 2)))), vb (decide (z_1 > (IntKind.wrap .i64 ((x1.Bytes.length : Int) - 2))))] ?_
   cases hb_7 : ((decide (z_1 > (IntKind.wrap .i64 ((x1.Bytes.length : Int) - 2)))) : Bool) with
   | true =>
    replace h := ite_t hb_7 h
    refine Rc 14 [vn, vn, vn, vn, vn, vn, vn, vn, vn, vn, vn, vn, vn, vb true] <| Rk <| Ct <| Sq <| Ro <| Rc 1 [vb false] <| Rk <| Runs.ret <| kB_ret <| kS_ret ?_
    obtain rfl := sj h
    exact ⟨nofun, rfl, (by kernel_rfl)⟩
   | false =>
    replace h := ite_f hb_7 h
    refine Rc 3 [vi t33, vb (decide (t33 > 0)), vb (decide (t33 > 0))] ?_
    cases hb_8 : ((decide (t33 > 0)) : Bool) with
    | true =>
     replace h := ite_t hb_8 h
     refine Rc 5 [vi z_1, vp [1] 0 1, ⟨.d (.sl (List.map (D.int .i64) x1.Relocs)), []⟩, vi t33, vi (IntKind.wrap .i64 (t33 - 1))] ?_
     obtain ⟨z_2, hz_2, h⟩ := bind_s h
     refine Rt (some 57) (.iaddrS 1) [] none [.d (.sl (List.map (D.int .i64) x1.Relocs)), .i (IntKind.wrap .i64 (t33 - 1))] (.elt (.int .i64 z_2) 0) [] (cut_at hz_2 (fun _ => rfl)) <| Rc 5 [vi z_2, vi (IntKind.wrap .i64 (z_1 - z_2)), vb (decide ((IntKind.wrap .i64 (z_1 - z_2)) < 2)), vb (decide ((IntKind.wrap .i64 (z_1 - z_2)) < 2)), vb (decide ((IntKind.wrap .i64 (z_1 - z_2)) < 2))] <| Rk ?_
     cases hb_9 : ((decide ((IntKind.wrap .i64 (z_1 - z_2)) < 2)) : Bool) with
     | true =>
      replace h := ite_t hb_9 h
      refine Ct <| Sq <| Ro <| Rc 1 [vb false] <| Rk <| Runs.ret <| kB_ret <| kS_ret ?_
      obtain rfl := sj h
      exact ⟨nofun, rfl, (by kernel_rfl)⟩
     | false =>
      replace h := ite_f hb_9 h
      refine Cf <| Runs.skip <| kB_nrm <| kS_nrm <| Ro <| Rc 2 [vi (IntKind.wrap .i64 (t33 + 1)), vi (IntKind.wrap .i64 (t33 + 1))] <| Rd ?_
      obtain rfl := sj h
      exact ⟨rfl, (), Cz⟩
    | false =>
     replace h := ite_f hb_8 h
     refine Rc 11 [vn, vn, vn, vn, vn, vn, vn, vn, vn, vb false, vb false] <| Rk <| Cf <| Runs.skip <| kB_nrm <| kS_nrm <| Ro <| Rc 2 [vi (IntKind.wrap .i64 (t33 + 1)), vi (IntKind.wrap .i64 (t33 + 1))] <| Rd ?_
     obtain rfl := sj h
     exact ⟨rfl, (), Cz⟩
 | false =>
  replace h := ite_f hb_5 h
  refine Cf <| Runs.exit <| kS_exit ?_
  obtain rfl := sj h
  exact ⟨nofun, rfl, (), Cz⟩
theorem mz_May_ok (x_ : Image) (r : Bool) (h : mz_May x_ = some r) : Runs L F34.body ⟨tmOf [.d (Image.d x_)] 0, updW (fun _ => none) []⟩ (mz_May_Q x_ r) := by
 unfold mz_May at h
 refine Sq <| Ro <| Rc 2 [⟨.ptr [1] 0 0, [([1], some (.cells [.d (.sl (mY x_.Bytes)), .d (.sl (List.map (D.int .i64) x_.Relocs)), .w x_.CS, .w x_.IP, .w x_.SS, .w x_.SP, .i x_.Min] 0))]⟩, vb false] <| Rk <| Sq <| Sq <| Ro <| Rc 2 [vp [1] 0 0, ⟨.d (.sl (mY x_.Bytes)), []⟩] <| Rt (some 7) .lenL [] none [.d (.sl (mY x_.Bytes))] (.i (x_.Bytes.length : Int)) [] (cut_len _) <| Rc 2 [vb (decide ((x_.Bytes.length : Int) > 655360)), vb (decide ((x_.Bytes.length : Int) > 655360))] ?_
 cases hb_1 : ((decide ((x_.Bytes.length : Int) > 655360)) : Bool) with
 | true =>
  replace h := ite_t hb_1 h
  refine Rc 20 [vn, vn, vn, vb true, vb true, vn, vn, vn, vn, vn, vn, vn, vn, vb true, vb true, vn, vn, vn, vn, vb true] <| Rk <| Ct <| Sq <| Ro <| Rc 1 [vb false] <| Rk <| Runs.ret <| kS_ret ?_
  cases h
  exact Fq
 | false =>
  replace h := ite_f hb_1 h
  refine Rc 5 [vp [1] 0 6, vi x_.Min, vb (decide (x_.Min < 0)), vb (decide (x_.Min < 0)), vb (decide (x_.Min < 0))] ?_
  cases hb_2 : ((decide (x_.Min < 0)) : Bool) with
  | true =>
   replace h := ite_t hb_2 h
   refine Rc 15 [vn, vn, vn, vn, vn, vn, vn, vn, vb true, vb true, vn, vn, vn, vn, vb true] <| Rk <| Ct <| Sq <| Ro <| Rc 1 [vb false] <| Rk <| Runs.ret <| kS_ret ?_
   cases h
   exact Fq
  | false =>
   replace h := ite_f hb_2 h
   refine Rc 4 [vp [1] 0 6, vi x_.Min, vp [1] 0 0, ⟨.d (.sl (mY x_.Bytes)), []⟩] <| Rt (some 19) .lenL [] none [.d (.sl (mY x_.Bytes))] (.i (x_.Bytes.length : Int)) [] (cut_len _) ?_
   obtain ⟨r_1, hr_1, h⟩ := bind_s h
   have hc_1 := bits_Paras_L (x_.Bytes.length : Int) r_1 hr_1
   refine Rt (some 20) (.callf 75) [] (some []) [.i (x_.Bytes.length : Int)] (.i r_1) [] (cc hc_1) <| Rc 4 [vi (IntKind.wrap .i64 (40960 - r_1)), vb (decide (x_.Min > (IntKind.wrap .i64 (40960 - r_1)))), vb (decide (x_.Min > (IntKind.wrap .i64 (40960 - r_1)))), vb (decide (x_.Min > (IntKind.wrap .i64 (40960 - r_1))))] ?_
   cases hb_3 : ((decide (x_.Min > (IntKind.wrap .i64 (40960 - r_1)))) : Bool) with
   | true =>
    replace h := ite_t hb_3 h
    refine Rc 5 [vn, vn, vn, vn, vb true] <| Rk <| Ct <| Sq <| Ro <| Rc 1 [vb false] <| Rk <| Runs.ret <| kS_ret ?_
    cases h
    exact Fq
   | false =>
    replace h := ite_f hb_3 h
    refine Rc 2 [vp [1] 0 1, ⟨.d (.sl (List.map (D.int .i64) x_.Relocs)), []⟩] <| Rt (some 27) .lenL [] none [.d (.sl (List.map (D.int .i64) x_.Relocs))] (.i (x_.Relocs.length : Int)) [] (cut_len _) <| Rc 2 [vb (decide ((x_.Relocs.length : Int) > 4000)), vb (decide ((x_.Relocs.length : Int) > 4000))] <| Rk ?_
    cases hb_4 : ((decide ((x_.Relocs.length : Int) > 4000)) : Bool) with
    | true =>
     replace h := ite_t hb_4 h
     refine Ct <| Sq <| Ro <| Rc 1 [vb false] <| Rk <| Runs.ret <| kS_ret ?_
     cases h
     exact Fq
    | false =>
     replace h := ite_f hb_4 h
     refine Cf <| Runs.skip <| kS_nrm <| Sq <| Sq <| Ro <| Rc 2 [vp [1] 0 1, ⟨.d (.sl (List.map (D.int .i64) x_.Relocs)), []⟩] <| Rt (some 32) .lenL [] none [.d (.sl (List.map (D.int .i64) x_.Relocs))] (.i (x_.Relocs.length : Int)) [] (cut_len _) <| Rc 1 [vi 0] <| Rk <| Runs.block ?_
     obtain ⟨e_1, he_1, h⟩ := bind_s h
     refine Runs.loop (fun x : Int => mz_May_l14 x_ x_.Relocs (x_.Relocs.length : Int) x) (fun (x : Int) (g : Unit) => mz_May_h14 x_ x_.Relocs (x_.Relocs.length : Int) x) (mz_May_P14 x_ x_ x_.Relocs (x_.Relocs.length : Int)) (fun x g r hr => mz_May_l14_ok x_ x_ x_.Relocs (x_.Relocs.length : Int) x  r hr) () he_1 Cz ?_
     rintro ⟨o, s⟩ hp
     cases e_1 with
     | inl e_2 =>
      obtain ⟨ho, hf⟩ := hp
      have ho' : o = .ret := ho
      subst ho'
      refine kB_ret <| kS_ret ?_
      obtain rfl := sj h
      exact ⟨Out.ret_ne, hf⟩
     | inr e_3 =>
      obtain ⟨ho, g_1, hk_1⟩ := hp
      have ho' : o = .exit 0 := ho
      subst ho'
      refine kB_hit <| kS_nrm <| Runs.canon _ hk_1 <| Sq <| Ro <| Rc 1 [vb true] <| Rk <| Runs.ret ?_
      cases h
      exact Fq
theorem mz_May_L (x_ : Image) (r : Bool) (h : mz_May x_ = some r) : L 34 [.d (Image.d x_)] = some (.b r, [.d (Image.d x_)]) := by
 obtain ⟨p, ⟨hne, hf⟩, hr⟩ := mz_May_ok x_ r h
 obtain ⟨k, hk⟩ := run_of (F := F34) (args := [.d (Image.d x_)]) (ap := [.d (Image.d x_)]) (bx0 := updW (fun _ => none) []) rfl rfl (by kernel_rfl) ⟨p, ⟨hne, hf⟩, hr⟩
 exact lim_run (k := k) rfl hk
def mz_Read_Q (b_ : (List Int)) (r : (Image × Int)) (p : Out × St) : Prop := (∀ i, p.1 ≠ .exit i) ∧ finF F32 [.d (.sl (mY b_))] p.2 = some (.tup [.d (Image.d r.1), .i r.2], [.d (.sl (mY b_))])
theorem mz_Read_ok (b_ : (List Int)) (r : (Image × Int)) (h : mz_Read b_ = some r) : Runs L F32.body ⟨tmOf [.d (.sl (mY b_))] 0, updW (fun _ => none) []⟩ (mz_Read_Q b_ r) := by
 unfold mz_Read at h
 refine Sq <| Ro <| Rc 2 [⟨.ptr [2] 0 0, [([2], some (.cells [.nils, .nils, .w 0, .w 0, .w 0, .w 0, .i 0] 0))]⟩, vi 0] <| Rk <| Sq <| Ro <| Rc 1 [⟨.d (.sl (mY b_)), []⟩] ?_
 obtain ⟨r_1, hr_1, h⟩ := bind_s h
 have hc_1 := mz_first_L b_ r_1 hr_1
 refine Rt (some 13) (.callf 72) [] none [.d (.sl (mY b_))] (.tup [.d (Header.d r_1.1), .i r_1.2]) [] (cc hc_1) <| Rc 6 [⟨.tup [.d (Header.d r_1.1), .i r_1.2], []⟩, ⟨.d (Header.d r_1.1), []⟩, vi r_1.2, ⟨.ptr [4] 0 0, [([4], some (.cells [.w 0, .w 0, .w 0, .w 0, .w 0, .w 0, .w 0, .w 0, .w 0, .w 0] 0))]⟩, ⟨.tup [], [([4], some (.cells [.w r_1.1.last, .w r_1.1.pages, .w r_1.1.relocs, .w r_1.1.paras, .w r_1.1.min, .w r_1.1.ss, .w r_1.1.sp, .w r_1.1.ip, .w r_1.1.cs_, .w r_1.1.table] 0))]⟩, vi r_1.2] <| Rk <| Sq <| Sq <| Ro <| Rc 2 [vi r_1.2, vb (r_1.2 != 0)] <| Rk ?_
 cases hb_1 : ((r_1.2 != 0) : Bool) with
 | true =>
  replace h := ite_t hb_1 h
  refine Ct <| Sq <| Ro <| Rc 4 [⟨.mix [.nils, .nils, .w 0, .w 0, .w 0, .w 0, .i 0], []⟩, vi r_1.2, ⟨.tup [], [([2], some (.cells [.nils, .nils, .w 0, .w 0, .w 0, .w 0, .i 0] 0))]⟩, vi r_1.2] <| Rk <| Sq <| Runs.gcons (frzB_nil (ver := 0) (cs := [.nils, .nils, .w 0, .w 0, .w 0, .w 0, .i 0]) (cs' := [.d (.sl (mY ([] : List Int))), .nils, .w 0, .w 0, .w 0, .w 0, .i 0]) (D.int .u8) (by kernel_rfl) (by kernel_rfl) (by kernel_rfl)) <| Runs.gcons (frzB_nil (ver := 0) (cs := [.d (.sl (mY ([] : List Int))), .nils, .w 0, .w 0, .w 0, .w 0, .i 0]) (cs' := [.d (.sl (mY ([] : List Int))), .d (.sl (List.map (D.int .i64) ([] : List Int))), .w 0, .w 0, .w 0, .w 0, .i 0]) (D.int .i64) (by kernel_rfl) (by kernel_rfl) (by kernel_rfl)) <| Runs.gnil <| kS_nrm <| Runs.ret <| kS_ret ?_
  cases h
  exact Fq
 | false =>
  replace h := ite_f hb_1 h
  refine Cf <| Runs.skip <| kS_nrm <| Sq <| Ro <| Rc 1 [⟨.d (Header.d r_1.1), []⟩] ?_
  obtain ⟨r_2, hr_2, h⟩ := bind_s h
  have hc_2 := mz_size_L r_1.1 r_2 hr_2
  refine Rt (some 22) (.callf 73) [] none [.d (Header.d r_1.1)] (.tup [.i r_2.1, .b r_2.2]) [] (cc hc_2) <| Rc 5 [⟨.tup [.i r_2.1, .b r_2.2], []⟩, vi r_2.1, vb r_2.2, vi r_2.1, vb r_2.2] <| Rk <| Sq <| Ro <| Rc 5 [vp [4] 0 3, vw r_1.1.paras, vi (IntKind.wrap .i64 r_1.1.paras), vi (IntKind.wrap .i64 ((IntKind.wrap .i64 r_1.1.paras) * 16)), vi (IntKind.wrap .i64 ((IntKind.wrap .i64 r_1.1.paras) * 16))] <| Rk <| Sq <| Runs.block <| Sq <| Ro <| Rc 3 [vb r_2.2, vb (!r_2.2), vb (!r_2.2)] ?_
  cases hb_2 : ((!r_2.2) : Bool) with
  | true =>
   replace h := ite_t hb_2 h
   refine Rc 4 [vn, vn, vb true, vb true] <| Rk <| Ct <| Sq <| Ro <| Rc 3 [⟨.mix [.nils, .nils, .w 0, .w 0, .w 0, .w 0, .i 0], []⟩, ⟨.tup [], [([2], some (.cells [.nils, .nils, .w 0, .w 0, .w 0, .w 0, .i 0] 0))]⟩, vi 3] <| Rk <| Sq <| Runs.gcons (frzB_nil (ver := 0) (cs := [.nils, .nils, .w 0, .w 0, .w 0, .w 0, .i 0]) (cs' := [.d (.sl (mY ([] : List Int))), .nils, .w 0, .w 0, .w 0, .w 0, .i 0]) (D.int .u8) (by kernel_rfl) (by kernel_rfl) (by kernel_rfl)) <| Runs.gcons (frzB_nil (ver := 0) (cs := [.d (.sl (mY ([] : List Int))), .nils, .w 0, .w 0, .w 0, .w 0, .i 0]) (cs' := [.d (.sl (mY ([] : List Int))), .d (.sl (List.map (D.int .i64) ([] : List Int))), .w 0, .w 0, .w 0, .w 0, .i 0]) (D.int .i64) (by kernel_rfl) (by kernel_rfl) (by kernel_rfl)) <| Runs.gnil <| kS_nrm <| Runs.ret <| kB_ret <| kS_ret ?_
   cases h
   exact Fq
  | false =>
   replace h := ite_f hb_2 h
   refine Rc 4 [vi (IntKind.wrap .i64 ((IntKind.wrap .i64 r_1.1.paras) * 16)), vb (decide ((IntKind.wrap .i64 ((IntKind.wrap .i64 r_1.1.paras) * 16)) < 28)), vb (decide ((IntKind.wrap .i64 ((IntKind.wrap .i64 r_1.1.paras) * 16)) < 28)), vb (decide ((IntKind.wrap .i64 ((IntKind.wrap .i64 r_1.1.paras) * 16)) < 28))] <| Rk ?_
   cases hb_3 : ((decide ((IntKind.wrap .i64 ((IntKind.wrap .i64 r_1.1.paras) * 16)) < 28)) : Bool) with
   | true =>
    replace h := ite_t hb_3 h
    refine Ct <| Sq <| Ro <| Rc 3 [⟨.mix [.nils, .nils, .w 0, .w 0, .w 0, .w 0, .i 0], []⟩, ⟨.tup [], [([2], some (.cells [.nils, .nils, .w 0, .w 0, .w 0, .w 0, .i 0] 0))]⟩, vi 3] <| Rk <| Sq <| Runs.gcons (frzB_nil (ver := 0) (cs := [.nils, .nils, .w 0, .w 0, .w 0, .w 0, .i 0]) (cs' := [.d (.sl (mY ([] : List Int))), .nils, .w 0, .w 0, .w 0, .w 0, .i 0]) (D.int .u8) (by kernel_rfl) (by kernel_rfl) (by kernel_rfl)) <| Runs.gcons (frzB_nil (ver := 0) (cs := [.d (.sl (mY ([] : List Int))), .nils, .w 0, .w 0, .w 0, .w 0, .i 0]) (cs' := [.d (.sl (mY ([] : List Int))), .d (.sl (List.map (D.int .i64) ([] : List Int))), .w 0, .w 0, .w 0, .w 0, .i 0]) (D.int .i64) (by kernel_rfl) (by kernel_rfl) (by kernel_rfl)) <| Runs.gnil <| kS_nrm <| Runs.ret <| kB_ret <| kS_ret ?_
    cases h
    exact Fq
   | false =>
    replace h := ite_f hb_3 h
    refine Cf <| Sq <| Ro <| Rc 1 [⟨.d (.sl (mY b_)), []⟩] <| Rt (some 39) .lenL [] none [.d (.sl (mY b_))] (.i (b_.length : Int)) [] (cut_len _) <| Rc 3 [vi r_2.1, vb (decide ((b_.length : Int) < r_2.1)), vb (decide ((b_.length : Int) < r_2.1))] <| Rk ?_
    cases hb_4 : ((decide ((b_.length : Int) < r_2.1)) : Bool) with
    | true =>
     replace h := ite_t hb_4 h
     refine Ct <| Sq <| Ro <| Rc 3 [⟨.mix [.nils, .nils, .w 0, .w 0, .w 0, .w 0, .i 0], []⟩, ⟨.tup [], [([2], some (.cells [.nils, .nils, .w 0, .w 0, .w 0, .w 0, .i 0] 0))]⟩, vi 2] <| Rk <| Sq <| Runs.gcons (frzB_nil (ver := 0) (cs := [.nils, .nils, .w 0, .w 0, .w 0, .w 0, .i 0]) (cs' := [.d (.sl (mY ([] : List Int))), .nils, .w 0, .w 0, .w 0, .w 0, .i 0]) (D.int .u8) (by kernel_rfl) (by kernel_rfl) (by kernel_rfl)) <| Runs.gcons (frzB_nil (ver := 0) (cs := [.d (.sl (mY ([] : List Int))), .nils, .w 0, .w 0, .w 0, .w 0, .i 0]) (cs' := [.d (.sl (mY ([] : List Int))), .d (.sl (List.map (D.int .i64) ([] : List Int))), .w 0, .w 0, .w 0, .w 0, .i 0]) (D.int .i64) (by kernel_rfl) (by kernel_rfl) (by kernel_rfl)) <| Runs.gnil <| kS_nrm <| Runs.ret <| kB_ret <| kS_ret ?_
     cases h
     exact Fq
    | false =>
     replace h := ite_f hb_4 h
     refine Cf <| Runs.skip <| kB_nrm <| kS_nrm <| Sq <| Ro <| Rc 5 [⟨.d (.sl (mY b_)), []⟩, ⟨.d (Header.d r_1.1), []⟩, vi r_2.1, vi (IntKind.wrap .i64 ((IntKind.wrap .i64 r_1.1.paras) * 16)), vi (IntKind.wrap .i64 (r_2.1 - (IntKind.wrap .i64 ((IntKind.wrap .i64 r_1.1.paras) * 16))))] ?_
     obtain ⟨r_3, hr_3, h⟩ := bind_s h
     have hc_3 := mz_sites_L b_ r_1.1 (IntKind.wrap .i64 (r_2.1 - (IntKind.wrap .i64 ((IntKind.wrap .i64 r_1.1.paras) * 16)))) r_3 hr_3
     refine Rt (some 49) (.callf 74) [] none [.d (.sl (mY b_)), .d (Header.d r_1.1), .i (IntKind.wrap .i64 (r_2.1 - (IntKind.wrap .i64 ((IntKind.wrap .i64 r_1.1.paras) * 16))))] (.tup [.d (.sl (List.map (D.int .i64) r_3.1)), .i r_3.2]) [] (cc hc_3) <| Rc 5 [⟨.tup [.d (.sl (List.map (D.int .i64) r_3.1)), .i r_3.2], []⟩, ⟨.d (.sl (List.map (D.int .i64) r_3.1)), []⟩, vi r_3.2, ⟨.d (.sl (List.map (D.int .i64) r_3.1)), []⟩, vi r_3.2] <| Rk <| Sq <| Sq <| Ro <| Rc 2 [vi r_3.2, vb (r_3.2 != 0)] <| Rk ?_
     cases hb_5 : ((r_3.2 != 0) : Bool) with
     | true =>
      replace h := ite_t hb_5 h
      refine Ct <| Sq <| Ro <| Rc 4 [⟨.mix [.nils, .nils, .w 0, .w 0, .w 0, .w 0, .i 0], []⟩, vi r_3.2, ⟨.tup [], [([2], some (.cells [.nils, .nils, .w 0, .w 0, .w 0, .w 0, .i 0] 0))]⟩, vi r_3.2] <| Rk <| Sq <| Runs.gcons (frzB_nil (ver := 0) (cs := [.nils, .nils, .w 0, .w 0, .w 0, .w 0, .i 0]) (cs' := [.d (.sl (mY ([] : List Int))), .nils, .w 0, .w 0, .w 0, .w 0, .i 0]) (D.int .u8) (by kernel_rfl) (by kernel_rfl) (by kernel_rfl)) <| Runs.gcons (frzB_nil (ver := 0) (cs := [.d (.sl (mY ([] : List Int))), .nils, .w 0, .w 0, .w 0, .w 0, .i 0]) (cs' := [.d (.sl (mY ([] : List Int))), .d (.sl (List.map (D.int .i64) ([] : List Int))), .w 0, .w 0, .w 0, .w 0, .i 0]) (D.int .i64) (by kernel_rfl) (by kernel_rfl) (by kernel_rfl)) <| Runs.gnil <| kS_nrm <| Runs.ret <| kS_ret ?_
      cases h
      exact Fq
     | false =>
      replace h := ite_f hb_5 h
      refine Cf <| Runs.skip <| kS_nrm <| Sq <| Ro <| Rc 3 [⟨.d (.sl (mY b_)), []⟩, vi (IntKind.wrap .i64 ((IntKind.wrap .i64 r_1.1.paras) * 16)), vi r_2.1] ?_
      obtain ⟨z_1, hz_1, h⟩ := bind_s h
      refine Rt (some 59) (.subsl 1 true true false) [] none [.d (.sl (mY b_)), .i (IntKind.wrap .i64 ((IntKind.wrap .i64 r_1.1.paras) * 16)), .i r_2.1] (.d (.sl (mY z_1))) [] (cut_slTT hz_1 (fun _ => rfl)) ?_
      obtain ⟨r_4, hr_4, h⟩ := bind_s h
      have hc_4 := slices_Clone_Lbyte_L z_1 r_4 hr_4
      refine Rt (some 60) (.callf 67) [[10]] (some []) [.d (.sl (mY z_1))] (.ref [60] 0 0 (mY r_4).length 1) [([60], some (.arr (mY r_4) 0 false))] (cut_call (call_of (ws := []) (us := []) (by kernel_rfl) (gives_cons (ws := []) (give_same (by kernel_rfl)) gives_nil) hc_4 (by kernel_rfl) (by kernel_rfl))) <| Rc 15 [⟨.d (.sl (List.map (D.int .i64) r_3.1)), []⟩, vp [4] 0 8, vw r_1.1.cs_, vp [4] 0 7, vw r_1.1.ip, vp [4] 0 5, vw r_1.1.ss, vp [4] 0 6, vw r_1.1.sp, vp [4] 0 4, vw r_1.1.min, vi (IntKind.wrap .i64 r_1.1.min), ⟨.mix [.ref [60] 0 0 (mY r_4).length 1, .d (.sl (List.map (D.int .i64) r_3.1)), .w r_1.1.cs_, .w r_1.1.ip, .w r_1.1.ss, .w r_1.1.sp, .i (IntKind.wrap .i64 r_1.1.min)], []⟩, ⟨.ptr [10] 0 0, [([10], some (.cells [.nils, .nils, .w 0, .w 0, .w 0, .w 0, .i 0] 0))]⟩, ⟨.tup [], [([10], some (.cells [.ref [60] 0 0 (mY r_4).length 1, .d (.sl (List.map (D.int .i64) r_3.1)), .w r_1.1.cs_, .w r_1.1.ip, .w r_1.1.ss, .w r_1.1.sp, .i (IntKind.wrap .i64 r_1.1.min)] 0))]⟩] <| Rk <| Sq <| Sq <| Ro <| Rc 1 [⟨.mix [.ref [60] 0 0 (mY r_4).length 1, .d (.sl (List.map (D.int .i64) r_3.1)), .w r_1.1.cs_, .w r_1.1.ip, .w r_1.1.ss, .w r_1.1.sp, .i (IntKind.wrap .i64 r_1.1.min)], []⟩] ?_
      obtain ⟨r_5, hr_5, h⟩ := bind_s h
      have hc_5 := mz_May_L ({ Bytes := r_4, Relocs := r_3.1, CS := r_1.1.cs_, IP := r_1.1.ip, SS := r_1.1.ss, SP := r_1.1.sp, Min := (IntKind.wrap .i64 r_1.1.min) } : Image) r_5 hr_5
      refine Rt (some 75) (.callf 34) [] none [.mix [.ref [60] 0 0 (mY r_4).length 1, .d (.sl (List.map (D.int .i64) r_3.1)), .w r_1.1.cs_, .w r_1.1.ip, .w r_1.1.ss, .w r_1.1.sp, .i (IntKind.wrap .i64 r_1.1.min)]] (.b r_5) [([60], some (.arr (mY r_4) 0 true))] (cut_call (call_of (ws := [([60], some (.arr (mY r_4) 0 true))]) (us := [([60], some (.arr (mY r_4) 0 true))]) (by kernel_rfl) (gives_cons (ws := [([60], some (.arr (mY r_4) 0 true))]) (give_mix (snaps_r (e := (D.int .u8)) (l := r_4) (fz := false) (by kernel_rfl) (by kernel_rfl) (hl := rfl) (snaps_d (snaps_d (snaps_d (snaps_d (snaps_d (snaps_d snaps_nil)))))))) gives_nil) hc_5 (by kernel_rfl) (by kernel_rfl))) <| Rc 1 [vb (!r_5)] <| Rk ?_
      cases hb_6 : ((!r_5) : Bool) with
      | true =>
       replace h := ite_t hb_6 h
       refine Ct <| Sq <| Ro <| Rc 3 [⟨.mix [.nils, .nils, .w 0, .w 0, .w 0, .w 0, .i 0], []⟩, ⟨.tup [], [([2], some (.cells [.nils, .nils, .w 0, .w 0, .w 0, .w 0, .i 0] 0))]⟩, vi 8] <| Rk <| Sq <| Runs.gcons (frzB_nil (ver := 0) (cs := [.nils, .nils, .w 0, .w 0, .w 0, .w 0, .i 0]) (cs' := [.d (.sl (mY ([] : List Int))), .nils, .w 0, .w 0, .w 0, .w 0, .i 0]) (D.int .u8) (by kernel_rfl) (by kernel_rfl) (by kernel_rfl)) <| Runs.gcons (frzB_nil (ver := 0) (cs := [.d (.sl (mY ([] : List Int))), .nils, .w 0, .w 0, .w 0, .w 0, .i 0]) (cs' := [.d (.sl (mY ([] : List Int))), .d (.sl (List.map (D.int .i64) ([] : List Int))), .w 0, .w 0, .w 0, .w 0, .i 0]) (D.int .i64) (by kernel_rfl) (by kernel_rfl) (by kernel_rfl)) <| Runs.gnil <| kS_nrm <| Runs.ret <| kS_ret ?_
       cases h
       exact Fq
      | false =>
       replace h := ite_f hb_6 h
       refine Cf <| Runs.skip <| kS_nrm <| Sq <| Ro <| Rc 3 [⟨.mix [.ref [60] 0 0 (mY r_4).length 1, .d (.sl (List.map (D.int .i64) r_3.1)), .w r_1.1.cs_, .w r_1.1.ip, .w r_1.1.ss, .w r_1.1.sp, .i (IntKind.wrap .i64 r_1.1.min)], []⟩, ⟨.tup [], [([2], some (.cells [.ref [60] 0 0 (mY r_4).length 1, .d (.sl (List.map (D.int .i64) r_3.1)), .w r_1.1.cs_, .w r_1.1.ip, .w r_1.1.ss, .w r_1.1.sp, .i (IntKind.wrap .i64 r_1.1.min)] 0))]⟩, vi 0] <| Rk <| Sq <| Runs.gcons (frzB_ref (e := (D.int .u8)) (l := r_4) (id := [2]) (id' := [60]) (v := 0) (n := 1) (fz := true) (ver := 0) (cs := [.ref [60] 0 0 (mY r_4).length 1, .d (.sl (List.map (D.int .i64) r_3.1)), .w r_1.1.cs_, .w r_1.1.ip, .w r_1.1.ss, .w r_1.1.sp, .i (IntKind.wrap .i64 r_1.1.min)]) (cs' := [.d (.sl (mY r_4)), .d (.sl (List.map (D.int .i64) r_3.1)), .w r_1.1.cs_, .w r_1.1.ip, .w r_1.1.ss, .w r_1.1.sp, .i (IntKind.wrap .i64 r_1.1.min)]) (by kernel_rfl) (by kernel_rfl) (by kernel_rfl) (by decide) (by kernel_rfl) rfl) <| Runs.gnil <| kS_nrm <| Runs.ret ?_
       cases h
       exact Fq
theorem mz_Read_L (b_ : (List Int)) (r : (Image × Int)) (h : mz_Read b_ = some r) : L 32 [.d (.sl (mY b_))] = some (.tup [.d (Image.d r.1), .i r.2], [.d (.sl (mY b_))]) := by
 obtain ⟨p, ⟨hne, hf⟩, hr⟩ := mz_Read_ok b_ r h
 obtain ⟨k, hk⟩ := run_of (F := F32) (args := [.d (.sl (mY b_))]) (ap := [.d (.sl (mY b_))]) (bx0 := updW (fun _ => none) []) rfl rfl (by kernel_rfl) ⟨p, ⟨hne, hf⟩, hr⟩
 exact lim_run (k := k) rfl hk
def bits_Up_Q (n_ : Int) (step_ : Int) (r : Int) (p : Out × St) : Prop := (∀ i, p.1 ≠ .exit i) ∧ finF F104 [.i n_, .i step_] p.2 = some (.i r, [.i n_, .i step_])
theorem bits_Up_ok (n_ : Int) (step_ : Int) (r : Int) (h : bits_Up n_ step_ = some r) : Runs L F104.body ⟨tmOf [.i n_, .i step_] 0, updW (fun _ => none) []⟩ (bits_Up_Q n_ step_ r) := by
 unfold bits_Up at h
 refine Sq <| Ro <| Rc 1 [vi 0] <| Rk <| Sq <| Sq <| Ro <| Rc 3 [vi step_, vb (decide (step_ < 1)), vb (decide (step_ < 1))] ?_
 cases hb_1 : ((decide (step_ < 1)) : Bool) with
 | true =>
  replace h := ite_t hb_1 h
  refine Rc 10 [vn, vn, vb true, vb true, vn, vn, vn, vn, vn, vb true] <| Rk <| Ct <| Ro <| Rc 1 [vi 1] <| Rk <| Sq <| Ro <| Rc 4 [vi n_, vi (mxI n_ 0), vi (mnI (mxI n_ 0) 16777216), vi (mnI (mxI n_ 0) 16777216)] <| Rk <| Sq <| Ro <| Rc 8 [vi (mnI (mxI n_ 0) 16777216), vi 1, vi (IntKind.wrap .i64 ((mnI (mxI n_ 0) 16777216) + 1)), vi (IntKind.wrap .i64 ((IntKind.wrap .i64 ((mnI (mxI n_ 0) 16777216) + 1)) - 1)), vi 1, vi (IntKind.wrap .i64 (1 - 1)), vi (bitsOp .andNot .i64 (IntKind.wrap .i64 ((IntKind.wrap .i64 ((mnI (mxI n_ 0) 16777216) + 1)) - 1)) (IntKind.wrap .i64 (1 - 1))), vi (bitsOp .andNot .i64 (IntKind.wrap .i64 ((IntKind.wrap .i64 ((mnI (mxI n_ 0) 16777216) + 1)) - 1)) (IntKind.wrap .i64 (1 - 1)))] <| Rk <| Runs.ret ?_
  cases h
  exact Fq
 | false =>
  replace h := ite_f hb_1 h
  refine Rc 4 [vi step_, vb (decide (step_ > 4096)), vb (decide (step_ > 4096)), vb (decide (step_ > 4096))] ?_
  cases hb_2 : ((decide (step_ > 4096)) : Bool) with
  | true =>
   replace h := ite_t hb_2 h
   refine Rc 6 [vn, vn, vn, vn, vn, vb true] <| Rk <| Ct <| Ro <| Rc 1 [vi 1] <| Rk <| Sq <| Ro <| Rc 4 [vi n_, vi (mxI n_ 0), vi (mnI (mxI n_ 0) 16777216), vi (mnI (mxI n_ 0) 16777216)] <| Rk <| Sq <| Ro <| Rc 8 [vi (mnI (mxI n_ 0) 16777216), vi 1, vi (IntKind.wrap .i64 ((mnI (mxI n_ 0) 16777216) + 1)), vi (IntKind.wrap .i64 ((IntKind.wrap .i64 ((mnI (mxI n_ 0) 16777216) + 1)) - 1)), vi 1, vi (IntKind.wrap .i64 (1 - 1)), vi (bitsOp .andNot .i64 (IntKind.wrap .i64 ((IntKind.wrap .i64 ((mnI (mxI n_ 0) 16777216) + 1)) - 1)) (IntKind.wrap .i64 (1 - 1))), vi (bitsOp .andNot .i64 (IntKind.wrap .i64 ((IntKind.wrap .i64 ((mnI (mxI n_ 0) 16777216) + 1)) - 1)) (IntKind.wrap .i64 (1 - 1)))] <| Rk <| Runs.ret ?_
   cases h
   exact Fq
  | false =>
   replace h := ite_f hb_2 h
   refine Rc 6 [vi step_, vi step_, vi (IntKind.wrap .i64 (step_ - 1)), vi (bitsOp .and .i64 step_ (IntKind.wrap .i64 (step_ - 1))), vb ((bitsOp .and .i64 step_ (IntKind.wrap .i64 (step_ - 1))) != 0), vb ((bitsOp .and .i64 step_ (IntKind.wrap .i64 (step_ - 1))) != 0)] <| Rk ?_
   cases hb_3 : (((bitsOp .and .i64 step_ (IntKind.wrap .i64 (step_ - 1))) != 0) : Bool) with
   | true =>
    replace h := ite_t hb_3 h
    refine Ct <| Ro <| Rc 1 [vi 1] <| Rk <| Sq <| Ro <| Rc 4 [vi n_, vi (mxI n_ 0), vi (mnI (mxI n_ 0) 16777216), vi (mnI (mxI n_ 0) 16777216)] <| Rk <| Sq <| Ro <| Rc 8 [vi (mnI (mxI n_ 0) 16777216), vi 1, vi (IntKind.wrap .i64 ((mnI (mxI n_ 0) 16777216) + 1)), vi (IntKind.wrap .i64 ((IntKind.wrap .i64 ((mnI (mxI n_ 0) 16777216) + 1)) - 1)), vi 1, vi (IntKind.wrap .i64 (1 - 1)), vi (bitsOp .andNot .i64 (IntKind.wrap .i64 ((IntKind.wrap .i64 ((mnI (mxI n_ 0) 16777216) + 1)) - 1)) (IntKind.wrap .i64 (1 - 1))), vi (bitsOp .andNot .i64 (IntKind.wrap .i64 ((IntKind.wrap .i64 ((mnI (mxI n_ 0) 16777216) + 1)) - 1)) (IntKind.wrap .i64 (1 - 1)))] <| Rk <| Runs.ret ?_
    cases h
    exact Fq
   | false =>
    replace h := ite_f hb_3 h
    refine Cf <| Runs.skip <| kS_nrm <| Sq <| Ro <| Rc 4 [vi n_, vi (mxI n_ 0), vi (mnI (mxI n_ 0) 16777216), vi (mnI (mxI n_ 0) 16777216)] <| Rk <| Sq <| Ro <| Rc 8 [vi (mnI (mxI n_ 0) 16777216), vi step_, vi (IntKind.wrap .i64 ((mnI (mxI n_ 0) 16777216) + step_)), vi (IntKind.wrap .i64 ((IntKind.wrap .i64 ((mnI (mxI n_ 0) 16777216) + step_)) - 1)), vi step_, vi (IntKind.wrap .i64 (step_ - 1)), vi (bitsOp .andNot .i64 (IntKind.wrap .i64 ((IntKind.wrap .i64 ((mnI (mxI n_ 0) 16777216) + step_)) - 1)) (IntKind.wrap .i64 (step_ - 1))), vi (bitsOp .andNot .i64 (IntKind.wrap .i64 ((IntKind.wrap .i64 ((mnI (mxI n_ 0) 16777216) + step_)) - 1)) (IntKind.wrap .i64 (step_ - 1)))] <| Rk <| Runs.ret ?_
    cases h
    exact Fq
theorem bits_Up_L (n_ : Int) (step_ : Int) (r : Int) (h : bits_Up n_ step_ = some r) : L 104 [.i n_, .i step_] = some (.i r, [.i n_, .i step_]) := by
 obtain ⟨p, ⟨hne, hf⟩, hr⟩ := bits_Up_ok n_ step_ r h
 obtain ⟨k, hk⟩ := run_of (F := F104) (args := [.i n_, .i step_]) (ap := [.i n_, .i step_]) (bx0 := updW (fun _ => none) []) rfl rfl (by kernel_rfl) ⟨p, ⟨hne, hf⟩, hr⟩
 exact lim_run (k := k) rfl hk
def mz_head_Q (relocs_ : Int) (r : Int) (p : Out × St) : Prop := (∀ i, p.1 ≠ .exit i) ∧ finF F70 [.i relocs_] p.2 = some (.i r, [.i relocs_])
theorem mz_head_ok (relocs_ : Int) (r : Int) (h : mz_head relocs_ = some r) : Runs L F70.body ⟨tmOf [.i relocs_] 0, updW (fun _ => none) []⟩ (mz_head_Q relocs_ r) := by
 unfold mz_head at h
 refine Sq <| Ro <| Rc 1 [vi 0] <| Rk <| Sq <| Ro <| Rc 3 [vi relocs_, vi (IntKind.wrap .i64 (4 * relocs_)), vi (IntKind.wrap .i64 (28 + (IntKind.wrap .i64 (4 * relocs_))))] ?_
 obtain ⟨r_1, hr_1, h⟩ := bind_s h
 have hc_1 := bits_Up_L (IntKind.wrap .i64 (28 + (IntKind.wrap .i64 (4 * relocs_)))) 16 r_1 hr_1
 refine Rt (some 6) (.callf 104) [] none [.i (IntKind.wrap .i64 (28 + (IntKind.wrap .i64 (4 * relocs_)))), .i 16] (.i r_1) [] (cc hc_1) <| Rc 1 [vi r_1] <| Rk <| Runs.ret ?_
 cases h
 exact Fq
theorem mz_head_L (relocs_ : Int) (r : Int) (h : mz_head relocs_ = some r) : L 70 [.i relocs_] = some (.i r, [.i relocs_]) := by
 obtain ⟨p, ⟨hne, hf⟩, hr⟩ := mz_head_ok relocs_ r h
 obtain ⟨k, hk⟩ := run_of (F := F70) (args := [.i relocs_]) (ap := [.i relocs_]) (bx0 := updW (fun _ => none) []) rfl rfl (by kernel_rfl) ⟨p, ⟨hne, hf⟩, hr⟩
 exact lim_run (k := k) rfl hk
def bits_Low_Q (w_ : Int) (r : Int) (p : Out × St) : Prop := (∀ i, p.1 ≠ .exit i) ∧ finF F100 [.w w_] p.2 = some (.y r, [.w w_])
theorem bits_Low_ok (w_ : Int) (r : Int) (h : bits_Low w_ = some r) : Runs L F100.body ⟨tmOf [.w w_] 0, updW (fun _ => none) []⟩ (bits_Low_Q w_ r) := by
 unfold bits_Low at h
 refine Sq <| Ro <| Rc 1 [vy 0] <| Rk <| Sq <| Ro <| Rc 3 [vw w_, vy (IntKind.wrap .u8 w_), vy (IntKind.wrap .u8 w_)] <| Rk <| Runs.ret ?_
 cases h
 exact Fq
theorem bits_Low_L (w_ : Int) (r : Int) (h : bits_Low w_ = some r) : L 100 [.w w_] = some (.y r, [.w w_]) := by
 obtain ⟨p, ⟨hne, hf⟩, hr⟩ := bits_Low_ok w_ r h
 obtain ⟨k, hk⟩ := run_of (F := F100) (args := [.w w_]) (ap := [.w w_]) (bx0 := updW (fun _ => none) []) rfl rfl (by kernel_rfl) ⟨p, ⟨hne, hf⟩, hr⟩
 exact lim_run (k := k) rfl hk
def bits_High_Q (w_ : Int) (r : Int) (p : Out × St) : Prop := (∀ i, p.1 ≠ .exit i) ∧ finF F101 [.w w_] p.2 = some (.y r, [.w w_])
theorem bits_High_ok (w_ : Int) (r : Int) (h : bits_High w_ = some r) : Runs L F101.body ⟨tmOf [.w w_] 0, updW (fun _ => none) []⟩ (bits_High_Q w_ r) := by
 unfold bits_High at h
 refine Sq <| Ro <| Rc 1 [vy 0] <| Rk <| Sq <| Ro <| Rc 4 [vw w_, vw (shrI .u16 w_ 8), vy (IntKind.wrap .u8 (shrI .u16 w_ 8)), vy (IntKind.wrap .u8 (shrI .u16 w_ 8))] <| Rk <| Runs.ret ?_
 cases h
 exact Fq
theorem bits_High_L (w_ : Int) (r : Int) (h : bits_High w_ = some r) : L 101 [.w w_] = some (.y r, [.w w_]) := by
 obtain ⟨p, ⟨hne, hf⟩, hr⟩ := bits_High_ok w_ r h
 obtain ⟨k, hk⟩ := run_of (F := F101) (args := [.w w_]) (ap := [.w w_]) (bx0 := updW (fun _ => none) []) rfl rfl (by kernel_rfl) ⟨p, ⟨hne, hf⟩, hr⟩
 exact lim_run (k := k) rfl hk
def index_Two_Q (w_ : Int) (r : (List Int)) (p : Out × St) : Prop := (∀ i, p.1 ≠ .exit i) ∧ finF F62 [.w w_] p.2 = some (.d (.sl (mY r)), [.w w_])
theorem index_Two_ok (w_ : Int) (r : (List Int)) (h : index_Two w_ = some r) : Runs L F62.body ⟨tmOf [.w w_] 0, updW (fun _ => none) []⟩ (index_Two_Q w_ r) := by
 unfold index_Two at h
 refine Sq <| Ro <| Rc 1 [⟨.nils, []⟩] <| Rk <| Sq <| Ro <| Rc 1 [vw w_] ?_
 obtain ⟨r_1, hr_1, h⟩ := bind_s h
 have hc_1 := bits_Low_L w_ r_1 hr_1
 refine Rt (some 4) (.callf 100) [] none [.w w_] (.y r_1) [] (cc hc_1) <| Rc 1 [vw w_] ?_
 obtain ⟨r_2, hr_2, h⟩ := bind_s h
 have hc_2 := bits_High_L w_ r_2 hr_2
 refine Rt (some 6) (.callf 101) [] none [.w w_] (.y r_2) [] (cc hc_2) <| Rc 2 [⟨.ref [7] 0 0 (mY ([r_1, r_2] : List Int)).length 1, [([7], some (.arr (mY ([r_1, r_2] : List Int)) 0 false))]⟩, ⟨.ref [7] 0 0 (mY ([r_1, r_2] : List Int)).length 1, []⟩] <| Rk <| Sq <| Runs.gcons (frz_ref (e := (D.int .u8)) (l := ([r_1, r_2] : List Int)) (id := [7]) (v := 0) (n := 1) (fz := false) (by kernel_rfl) (by kernel_rfl) rfl) <| Runs.gnil <| kS_nrm <| Runs.ret ?_
 cases h
 exact Fq
theorem index_Two_L (w_ : Int) (r : (List Int)) (h : index_Two w_ = some r) : L 62 [.w w_] = some (.d (.sl (mY r)), [.w w_]) := by
 obtain ⟨p, ⟨hne, hf⟩, hr⟩ := index_Two_ok w_ r h
 obtain ⟨k, hk⟩ := run_of (F := F62) (args := [.w w_]) (ap := [.w w_]) (bx0 := updW (fun _ => none) []) rfl rfl (by kernel_rfl) ⟨p, ⟨hne, hf⟩, hr⟩
 exact lim_run (k := k) rfl hk
def bits_Normal_Q (at_ : Int) (r : (Int × Int)) (p : Out × St) : Prop := (∀ i, p.1 ≠ .exit i) ∧ finF F71 [.u at_] p.2 = some (.tup [.w r.1, .w r.2], [.u at_])
theorem bits_Normal_ok (at_ : Int) (r : (Int × Int)) (h : bits_Normal at_ = some r) : Runs L F71.body ⟨tmOf [.u at_] 0, updW (fun _ => none) []⟩ (bits_Normal_Q at_ r) := by
 unfold bits_Normal at h
 refine Sq <| Ro <| Rc 2 [vw 0, vw 0] <| Rk <| Sq <| Ro <| Rc 3 [vu at_, vu (bitsOp .and .u32 at_ 1048575), vu (bitsOp .and .u32 at_ 1048575)] <| Rk <| Sq <| Ro <| Rc 8 [vu (bitsOp .and .u32 at_ 1048575), vu (shrI .u32 (bitsOp .and .u32 at_ 1048575) 4), vw (IntKind.wrap .u16 (shrI .u32 (bitsOp .and .u32 at_ 1048575) 4)), vu (bitsOp .and .u32 at_ 1048575), vu (bitsOp .and .u32 (bitsOp .and .u32 at_ 1048575) 15), vw (IntKind.wrap .u16 (bitsOp .and .u32 (bitsOp .and .u32 at_ 1048575) 15)), vw (IntKind.wrap .u16 (shrI .u32 (bitsOp .and .u32 at_ 1048575) 4)), vw (IntKind.wrap .u16 (bitsOp .and .u32 (bitsOp .and .u32 at_ 1048575) 15))] <| Rk <| Runs.ret ?_
 cases h
 exact Fq
theorem bits_Normal_L (at_ : Int) (r : (Int × Int)) (h : bits_Normal at_ = some r) : L 71 [.u at_] = some (.tup [.w r.1, .w r.2], [.u at_]) := by
 obtain ⟨p, ⟨hne, hf⟩, hr⟩ := bits_Normal_ok at_ r h
 obtain ⟨k, hk⟩ := run_of (F := F71) (args := [.u at_]) (ap := [.u at_]) (bx0 := updW (fun _ => none) []) rfl rfl (by kernel_rfl) ⟨p, ⟨hne, hf⟩, hr⟩
 exact lim_run (k := k) rfl hk
def mz_Write_h22 (x1 : Image) (b_53 : (List Int)) (n4 : Int) (t54 : (List Int)) (t55 : Int) (t56 : Int) (v_53 : Nat) : St := ⟨tab [(1, .ptr [1] 0 0), (4, .i n4), (7, .ref [53] v_53 0 (mY b_53).length 1), (54, .d (.sl (List.map (D.int .u16) t54))), (55, .i t55), (56, .i t56)], tabB [([1], some (.cells [.d (.sl (mY x1.Bytes)), .d (.sl (List.map (D.int .i64) x1.Relocs)), .w x1.CS, .w x1.IP, .w x1.SS, .w x1.SP, .i x1.Min] 0)), ([53], some (.arr (mY b_53) v_53 false))]⟩
def mz_Write_h35 (x1 : Image) (b_53 : (List Int)) (n4 : Int) (v_53 : Nat) : St := ⟨tab [(1, .ptr [1] 0 0), (4, .i n4), (7, .ref [53] v_53 0 (mY b_53).length 1)], tabB [([1], some (.cells [.d (.sl (mY x1.Bytes)), .d (.sl (List.map (D.int .i64) x1.Relocs)), .w x1.CS, .w x1.IP, .w x1.SS, .w x1.SP, .i x1.Min] 0)), ([53], some (.arr (mY b_53) v_53 false))]⟩
def mz_Write_h39 (x1 : Image) (b_53 : (List Int)) (n4 : Int) (t66 : (List Int)) (t67 : Int) (t68 : Int) (v_53 : Nat) : St := ⟨tab [(1, .ptr [1] 0 0), (4, .i n4), (7, .ref [53] v_53 0 (mY b_53).length 1), (66, .d (.sl (List.map (D.int .i64) t66))), (67, .i t67), (68, .i t68)], tabB [([1], some (.cells [.d (.sl (mY x1.Bytes)), .d (.sl (List.map (D.int .i64) x1.Relocs)), .w x1.CS, .w x1.IP, .w x1.SS, .w x1.SP, .i x1.Min] 0)), ([53], some (.arr (mY b_53) v_53 false))]⟩
def mz_Write_h54 (x1 : Image) (b_53 : (List Int)) (n4 : Int) (v_53 : Nat) : St := ⟨tab [(1, .ptr [1] 0 0), (4, .i n4), (7, .ref [53] v_53 0 (mY b_53).length 1)], tabB [([1], some (.cells [.d (.sl (mY x1.Bytes)), .d (.sl (List.map (D.int .i64) x1.Relocs)), .w x1.CS, .w x1.IP, .w x1.SS, .w x1.SP, .i x1.Min] 0)), ([53], some (.arr (mY b_53) v_53 false))]⟩
def mz_Write_Q (x_ : Image) (r : ((List Int) × Int)) (p : Out × St) : Prop := (∀ i, p.1 ≠ .exit i) ∧ finF F31 [.d (Image.d x_)] p.2 = some (.tup [.d (.sl (mY r.1)), .i r.2], [.d (Image.d x_)])
def mz_Write_P22 (x_ : Image) (x1 : Image) (n4 : Int) (t54 : (List Int)) (t55 : Int) (e : (List Int)) (p : Out × St) : Prop := p.1 = .exit 0 ∧ ∃ g : Nat, Canon [] [1, 4, 7] [[1], [53]] p.2 (mz_Write_h35 x1 e n4 g)
def mz_Write_P39 (x_ : Image) (x1 : Image) (n4 : Int) (t66 : (List Int)) (t67 : Int) (e : (List Int)) (p : Out × St) : Prop := p.1 = .exit 2 ∧ ∃ g : Nat, Canon [] [1, 4, 7] [[1], [53]] p.2 (mz_Write_h54 x1 e n4 g)
theorem mz_Write_l22_ok (x_ : Image) (x1 : Image) (b_53 : (List Int)) (n4 : Int) (t54 : (List Int)) (t55 : Int) (t56 : Int) (v_53 : Nat) (r : (Lp ((List Int) × Int) (List Int))) (h : mz_Write_l22 x1 b_53 n4 t54 t55 t56 = some r) : Runs L F31l22 (mz_Write_h22 x1 b_53 n4 t54 t55 t56 v_53) (LQ [.frz 54] [1, 4, 7, 54, 55, 56] [[1], [53]] (fun (x : ((List Int) × Int)) (g : Nat) => mz_Write_h22 x1 x.1 n4 t54 t55 x.2 g) (mz_Write_P22 x_ x1 n4 t54 t55) r) := by
 unfold mz_Write_l22 at h
 refine Sq <| Ro <| Rc 1 [vb (decide (t56 < t55))] <| Rk <| Sq ?_
 cases hb_2 : ((decide (t56 < t55)) : Bool) with
 | true =>
  replace h := ite_t hb_2 h
  refine Ct <| Runs.skip <| kS_nrm <| Sq <| Runs.block <| Sq <| Ro ?_
  obtain ⟨z_1, hz_1, h⟩ := bind_s h
  refine Rt (some 58) (.iaddrS 1) [] none [.d (.sl (List.map (D.int .u16) t54)), .i t56] (.elt (.int .u16 z_1) 0) [] (cut_at hz_1 (fun _ => rfl)) <| Rc 2 [vw z_1, vw z_1] <| Rk <| Ro <| Rc 2 [⟨.ref [53] v_53 0 (mY b_53).length 1, []⟩, vw z_1] ?_
  obtain ⟨r_3, hr_3, h⟩ := bind_s h
  have hc_3 := index_Two_L z_1 r_3 hr_3
  refine Rt (some 62) (.callf 62) [] none [.w z_1] (.d (.sl (mY r_3))) [] (cc hc_3) ?_
  obtain ⟨z_2, hz_2, h⟩ := bind_s h
  refine Rt (some 63) (.append 1 1 false) [] none [.ref [53] v_53 0 (mY b_53).length 1, .d (.sl (mY r_3))] (.ref [53] (v_53 + 1) 0 (mY z_2).length 1) [([53], some (.arr (mY z_2) (v_53 + 1) false))] (cut_appR (e := (D.int .u8)) (l := b_53) (fz := false) (ws := []) (ap_data _) (fun _ => rfl) hz_2 (by kernel_rfl) (by kernel_rfl) rfl) <| Rc 1 [⟨.ref [53] (v_53 + 1) 0 (mY z_2).length 1, []⟩] <| Rd <| kB_nrm <| kS_nrm <| Ro <| Rc 2 [vi (IntKind.wrap .i64 (t56 + 1)), vi (IntKind.wrap .i64 (t56 + 1))] <| Rd ?_
  obtain rfl := sj h
  exact ⟨rfl, (v_53 + 1), (Canon.same (by kernel_rfl) Cz)⟩
 | false =>
  replace h := ite_f hb_2 h
  refine Cf <| Runs.exit <| kS_exit ?_
  obtain rfl := sj h
  exact ⟨nofun, rfl, v_53, Cz⟩
theorem mz_Write_l39_ok (x_ : Image) (x1 : Image) (b_53 : (List Int)) (n4 : Int) (t66 : (List Int)) (t67 : Int) (t68 : Int) (v_53 : Nat) (r : (Lp ((List Int) × Int) (List Int))) (h : mz_Write_l39 x1 b_53 n4 t66 t67 t68 = some r) : Runs L F31l39 (mz_Write_h39 x1 b_53 n4 t66 t67 t68 v_53) (LQ [] [1, 4, 7, 66, 67, 68] [[1], [53]] (fun (x : ((List Int) × Int)) (g : Nat) => mz_Write_h39 x1 x.1 n4 t66 t67 x.2 g) (mz_Write_P39 x_ x1 n4 t66 t67) r) := by
 unfold mz_Write_l39 at h
 refine Sq <| Ro <| Rc 1 [vb (decide (t68 < t67))] <| Rk <| Sq ?_
 cases hb_2 : ((decide (t68 < t67)) : Bool) with
 | true =>
  replace h := ite_t hb_2 h
  refine Ct <| Runs.skip <| kS_nrm <| Sq <| Runs.block <| Sq <| Ro ?_
  obtain ⟨z_1, hz_1, h⟩ := bind_s h
  refine Rt (some 70) (.iaddrS 1) [] none [.d (.sl (List.map (D.int .i64) t66)), .i t68] (.elt (.int .i64 z_1) 0) [] (cut_at hz_1 (fun _ => rfl)) <| Rc 2 [vi z_1, vi z_1] <| Rk <| Sq <| Ro <| Rc 2 [vi z_1, vu (IntKind.wrap .u32 z_1)] ?_
  obtain ⟨r_3, hr_3, h⟩ := bind_s h
  have hc_3 := bits_Normal_L (IntKind.wrap .u32 z_1) r_3 hr_3
  refine Rt (some 75) (.callf 71) [] none [.u (IntKind.wrap .u32 z_1)] (.tup [.w r_3.1, .w r_3.2]) [] (cc hc_3) <| Rc 5 [⟨.tup [.w r_3.1, .w r_3.2], []⟩, vw r_3.1, vw r_3.2, vw r_3.1, vw r_3.2] <| Rk <| Ro <| Rc 2 [⟨.ref [53] v_53 0 (mY b_53).length 1, []⟩, vw r_3.2] ?_
  obtain ⟨r_4, hr_4, h⟩ := bind_s h
  have hc_4 := index_Two_L r_3.2 r_4 hr_4
  refine Rt (some 80) (.callf 62) [] none [.w r_3.2] (.d (.sl (mY r_4))) [] (cc hc_4) ?_
  obtain ⟨z_2, hz_2, h⟩ := bind_s h
  refine Rt (some 81) (.append 1 1 false) [] none [.ref [53] v_53 0 (mY b_53).length 1, .d (.sl (mY r_4))] (.ref [53] (v_53 + 1) 0 (mY z_2).length 1) [([53], some (.arr (mY z_2) (v_53 + 1) false))] (cut_appR (e := (D.int .u8)) (l := b_53) (fz := false) (ws := []) (ap_data _) (fun _ => rfl) hz_2 (by kernel_rfl) (by kernel_rfl) rfl) <| Rc 1 [vw r_3.1] ?_
  obtain ⟨r_5, hr_5, h⟩ := bind_s h
  have hc_5 := index_Two_L r_3.1 r_5 hr_5
  refine Rt (some 83) (.callf 62) [] none [.w r_3.1] (.d (.sl (mY r_5))) [] (cc hc_5) ?_
  obtain ⟨z_3, hz_3, h⟩ := bind_s h
  refine Rt (some 84) (.append 1 1 false) [] none [.ref [53] (v_53 + 1) 0 (mY z_2).length 1, .d (.sl (mY r_5))] (.ref [53] ((v_53 + 1) + 1) 0 (mY z_3).length 1) [([53], some (.arr (mY z_3) ((v_53 + 1) + 1) false))] (cut_appR (e := (D.int .u8)) (l := z_2) (fz := false) (ws := []) (ap_data _) (fun _ => rfl) hz_3 (by kernel_rfl) (by kernel_rfl) rfl) <| Rc 1 [⟨.ref [53] ((v_53 + 1) + 1) 0 (mY z_3).length 1, []⟩] <| Rd <| kB_nrm <| kS_nrm <| Ro <| Rc 2 [vi (IntKind.wrap .i64 (t68 + 1)), vi (IntKind.wrap .i64 (t68 + 1))] <| Rd ?_
  obtain rfl := sj h
  exact ⟨rfl, ((v_53 + 1) + 1), Cz⟩
 | false =>
  replace h := ite_f hb_2 h
  refine Cf <| Runs.exit <| kS_exit ?_
  obtain rfl := sj h
  exact ⟨nofun, rfl, v_53, Cz⟩
theorem mz_Write_ok (x_ : Image) (r : ((List Int) × Int)) (h : mz_Write x_ = some r) : Runs L F31.body ⟨tmOf [.d (Image.d x_)] 0, updW (fun _ => none) []⟩ (mz_Write_Q x_ r) := by
 unfold mz_Write at h
 refine Sq <| Ro <| Rc 3 [⟨.ptr [1] 0 0, [([1], some (.cells [.d (.sl (mY x_.Bytes)), .d (.sl (List.map (D.int .i64) x_.Relocs)), .w x_.CS, .w x_.IP, .w x_.SS, .w x_.SP, .i x_.Min] 0))]⟩, ⟨.nils, []⟩, vi 0] <| Rk <| Sq <| Sq <| Ro <| Rc 1 [⟨.d (Image.d x_), []⟩] ?_
 obtain ⟨r_1, hr_1, h⟩ := bind_s h
 have hc_1 := mz_May_L x_ r_1 hr_1
 refine Rt (some 15) (.callf 34) [] none [.d (Image.d x_)] (.b r_1) [] (cc hc_1) <| Rc 1 [vb (!r_1)] <| Rk ?_
 cases hb_1 : ((!r_1) : Bool) with
 | true =>
  replace h := ite_t hb_1 h
  refine Ct <| Sq <| Ro <| Rc 2 [⟨.nils, []⟩, vi 1] <| Rk <| Sq <| Runs.gcons (frz_nil (D.int .u8) (by kernel_rfl)) <| Runs.gnil <| kS_nrm <| Runs.ret <| kS_ret ?_
  cases h
  exact Fq
 | false =>
  replace h := ite_f hb_1 h
  refine Cf <| Runs.skip <| kS_nrm <| Sq <| Ro <| Rc 2 [vp [1] 0 1, ⟨.d (.sl (List.map (D.int .i64) x_.Relocs)), []⟩] <| Rt (some 19) .lenL [] none [.d (.sl (List.map (D.int .i64) x_.Relocs))] (.i (x_.Relocs.length : Int)) [] (cut_len _) ?_
  obtain ⟨r_2, hr_2, h⟩ := bind_s h
  have hc_2 := mz_head_L (x_.Relocs.length : Int) r_2 hr_2
  refine Rt (some 20) (.callf 70) [] none [.i (x_.Relocs.length : Int)] (.i r_2) [] (cc hc_2) <| Rc 1 [vi r_2] <| Rk <| Sq <| Ro <| Rc 3 [vi r_2, vp [1] 0 0, ⟨.d (.sl (mY x_.Bytes)), []⟩] <| Rt (some 24) .lenL [] none [.d (.sl (mY x_.Bytes))] (.i (x_.Bytes.length : Int)) [] (cut_len _) <| Rc 2 [vi (IntKind.wrap .i64 (r_2 + (x_.Bytes.length : Int))), vi (IntKind.wrap .i64 (r_2 + (x_.Bytes.length : Int)))] <| Rk <| Sq <| Ro <| Rc 10 [vi (IntKind.wrap .i64 (r_2 + (x_.Bytes.length : Int))), vi (Int.tmod (IntKind.wrap .i64 (r_2 + (x_.Bytes.length : Int))) 512), vw (IntKind.wrap .u16 (Int.tmod (IntKind.wrap .i64 (r_2 + (x_.Bytes.length : Int))) 512)), vi (IntKind.wrap .i64 (r_2 + (x_.Bytes.length : Int))), vi (IntKind.wrap .i64 ((IntKind.wrap .i64 (r_2 + (x_.Bytes.length : Int))) + 512)), vi (IntKind.wrap .i64 ((IntKind.wrap .i64 ((IntKind.wrap .i64 (r_2 + (x_.Bytes.length : Int))) + 512)) - 1)), vi (IntKind.wrap .i64 (Int.tdiv (IntKind.wrap .i64 ((IntKind.wrap .i64 ((IntKind.wrap .i64 (r_2 + (x_.Bytes.length : Int))) + 512)) - 1)) 512)), vw (IntKind.wrap .u16 (IntKind.wrap .i64 (Int.tdiv (IntKind.wrap .i64 ((IntKind.wrap .i64 ((IntKind.wrap .i64 (r_2 + (x_.Bytes.length : Int))) + 512)) - 1)) 512))), vp [1] 0 1, ⟨.d (.sl (List.map (D.int .i64) x_.Relocs)), []⟩] ?_
  refine Rt (some 36) .lenL [] none [.d (.sl (List.map (D.int .i64) x_.Relocs))] (.i (x_.Relocs.length : Int)) [] (cut_len _) <| Rc 17 [vw (IntKind.wrap .u16 (x_.Relocs.length : Int)), vi r_2, vi (IntKind.wrap .i64 (Int.tdiv r_2 16)), vw (IntKind.wrap .u16 (IntKind.wrap .i64 (Int.tdiv r_2 16))), vp [1] 0 6, vi x_.Min, vw (IntKind.wrap .u16 x_.Min), vp [1] 0 4, vw x_.SS, vp [1] 0 5, vw x_.SP, vp [1] 0 3, vw x_.IP, vp [1] 0 2, vw x_.CS, ⟨.ref [52] 0 0 (List.map (D.int .u16) ([(IntKind.wrap .u16 (Int.tmod (IntKind.wrap .i64 (r_2 + (x_.Bytes.length : Int))) 512)), (IntKind.wrap .u16 (IntKind.wrap .i64 (Int.tdiv (IntKind.wrap .i64 ((IntKind.wrap .i64 ((IntKind.wrap .i64 (r_2 + (x_.Bytes.length : Int))) + 512)) - 1)) 512))), (IntKind.wrap .u16 (x_.Relocs.length : Int)), (IntKind.wrap .u16 (IntKind.wrap .i64 (Int.tdiv r_2 16))), (IntKind.wrap .u16 x_.Min), 65535, x_.SS, x_.SP, 0, x_.IP, x_.CS, 28, 0] : List Int)).length 1, [([52], some (.arr (List.map (D.int .u16) ([(IntKind.wrap .u16 (Int.tmod (IntKind.wrap .i64 (r_2 + (x_.Bytes.length : Int))) 512)), (IntKind.wrap .u16 (IntKind.wrap .i64 (Int.tdiv (IntKind.wrap .i64 ((IntKind.wrap .i64 ((IntKind.wrap .i64 (r_2 + (x_.Bytes.length : Int))) + 512)) - 1)) 512))), (IntKind.wrap .u16 (x_.Relocs.length : Int)), (IntKind.wrap .u16 (IntKind.wrap .i64 (Int.tdiv r_2 16))), (IntKind.wrap .u16 x_.Min), 65535, x_.SS, x_.SP, 0, x_.IP, x_.CS, 28, 0] : List Int)) 0 false))]⟩, ⟨.ref [52] 0 0 (List.map (D.int .u16) ([(IntKind.wrap .u16 (Int.tmod (IntKind.wrap .i64 (r_2 + (x_.Bytes.length : Int))) 512)), (IntKind.wrap .u16 (IntKind.wrap .i64 (Int.tdiv (IntKind.wrap .i64 ((IntKind.wrap .i64 ((IntKind.wrap .i64 (r_2 + (x_.Bytes.length : Int))) + 512)) - 1)) 512))), (IntKind.wrap .u16 (x_.Relocs.length : Int)), (IntKind.wrap .u16 (IntKind.wrap .i64 (Int.tdiv r_2 16))), (IntKind.wrap .u16 x_.Min), 65535, x_.SS, x_.SP, 0, x_.IP, x_.CS, 28, 0] : List Int)).length 1, []⟩] ?_
  refine Rk <| Sq <| Ro <| Rc 2 [⟨.ref [53] 0 0 (mY ([77, 90] : List Int)).length 1, [([53], some (.arr (mY ([77, 90] : List Int)) 0 false))]⟩, ⟨.ref [53] 0 0 (mY ([77, 90] : List Int)).length 1, []⟩] <| Rk <| Sq <| Sq <| Ro <| Rc 1 [⟨.ref [52] 0 0 (List.map (D.int .u16) ([(IntKind.wrap .u16 (Int.tmod (IntKind.wrap .i64 (r_2 + (x_.Bytes.length : Int))) 512)), (IntKind.wrap .u16 (IntKind.wrap .i64 (Int.tdiv (IntKind.wrap .i64 ((IntKind.wrap .i64 ((IntKind.wrap .i64 (r_2 + (x_.Bytes.length : Int))) + 512)) - 1)) 512))), (IntKind.wrap .u16 (x_.Relocs.length : Int)), (IntKind.wrap .u16 (IntKind.wrap .i64 (Int.tdiv r_2 16))), (IntKind.wrap .u16 x_.Min), 65535, x_.SS, x_.SP, 0, x_.IP, x_.CS, 28, 0] : List Int)).length 1, []⟩] <| Rt (some 55) .lenL [] none [.ref [52] 0 0 (List.map (D.int .u16) ([(IntKind.wrap .u16 (Int.tmod (IntKind.wrap .i64 (r_2 + (x_.Bytes.length : Int))) 512)), (IntKind.wrap .u16 (IntKind.wrap .i64 (Int.tdiv (IntKind.wrap .i64 ((IntKind.wrap .i64 ((IntKind.wrap .i64 (r_2 + (x_.Bytes.length : Int))) + 512)) - 1)) 512))), (IntKind.wrap .u16 (x_.Relocs.length : Int)), (IntKind.wrap .u16 (IntKind.wrap .i64 (Int.tdiv r_2 16))), (IntKind.wrap .u16 x_.Min), 65535, x_.SS, x_.SP, 0, x_.IP, x_.CS, 28, 0] : List Int)).length 1] (.i (([(IntKind.wrap .u16 (Int.tmod (IntKind.wrap .i64 (r_2 + (x_.Bytes.length : Int))) 512)), (IntKind.wrap .u16 (IntKind.wrap .i64 (Int.tdiv (IntKind.wrap .i64 ((IntKind.wrap .i64 ((IntKind.wrap .i64 (r_2 + (x_.Bytes.length : Int))) + 512)) - 1)) 512))), (IntKind.wrap .u16 (x_.Relocs.length : Int)), (IntKind.wrap .u16 (IntKind.wrap .i64 (Int.tdiv r_2 16))), (IntKind.wrap .u16 x_.Min), 65535, x_.SS, x_.SP, 0, x_.IP, x_.CS, 28, 0] : List Int).length : Int)) [] (cut_lenR (e := (D.int .u16)) ([(IntKind.wrap .u16 (Int.tmod (IntKind.wrap .i64 (r_2 + (x_.Bytes.length : Int))) 512)), (IntKind.wrap .u16 (IntKind.wrap .i64 (Int.tdiv (IntKind.wrap .i64 ((IntKind.wrap .i64 ((IntKind.wrap .i64 (r_2 + (x_.Bytes.length : Int))) + 512)) - 1)) 512))), (IntKind.wrap .u16 (x_.Relocs.length : Int)), (IntKind.wrap .u16 (IntKind.wrap .i64 (Int.tdiv r_2 16))), (IntKind.wrap .u16 x_.Min), 65535, x_.SS, x_.SP, 0, x_.IP, x_.CS, 28, 0] : List Int) rfl) ?_
  refine Rc 1 [vi 0] <| Rk <| Runs.block ?_
  obtain ⟨e_1, he_1, h⟩ := bind_s h
  refine Runs.loop (fun x : ((List Int) × Int) => mz_Write_l22 x_ x.1 r_2 ([(IntKind.wrap .u16 (Int.tmod (IntKind.wrap .i64 (r_2 + (x_.Bytes.length : Int))) 512)), (IntKind.wrap .u16 (IntKind.wrap .i64 (Int.tdiv (IntKind.wrap .i64 ((IntKind.wrap .i64 ((IntKind.wrap .i64 (r_2 + (x_.Bytes.length : Int))) + 512)) - 1)) 512))), (IntKind.wrap .u16 (x_.Relocs.length : Int)), (IntKind.wrap .u16 (IntKind.wrap .i64 (Int.tdiv r_2 16))), (IntKind.wrap .u16 x_.Min), 65535, x_.SS, x_.SP, 0, x_.IP, x_.CS, 28, 0] : List Int) (([(IntKind.wrap .u16 (Int.tmod (IntKind.wrap .i64 (r_2 + (x_.Bytes.length : Int))) 512)), (IntKind.wrap .u16 (IntKind.wrap .i64 (Int.tdiv (IntKind.wrap .i64 ((IntKind.wrap .i64 ((IntKind.wrap .i64 (r_2 + (x_.Bytes.length : Int))) + 512)) - 1)) 512))), (IntKind.wrap .u16 (x_.Relocs.length : Int)), (IntKind.wrap .u16 (IntKind.wrap .i64 (Int.tdiv r_2 16))), (IntKind.wrap .u16 x_.Min), 65535, x_.SS, x_.SP, 0, x_.IP, x_.CS, 28, 0] : List Int).length : Int) x.2) (fun (x : ((List Int) × Int)) (g : Nat) => mz_Write_h22 x_ x.1 r_2 ([(IntKind.wrap .u16 (Int.tmod (IntKind.wrap .i64 (r_2 + (x_.Bytes.length : Int))) 512)), (IntKind.wrap .u16 (IntKind.wrap .i64 (Int.tdiv (IntKind.wrap .i64 ((IntKind.wrap .i64 ((IntKind.wrap .i64 (r_2 + (x_.Bytes.length : Int))) + 512)) - 1)) 512))), (IntKind.wrap .u16 (x_.Relocs.length : Int)), (IntKind.wrap .u16 (IntKind.wrap .i64 (Int.tdiv r_2 16))), (IntKind.wrap .u16 x_.Min), 65535, x_.SS, x_.SP, 0, x_.IP, x_.CS, 28, 0] : List Int) (([(IntKind.wrap .u16 (Int.tmod (IntKind.wrap .i64 (r_2 + (x_.Bytes.length : Int))) 512)), (IntKind.wrap .u16 (IntKind.wrap .i64 (Int.tdiv (IntKind.wrap .i64 ((IntKind.wrap .i64 ((IntKind.wrap .i64 (r_2 + (x_.Bytes.length : Int))) + 512)) - 1)) 512))), (IntKind.wrap .u16 (x_.Relocs.length : Int)), (IntKind.wrap .u16 (IntKind.wrap .i64 (Int.tdiv r_2 16))), (IntKind.wrap .u16 x_.Min), 65535, x_.SS, x_.SP, 0, x_.IP, x_.CS, 28, 0] : List Int).length : Int) x.2 g) (mz_Write_P22 x_ x_ r_2 ([(IntKind.wrap .u16 (Int.tmod (IntKind.wrap .i64 (r_2 + (x_.Bytes.length : Int))) 512)), (IntKind.wrap .u16 (IntKind.wrap .i64 (Int.tdiv (IntKind.wrap .i64 ((IntKind.wrap .i64 ((IntKind.wrap .i64 (r_2 + (x_.Bytes.length : Int))) + 512)) - 1)) 512))), (IntKind.wrap .u16 (x_.Relocs.length : Int)), (IntKind.wrap .u16 (IntKind.wrap .i64 (Int.tdiv r_2 16))), (IntKind.wrap .u16 x_.Min), 65535, x_.SS, x_.SP, 0, x_.IP, x_.CS, 28, 0] : List Int) (([(IntKind.wrap .u16 (Int.tmod (IntKind.wrap .i64 (r_2 + (x_.Bytes.length : Int))) 512)), (IntKind.wrap .u16 (IntKind.wrap .i64 (Int.tdiv (IntKind.wrap .i64 ((IntKind.wrap .i64 ((IntKind.wrap .i64 (r_2 + (x_.Bytes.length : Int))) + 512)) - 1)) 512))), (IntKind.wrap .u16 (x_.Relocs.length : Int)), (IntKind.wrap .u16 (IntKind.wrap .i64 (Int.tdiv r_2 16))), (IntKind.wrap .u16 x_.Min), 65535, x_.SS, x_.SP, 0, x_.IP, x_.CS, 28, 0] : List Int).length : Int)) (fun x g r hr => mz_Write_l22_ok x_ x_ x.1 r_2 ([(IntKind.wrap .u16 (Int.tmod (IntKind.wrap .i64 (r_2 + (x_.Bytes.length : Int))) 512)), (IntKind.wrap .u16 (IntKind.wrap .i64 (Int.tdiv (IntKind.wrap .i64 ((IntKind.wrap .i64 ((IntKind.wrap .i64 (r_2 + (x_.Bytes.length : Int))) + 512)) - 1)) 512))), (IntKind.wrap .u16 (x_.Relocs.length : Int)), (IntKind.wrap .u16 (IntKind.wrap .i64 (Int.tdiv r_2 16))), (IntKind.wrap .u16 x_.Min), 65535, x_.SS, x_.SP, 0, x_.IP, x_.CS, 28, 0] : List Int) (([(IntKind.wrap .u16 (Int.tmod (IntKind.wrap .i64 (r_2 + (x_.Bytes.length : Int))) 512)), (IntKind.wrap .u16 (IntKind.wrap .i64 (Int.tdiv (IntKind.wrap .i64 ((IntKind.wrap .i64 ((IntKind.wrap .i64 (r_2 + (x_.Bytes.length : Int))) + 512)) - 1)) 512))), (IntKind.wrap .u16 (x_.Relocs.length : Int)), (IntKind.wrap .u16 (IntKind.wrap .i64 (Int.tdiv r_2 16))), (IntKind.wrap .u16 x_.Min), 65535, x_.SS, x_.SP, 0, x_.IP, x_.CS, 28, 0] : List Int).length : Int) x.2 g r hr) 0 he_1 (Canon.cons (frz_ref (e := (D.int .u16)) (l := ([(IntKind.wrap .u16 (Int.tmod (IntKind.wrap .i64 (r_2 + (x_.Bytes.length : Int))) 512)), (IntKind.wrap .u16 (IntKind.wrap .i64 (Int.tdiv (IntKind.wrap .i64 ((IntKind.wrap .i64 ((IntKind.wrap .i64 (r_2 + (x_.Bytes.length : Int))) + 512)) - 1)) 512))), (IntKind.wrap .u16 (x_.Relocs.length : Int)), (IntKind.wrap .u16 (IntKind.wrap .i64 (Int.tdiv r_2 16))), (IntKind.wrap .u16 x_.Min), 65535, x_.SS, x_.SP, 0, x_.IP, x_.CS, 28, 0] : List Int)) (id := [52]) (v := 0) (n := 1) (fz := false) (by kernel_rfl) (by kernel_rfl) rfl) Cz) ?_
  rintro ⟨o, s⟩ hp
  obtain ⟨ho, g_1, hk_1⟩ := hp
  have ho' : o = .exit 0 := ho
  subst ho'
  refine kB_hit <| kS_nrm <| Runs.canon _ hk_1 <| Sq <| Sq <| Ro <| Rc 2 [vp [1] 0 1, ⟨.d (.sl (List.map (D.int .i64) x_.Relocs)), []⟩] <| Rt (some 67) .lenL [] none [.d (.sl (List.map (D.int .i64) x_.Relocs))] (.i (x_.Relocs.length : Int)) [] (cut_len _) <| Rc 1 [vi 0] <| Rk <| Runs.block ?_
  obtain ⟨e_2, he_2, h⟩ := bind_s h
  refine Runs.loop (fun x : ((List Int) × Int) => mz_Write_l39 x_ x.1 r_2 x_.Relocs (x_.Relocs.length : Int) x.2) (fun (x : ((List Int) × Int)) (g : Nat) => mz_Write_h39 x_ x.1 r_2 x_.Relocs (x_.Relocs.length : Int) x.2 g) (mz_Write_P39 x_ x_ r_2 x_.Relocs (x_.Relocs.length : Int)) (fun x g r hr => mz_Write_l39_ok x_ x_ x.1 r_2 x_.Relocs (x_.Relocs.length : Int) x.2 g r hr) g_1 he_2 Cz ?_
  rintro ⟨o, s⟩ hp
  obtain ⟨ho, g_2, hk_2⟩ := hp
  have ho' : o = .exit 2 := ho
  subst ho'
  refine kB_hit <| kS_nrm <| Runs.canon _ hk_2 <| Sq <| Ro <| Rc 3 [⟨.ref [53] g_2 0 (mY e_2).length 1, []⟩, vi r_2, ⟨.ref [53] g_2 0 (mY e_2).length 1, []⟩] <| Rt (some 89) .lenL [] none [.ref [53] g_2 0 (mY e_2).length 1] (.i (e_2.length : Int)) [] (cut_lenR (e := (D.int .u8)) e_2 rfl) <| Rc 1 [vi (IntKind.wrap .i64 (r_2 - (e_2.length : Int)))] ?_
  obtain ⟨z_1, hz_1, h⟩ := bind_s h
  refine Rt (some 91) (.appmk (.int .u8 0) 1) [] none [.ref [53] g_2 0 (mY e_2).length 1, .i (IntKind.wrap .i64 (r_2 - (e_2.length : Int)))] (.ref [53] (g_2 + 1) 0 (mY z_1).length 1) [([53], some (.arr (mY z_1) (g_2 + 1) false))] (cut_apzR (e := (D.int .u8)) (l := e_2) (z := 0) (fz := false) hz_1 rfl (by kernel_rfl) (by kernel_rfl) rfl) <| Rc 1 [⟨.ref [53] (g_2 + 1) 0 (mY z_1).length 1, []⟩] <| Rk <| Sq <| Ro <| Rc 3 [⟨.ref [53] (g_2 + 1) 0 (mY z_1).length 1, []⟩, vp [1] 0 0, ⟨.d (.sl (mY x_.Bytes)), []⟩] ?_
  obtain ⟨z_2, hz_2, h⟩ := bind_s h
  refine Rt (some 95) (.append 1 1 false) [] none [.ref [53] (g_2 + 1) 0 (mY z_1).length 1, .d (.sl (mY x_.Bytes))] (.ref [53] ((g_2 + 1) + 1) 0 (mY z_2).length 1) [([53], some (.arr (mY z_2) ((g_2 + 1) + 1) false))] (cut_appR (e := (D.int .u8)) (l := z_1) (fz := false) (ws := []) (ap_data _) (fun _ => rfl) hz_2 (by kernel_rfl) (by kernel_rfl) rfl) <| Rc 2 [⟨.ref [53] ((g_2 + 1) + 1) 0 (mY z_2).length 1, []⟩, vi 0] <| Rk <| Sq <| Runs.gcons (frz_ref (e := (D.int .u8)) (l := z_2) (id := [53]) (v := ((g_2 + 1) + 1)) (n := 1) (fz := false) (by kernel_rfl) (by kernel_rfl) rfl) <| Runs.gnil <| kS_nrm <| Runs.ret ?_
  cases h
  exact Fq
theorem mz_Write_L (x_ : Image) (r : ((List Int) × Int)) (h : mz_Write x_ = some r) : L 31 [.d (Image.d x_)] = some (.tup [.d (.sl (mY r.1)), .i r.2], [.d (Image.d x_)]) := by
 obtain ⟨p, ⟨hne, hf⟩, hr⟩ := mz_Write_ok x_ r h
 obtain ⟨k, hk⟩ := run_of (F := F31) (args := [.d (Image.d x_)]) (ap := [.d (Image.d x_)]) (bx0 := updW (fun _ => none) []) rfl rfl (by kernel_rfl) ⟨p, ⟨hne, hf⟩, hr⟩
 exact lim_run (k := k) rfl hk
def hansomref44_Same_h14 (a2 : Image) (b3 : Image) (i5 : Int) : St := ⟨tab [(2, .ptr [2] 0 0), (3, .ptr [3] 0 0), (5, .i i5)], tabB [([2], some (.cells [.d (.sl (mY a2.Bytes)), .d (.sl (List.map (D.int .i64) a2.Relocs)), .w a2.CS, .w a2.IP, .w a2.SS, .w a2.SP, .i a2.Min] 0)), ([3], some (.cells [.d (.sl (mY b3.Bytes)), .d (.sl (List.map (D.int .i64) b3.Relocs)), .w b3.CS, .w b3.IP, .w b3.SS, .w b3.SP, .i b3.Min] 0))]⟩
def hansomref44_Same_h31  : St := ⟨tab [], tabB []⟩
def hansomref44_Same_Q (a_ : Image) (b_ : Image) (r : Bool) (p : Out × St) : Prop := (∀ i, p.1 ≠ .exit i) ∧ finF F35 [.d (Image.d a_), .d (Image.d b_)] p.2 = some (.b r, [.d (Image.d a_), .d (Image.d b_)])
def hansomref44_Same_P14 (a_ : Image) (b_ : Image) (a2 : Image) (b3 : Image) (e : (Bool ⊕ Unit)) (p : Out × St) : Prop := match e with
 | .inl x => p.1 = .ret ∧ finF F35 [.d (Image.d a_), .d (Image.d b_)] p.2 = some (.b x, [.d (Image.d a_), .d (Image.d b_)])
 | .inr x => p.1 = .exit 0 ∧ ∃ g : Unit, Canon [] [] [] p.2 (hansomref44_Same_h31)
theorem hansomref44_Same_l14_ok (a_ : Image) (b_ : Image) (a2 : Image) (b3 : Image) (i5 : Int) (r : (Lp Int (Bool ⊕ Unit))) (h : hansomref44_Same_l14 a2 b3 i5 = some r) : Runs L F35l14 (hansomref44_Same_h14 a2 b3 i5) (LQ [] [2, 3, 5] [[2], [3]] (fun (x : Int) (g : Unit) => hansomref44_Same_h14 a2 b3 x) (hansomref44_Same_P14 a_ b_ a2 b3) r) := by
 unfold hansomref44_Same_l14 at h
 refine Sq <| Sq <| Ro <| Rc 3 [vi i5, vp [2] 0 1, ⟨.d (.sl (List.map (D.int .i64) a2.Relocs)), []⟩] <| Rt (some 60) .lenL [] none [.d (.sl (List.map (D.int .i64) a2.Relocs))] (.i (a2.Relocs.length : Int)) [] (cut_len _) <| Rc 1 [vb (decide (i5 < (a2.Relocs.length : Int)))] <| Rk ?_
 cases hb_8 : ((decide (i5 < (a2.Relocs.length : Int))) : Bool) with
 | true =>
  replace h := ite_t hb_8 h
  refine Ct <| Runs.skip <| kS_nrm <| Sq <| Runs.block <| Sq <| Ro <| Rc 3 [vp [2] 0 1, ⟨.d (.sl (List.map (D.int .i64) a2.Relocs)), []⟩, vi i5] ?_
  obtain ⟨z_1, hz_1, h⟩ := bind_s h
  refine Rt (some 67) (.iaddrS 1) [] none [.d (.sl (List.map (D.int .i64) a2.Relocs)), .i i5] (.elt (.int .i64 z_1) 0) [] (cut_at hz_1 (fun _ => rfl)) <| Rc 4 [vi z_1, vp [3] 0 1, ⟨.d (.sl (List.map (D.int .i64) b3.Relocs)), []⟩, vi i5] ?_
  obtain ⟨z_2, hz_2, h⟩ := bind_s h
  refine Rt (some 72) (.iaddrS 1) [] none [.d (.sl (List.map (D.int .i64) b3.Relocs)), .i i5] (.elt (.int .i64 z_2) 0) [] (cut_at hz_2 (fun _ => rfl)) <| Rc 2 [vi z_2, vb (z_1 != z_2)] <| Rk ?_
  cases hb_9 : ((z_1 != z_2) : Bool) with
  | true =>
   replace h := ite_t hb_9 h
   refine Ct <| Sq <| Ro <| Rc 1 [vb false] <| Rk <| Runs.ret <| kB_ret <| kS_ret ?_
   obtain rfl := sj h
   exact ⟨nofun, rfl, (by kernel_rfl)⟩
  | false =>
   replace h := ite_f hb_9 h
   refine Cf <| Runs.skip <| kB_nrm <| kS_nrm <| Ro <| Rc 3 [vi i5, vi (IntKind.wrap .i64 (i5 + 1)), vi (IntKind.wrap .i64 (i5 + 1))] <| Rd ?_
   obtain rfl := sj h
   exact ⟨rfl, (), Cz⟩
 | false =>
  replace h := ite_f hb_8 h
  refine Cf <| Runs.exit <| kS_exit ?_
  obtain rfl := sj h
  exact ⟨nofun, rfl, (), Cz⟩
theorem hansomref44_Same_ok (a_ : Image) (b_ : Image) (r : Bool) (h : hansomref44_Same a_ b_ = some r) : Runs L F35.body ⟨tmOf [.d (Image.d a_), .d (Image.d b_)] 0, updW (fun _ => none) []⟩ (hansomref44_Same_Q a_ b_ r) := by
 unfold hansomref44_Same at h
 refine Sq <| Ro <| Rc 3 [⟨.ptr [2] 0 0, [([2], some (.cells [.d (.sl (mY a_.Bytes)), .d (.sl (List.map (D.int .i64) a_.Relocs)), .w a_.CS, .w a_.IP, .w a_.SS, .w a_.SP, .i a_.Min] 0))]⟩, ⟨.ptr [3] 0 0, [([3], some (.cells [.d (.sl (mY b_.Bytes)), .d (.sl (List.map (D.int .i64) b_.Relocs)), .w b_.CS, .w b_.IP, .w b_.SS, .w b_.SP, .i b_.Min] 0))]⟩, vb false] <| Rk <| Sq <| Sq <| Ro <| Rc 2 [vp [2] 0 0, ⟨.d (.sl (mY a_.Bytes)), []⟩] <| Rt (some 8) .bytesStr [] none [.d (.sl (mY a_.Bytes))] (.d (.str (b2s a_.Bytes))) [] (cut_bs _) <| Rc 2 [vp [3] 0 0, ⟨.d (.sl (mY b_.Bytes)), []⟩] <| Rt (some 11) .bytesStr [] none [.d (.sl (mY b_.Bytes))] (.d (.str (b2s b_.Bytes))) [] (cut_bs _) <| Rc 2 [vb ((b2s a_.Bytes) != (b2s b_.Bytes)), vb ((b2s a_.Bytes) != (b2s b_.Bytes))] ?_
 cases hb_1 : (((b2s a_.Bytes) != (b2s b_.Bytes)) : Bool) with
 | true =>
  replace h := ite_t hb_1 h
  refine Rc 43 [vn, vn, vn, vn, vn, vn, vn, vb true, vb true, vn, vn, vn, vn, vn, vb true, vb true, vn, vn, vn, vn, vn, vb true, vb true, vn, vn, vn, vn, vn, vb true, vb true, vn, vn, vn, vn, vn, vb true, vb true, vn, vn, vn, vn, vn, vb true] <| Rk <| Ct <| Sq <| Ro <| Rc 1 [vb false] <| Rk <| Runs.ret <| kS_ret ?_
  cases h
  exact Fq
 | false =>
  replace h := ite_f hb_1 h
  refine Rc 2 [vp [2] 0 1, ⟨.d (.sl (List.map (D.int .i64) a_.Relocs)), []⟩] <| Rt (some 16) .lenL [] none [.d (.sl (List.map (D.int .i64) a_.Relocs))] (.i (a_.Relocs.length : Int)) [] (cut_len _) <| Rc 2 [vp [3] 0 1, ⟨.d (.sl (List.map (D.int .i64) b_.Relocs)), []⟩] <| Rt (some 19) .lenL [] none [.d (.sl (List.map (D.int .i64) b_.Relocs))] (.i (b_.Relocs.length : Int)) [] (cut_len _) <| Rc 3 [vb ((a_.Relocs.length : Int) != (b_.Relocs.length : Int)), vb ((a_.Relocs.length : Int) != (b_.Relocs.length : Int)), vb ((a_.Relocs.length : Int) != (b_.Relocs.length : Int))] ?_
  cases hb_2 : (((a_.Relocs.length : Int) != (b_.Relocs.length : Int)) : Bool) with
  | true =>
   replace h := ite_t hb_2 h
   refine Rc 34 [vn, vn, vn, vn, vn, vb true, vb true, vn, vn, vn, vn, vn, vb true, vb true, vn, vn, vn, vn, vn, vb true, vb true, vn, vn, vn, vn, vn, vb true, vb true, vn, vn, vn, vn, vn, vb true] <| Rk <| Ct <| Sq <| Ro <| Rc 1 [vb false] <| Rk <| Runs.ret <| kS_ret ?_
   cases h
   exact Fq
  | false =>
   replace h := ite_f hb_2 h
   refine Rc 7 [vp [2] 0 2, vw a_.CS, vp [3] 0 2, vw b_.CS, vb (a_.CS != b_.CS), vb (a_.CS != b_.CS), vb (a_.CS != b_.CS)] ?_
   cases hb_3 : ((a_.CS != b_.CS) : Bool) with
   | true =>
    replace h := ite_t hb_3 h
    refine Rc 27 [vn, vn, vn, vn, vn, vb true, vb true, vn, vn, vn, vn, vn, vb true, vb true, vn, vn, vn, vn, vn, vb true, vb true, vn, vn, vn, vn, vn, vb true] <| Rk <| Ct <| Sq <| Ro <| Rc 1 [vb false] <| Rk <| Runs.ret <| kS_ret ?_
    cases h
    exact Fq
   | false =>
    replace h := ite_f hb_3 h
    refine Rc 7 [vp [2] 0 3, vw a_.IP, vp [3] 0 3, vw b_.IP, vb (a_.IP != b_.IP), vb (a_.IP != b_.IP), vb (a_.IP != b_.IP)] ?_
    cases hb_4 : ((a_.IP != b_.IP) : Bool) with
    | true =>
     replace h := ite_t hb_4 h
     refine Rc 20 [vn, vn, vn, vn, vn, vb true, vb true, vn, vn, vn, vn, vn, vb true, vb true, vn, vn, vn, vn, vn, vb true] <| Rk <| Ct <| Sq <| Ro <| Rc 1 [vb false] <| Rk <| Runs.ret <| kS_ret ?_
     cases h
     exact Fq
    | false =>
     replace h := ite_f hb_4 h
     refine Rc 7 [vp [2] 0 4, vw a_.SS, vp [3] 0 4, vw b_.SS, vb (a_.SS != b_.SS), vb (a_.SS != b_.SS), vb (a_.SS != b_.SS)] ?_
     cases hb_5 : ((a_.SS != b_.SS) : Bool) with
     | true =>
      replace h := ite_t hb_5 h
      refine Rc 13 [vn, vn, vn, vn, vn, vb true, vb true, vn, vn, vn, vn, vn, vb true] <| Rk <| Ct <| Sq <| Ro <| Rc 1 [vb false] <| Rk <| Runs.ret <| kS_ret ?_
      cases h
      exact Fq
     | false =>
      replace h := ite_f hb_5 h
      refine Rc 7 [vp [2] 0 5, vw a_.SP, vp [3] 0 5, vw b_.SP, vb (a_.SP != b_.SP), vb (a_.SP != b_.SP), vb (a_.SP != b_.SP)] ?_
      cases hb_6 : ((a_.SP != b_.SP) : Bool) with
      | true =>
       replace h := ite_t hb_6 h
       refine Rc 6 [vn, vn, vn, vn, vn, vb true] <| Rk <| Ct <| Sq <| Ro <| Rc 1 [vb false] <| Rk <| Runs.ret <| kS_ret ?_
       cases h
       exact Fq
      | false =>
       replace h := ite_f hb_6 h
       refine Rc 6 [vp [2] 0 6, vi a_.Min, vp [3] 0 6, vi b_.Min, vb (a_.Min != b_.Min), vb (a_.Min != b_.Min)] <| Rk ?_
       cases hb_7 : ((a_.Min != b_.Min) : Bool) with
       | true =>
        replace h := ite_t hb_7 h
        refine Ct <| Sq <| Ro <| Rc 1 [vb false] <| Rk <| Runs.ret <| kS_ret ?_
        cases h
        exact Fq
       | false =>
        replace h := ite_f hb_7 h
        refine Cf <| Runs.skip <| kS_nrm <| Sq <| Sq <| Ro <| Rc 1 [vi 0] <| Rk <| Runs.block ?_
        obtain ⟨e_1, he_1, h⟩ := bind_s h
        refine Runs.loop (fun x : Int => hansomref44_Same_l14 a_ b_ x) (fun (x : Int) (g : Unit) => hansomref44_Same_h14 a_ b_ x) (hansomref44_Same_P14 a_ b_ a_ b_) (fun x g r hr => hansomref44_Same_l14_ok a_ b_ a_ b_ x  r hr) () he_1 Cz ?_
        rintro ⟨o, s⟩ hp
        cases e_1 with
        | inl e_2 =>
         obtain ⟨ho, hf⟩ := hp
         have ho' : o = .ret := ho
         subst ho'
         refine kB_ret <| kS_ret ?_
         obtain rfl := sj h
         exact ⟨Out.ret_ne, hf⟩
        | inr e_3 =>
         obtain ⟨ho, g_1, hk_1⟩ := hp
         have ho' : o = .exit 0 := ho
         subst ho'
         refine kB_hit <| kS_nrm <| Runs.canon _ hk_1 <| Sq <| Ro <| Rc 1 [vb true] <| Rk <| Runs.ret ?_
         cases h
         exact Fq
theorem hansomref44_Same_L (a_ : Image) (b_ : Image) (r : Bool) (h : hansomref44_Same a_ b_ = some r) : L 35 [.d (Image.d a_), .d (Image.d b_)] = some (.b r, [.d (Image.d a_), .d (Image.d b_)]) := by
 obtain ⟨p, ⟨hne, hf⟩, hr⟩ := hansomref44_Same_ok a_ b_ r h
 obtain ⟨k, hk⟩ := run_of (F := F35) (args := [.d (Image.d a_), .d (Image.d b_)]) (ap := [.d (Image.d a_), .d (Image.d b_)]) (bx0 := updW (fun _ => none) []) rfl rfl (by kernel_rfl) ⟨p, ⟨hne, hf⟩, hr⟩
 exact lim_run (k := k) rfl hk
def hansomlaw44_MzAny_h14 (s7 : (List Int)) : St := ⟨tab [(7, .d (.sl (mY s7)))], tabB []⟩
def hansomlaw44_MzAny_Q (x_ : Image) (at_ : (A2 Int)) (by_ : (List Int)) (r : Bool) (p : Out × St) : Prop := (∀ i, p.1 ≠ .exit i) ∧ finF F8 [.d (Image.d x_), .d (.agg [.int .i64 at_.a0, .int .i64 at_.a1]), .d (.sl (mY by_))] p.2 = some (.b r, [.d (Image.d x_), .d (.agg [.int .i64 at_.a0, .int .i64 at_.a1]), .d (.sl (mY by_))])
theorem hansomlaw44_MzAny_j14_ok (x_ : Image) (at_ : (A2 Int)) (by_ : (List Int)) (s7 : (List Int)) (r : Bool) (h : hansomlaw44_MzAny_j14 s7 = some r) : Runs L F8b14 (hansomlaw44_MzAny_h14 s7) (hansomlaw44_MzAny_Q x_ at_ by_ r) := by
 unfold hansomlaw44_MzAny_j14 at h
 refine Sq <| Ro <| Rc 1 [⟨.d (.sl (mY s7)), []⟩] ?_
 obtain ⟨r_3, hr_3, h⟩ := bind_s h
 have hc_3 := mz_Read_L s7 r_3 hr_3
 refine Rt (some 50) (.callf 32) [] none [.d (.sl (mY s7))] (.tup [.d (Image.d r_3.1), .i r_3.2]) [] (cc hc_3) <| Rc 6 [⟨.tup [.d (Image.d r_3.1), .i r_3.2], []⟩, ⟨.d (Image.d r_3.1), []⟩, vi r_3.2, ⟨.ptr [9] 0 0, [([9], some (.cells [.nils, .nils, .w 0, .w 0, .w 0, .w 0, .i 0] 0))]⟩, ⟨.tup [], [([9], some (.cells [.d (.sl (mY r_3.1.Bytes)), .d (.sl (List.map (D.int .i64) r_3.1.Relocs)), .w r_3.1.CS, .w r_3.1.IP, .w r_3.1.SS, .w r_3.1.SP, .i r_3.1.Min] 0))]⟩, vi r_3.2] <| Rk <| Sq <| Sq <| Ro <| Rc 2 [vi r_3.2, vb (r_3.2 != 0)] <| Rk ?_
 cases hb_2 : ((r_3.2 != 0) : Bool) with
 | true =>
  replace h := ite_t hb_2 h
  refine Ct <| Sq <| Ro ?_
  obtain ⟨r_4, hr_4, h⟩ := bind_s h
  have hc_4 := hansomlaw44_awake_L r_4 hr_4
  refine Rt (some 55) (.callf 33) [] none [] (.b r_4) [] (cc hc_4) <| Rc 1 [vb r_4] ?_
  cases hb_3 : (r_4 : Bool) with
  | true =>
   replace h := ite_t hb_3 h
   refine Rc 2 [vp [9] 0 0, ⟨.d (.sl (mY r_3.1.Bytes)), []⟩] <| Rt (some 59) .lenL [] none [.d (.sl (mY r_3.1.Bytes))] (.i (r_3.1.Bytes.length : Int)) [] (cut_len _) <| Rc 2 [vp [9] 0 1, ⟨.d (.sl (List.map (D.int .i64) r_3.1.Relocs)), []⟩] <| Rt (some 62) .lenL [] none [.d (.sl (List.map (D.int .i64) r_3.1.Relocs))] (.i (r_3.1.Relocs.length : Int)) [] (cut_len _) <| Rc 4 [vi (IntKind.wrap .i64 ((r_3.1.Bytes.length : Int) + (r_3.1.Relocs.length : Int))), vb ((IntKind.wrap .i64 ((r_3.1.Bytes.length : Int) + (r_3.1.Relocs.length : Int))) == 0), vb ((IntKind.wrap .i64 ((r_3.1.Bytes.length : Int) + (r_3.1.Relocs.length : Int))) == 0), vb ((IntKind.wrap .i64 ((r_3.1.Bytes.length : Int) + (r_3.1.Relocs.length : Int))) == 0)] ?_
   cases hb_4 : (((IntKind.wrap .i64 ((r_3.1.Bytes.length : Int) + (r_3.1.Relocs.length : Int))) == 0) : Bool) with
   | true =>
    replace h := ite_t hb_4 h
    refine Rc 3 [vi r_3.2, vb (r_3.2 == 2), vb (r_3.2 == 2)] ?_
    cases hb_5 : ((r_3.2 == 2) : Bool) with
    | true =>
     replace h := ite_t hb_5 h
     refine Rc 13 [vn, vn, vb true, vb true, vn, vn, vb true, vb true, vn, vn, vb true, vb true, vb true] <| Rk <| Runs.ret <| kS_ret ?_
     cases h
     exact Fq
    | false =>
     replace h := ite_f hb_5 h
     refine Rc 4 [vi r_3.2, vb (r_3.2 == 440), vb (r_3.2 == 440), vb (r_3.2 == 440)] ?_
     cases hb_6 : ((r_3.2 == 440) : Bool) with
     | true =>
      replace h := ite_t hb_6 h
      refine Rc 9 [vn, vn, vb true, vb true, vn, vn, vb true, vb true, vb true] <| Rk <| Runs.ret <| kS_ret ?_
      cases h
      exact Fq
     | false =>
      replace h := ite_f hb_6 h
      refine Rc 4 [vi r_3.2, vb (r_3.2 == 3), vb (r_3.2 == 3), vb (r_3.2 == 3)] ?_
      cases hb_7 : ((r_3.2 == 3) : Bool) with
      | true =>
       replace h := ite_t hb_7 h
       refine Rc 5 [vn, vn, vb true, vb true, vb true] <| Rk <| Runs.ret <| kS_ret ?_
       cases h
       exact Fq
      | false =>
       replace h := ite_f hb_7 h
       refine Rc 5 [vi r_3.2, vb (r_3.2 == 8), vb (r_3.2 == 8), vb (r_3.2 == 8), vb (r_3.2 == 8)] <| Rk <| Runs.ret <| kS_ret ?_
       cases h
       exact Fq
   | false =>
    replace h := ite_f hb_4 h
    refine Rc 16 [vn, vn, vn, vn, vn, vn, vn, vn, vn, vn, vn, vn, vn, vn, vb false, vb false] <| Rk <| Runs.ret <| kS_ret ?_
    cases h
    exact Fq
  | false =>
   replace h := ite_f hb_3 h
   refine Rc 26 [vn, vn, vn, vn, vn, vn, vn, vn, vb false, vb false, vn, vn, vn, vn, vn, vn, vn, vn, vn, vn, vn, vn, vn, vn, vb false, vb false] <| Rk <| Runs.ret <| kS_ret ?_
   cases h
   exact Fq
 | false =>
  replace h := ite_f hb_2 h
  refine Cf <| Runs.skip <| kS_nrm <| Sq <| Ro <| Rc 1 [⟨.d (Image.d r_3.1), []⟩] ?_
  obtain ⟨r_5, hr_5, h⟩ := bind_s h
  have hc_5 := mz_Write_L r_3.1 r_5 hr_5
  refine Rt (some 84) (.callf 31) [] none [.d (Image.d r_3.1)] (.tup [.d (.sl (mY r_5.1)), .i r_5.2]) [] (cc hc_5) <| Rc 5 [⟨.tup [.d (.sl (mY r_5.1)), .i r_5.2], []⟩, ⟨.d (.sl (mY r_5.1)), []⟩, vi r_5.2, ⟨.d (.sl (mY r_5.1)), []⟩, vi r_5.2] <| Rk <| Sq <| Ro <| Rc 1 [⟨.d (.sl (mY r_5.1)), []⟩] ?_
  obtain ⟨r_6, hr_6, h⟩ := bind_s h
  have hc_6 := mz_Read_L r_5.1 r_6 hr_6
  refine Rt (some 89) (.callf 32) [] none [.d (.sl (mY r_5.1))] (.tup [.d (Image.d r_6.1), .i r_6.2]) [] (cc hc_6) <| Rc 6 [⟨.tup [.d (Image.d r_6.1), .i r_6.2], []⟩, ⟨.d (Image.d r_6.1), []⟩, vi r_6.2, ⟨.ptr [13] 0 0, [([13], some (.cells [.nils, .nils, .w 0, .w 0, .w 0, .w 0, .i 0] 0))]⟩, ⟨.tup [], [([13], some (.cells [.d (.sl (mY r_6.1.Bytes)), .d (.sl (List.map (D.int .i64) r_6.1.Relocs)), .w r_6.1.CS, .w r_6.1.IP, .w r_6.1.SS, .w r_6.1.SP, .i r_6.1.Min] 0))]⟩, vi r_6.2] <| Rk <| Sq <| Ro ?_
  obtain ⟨r_7, hr_7, h⟩ := bind_s h
  have hc_7 := hansomlaw44_awake_L r_7 hr_7
  refine Rt (some 92) (.callf 33) [] none [] (.b r_7) [] (cc hc_7) <| Rc 1 [vb r_7] ?_
  cases hb_8 : (r_7 : Bool) with
  | true =>
   replace h := ite_t hb_8 h
   refine Rc 1 [⟨.d (Image.d r_3.1), []⟩] ?_
   obtain ⟨r_8, hr_8, h⟩ := bind_s h
   have hc_8 := mz_May_L r_3.1 r_8 hr_8
   refine Rt (some 95) (.callf 34) [] none [.d (Image.d r_3.1)] (.b r_8) [] (cc hc_8) <| Rc 2 [vb r_8, vb r_8] ?_
   cases hb_9 : (r_8 : Bool) with
   | true =>
    replace h := ite_t hb_9 h
    refine Rc 4 [vi r_5.2, vb (r_5.2 == 0), vb (r_5.2 == 0), vb (r_5.2 == 0)] ?_
    cases hb_10 : ((r_5.2 == 0) : Bool) with
    | true =>
     replace h := ite_t hb_10 h
     refine Rc 4 [vi r_6.2, vb (r_6.2 == 0), vb (r_6.2 == 0), vb (r_6.2 == 0)] ?_
     cases hb_11 : ((r_6.2 == 0) : Bool) with
     | true =>
      replace h := ite_t hb_11 h
      refine Rc 2 [⟨.d (Image.d r_3.1), []⟩, ⟨.d (Image.d r_6.1), []⟩] ?_
      obtain ⟨r_9, hr_9, h⟩ := bind_s h
      have hc_9 := hansomref44_Same_L r_3.1 r_6.1 r_9 hr_9
      refine Rt (some 108) (.callf 35) [] none [.d (Image.d r_3.1), .d (Image.d r_6.1)] (.b r_9) [] (cc hc_9) <| Rc 2 [vb r_9, vb r_9] ?_
      cases hb_12 : (r_9 : Bool) with
      | true =>
       replace h := ite_t hb_12 h
       refine Rc 2 [vp [9] 0 0, ⟨.d (.sl (mY r_3.1.Bytes)), []⟩] <| Rt (some 113) .lenL [] none [.d (.sl (mY r_3.1.Bytes))] (.i (r_3.1.Bytes.length : Int)) [] (cut_len _) <| Rc 1 [⟨.d (.sl (mY s7)), []⟩] <| Rt (some 115) .lenL [] none [.d (.sl (mY s7))] (.i (s7.length : Int)) [] (cut_len _) <| Rc 3 [vb (decide ((r_3.1.Bytes.length : Int) ≤ (s7.length : Int))), vb (decide ((r_3.1.Bytes.length : Int) ≤ (s7.length : Int))), vb (decide ((r_3.1.Bytes.length : Int) ≤ (s7.length : Int)))] <| Rk <| Runs.ret ?_
       cases h
       exact Fq
      | false =>
       replace h := ite_f hb_12 h
       refine Rc 8 [vn, vn, vn, vn, vn, vn, vb false, vb false] <| Rk <| Runs.ret ?_
       cases h
       exact Fq
     | false =>
      replace h := ite_f hb_11 h
      refine Rc 13 [vn, vn, vn, vb false, vb false, vn, vn, vn, vn, vn, vn, vb false, vb false] <| Rk <| Runs.ret ?_
      cases h
      exact Fq
    | false =>
     replace h := ite_f hb_10 h
     refine Rc 17 [vn, vn, vb false, vb false, vn, vn, vn, vb false, vb false, vn, vn, vn, vn, vn, vn, vb false, vb false] <| Rk <| Runs.ret ?_
     cases h
     exact Fq
   | false =>
    replace h := ite_f hb_9 h
    refine Rc 21 [vn, vn, vb false, vb false, vn, vn, vb false, vb false, vn, vn, vn, vb false, vb false, vn, vn, vn, vn, vn, vn, vb false, vb false] <| Rk <| Runs.ret ?_
    cases h
    exact Fq
  | false =>
   replace h := ite_f hb_8 h
   refine Rc 25 [vn, vn, vb false, vb false, vn, vn, vb false, vb false, vn, vn, vb false, vb false, vn, vn, vn, vb false, vb false, vn, vn, vn, vn, vn, vn, vb false, vb false] <| Rk <| Runs.ret ?_
   cases h
   exact Fq
theorem hansomlaw44_MzAny_ok (x_ : Image) (at_ : (A2 Int)) (by_ : (List Int)) (r : Bool) (h : hansomlaw44_MzAny x_ at_ by_ = some r) : Runs L F8.body ⟨tmOf [.d (Image.d x_), .d (.agg [.int .i64 at_.a0, .int .i64 at_.a1]), .d (.sl (mY by_))] 0, updW (fun _ => none) []⟩ (hansomlaw44_MzAny_Q x_ at_ by_ r) := by
 unfold hansomlaw44_MzAny at h
 refine Sq <| Ro <| Rc 3 [⟨.ptr [3] 0 0, [([3], some (.cells [.d (.sl (mY x_.Bytes)), .d (.sl (List.map (D.int .i64) x_.Relocs)), .w x_.CS, .w x_.IP, .w x_.SS, .w x_.SP, .i x_.Min] 0))]⟩, ⟨.ptr [4] 0 0, [([4], some (.cells [.i at_.a0, .i at_.a1] 0))]⟩, vb false] <| Rk <| Sq <| Ro <| Rc 1 [⟨.d (Image.d x_), []⟩] ?_
 obtain ⟨r_1, hr_1, h⟩ := bind_s h
 have hc_1 := hansomref44_Near_L x_ r_1 hr_1
 refine Rt (some 16) (.callf 29) [] none [.d (Image.d x_)] (.d (Image.d r_1)) [] (cc hc_1) ?_
 obtain ⟨r_2, hr_2, h⟩ := bind_s h
 have hc_2 := hansomref44_Write_L r_1 r_2 hr_2
 refine Rt (some 17) (.callf 30) [] none [.d (Image.d r_1)] (.d (.str r_2)) [] (cc hc_2) <| Rt (some 18) .strBytes [] none [.d (.str r_2)] (.ref [18] 0 0 (mY (s2b r_2)).length 1) [([18], some (.arr (mY (s2b r_2)) 0 false))] (cut_sb _ (by kernel_rfl)) <| Rc 1 [⟨.ref [18] 0 0 (mY (s2b r_2)).length 1, []⟩] <| Rk <| Sq <| Ro <| Rc 4 [vp [4] 0 0, vi at_.a0, vi (bitsOp .and .i64 at_.a0 255), ⟨.ref [18] 0 0 (mY (s2b r_2)).length 1, []⟩] <| Rt (some 23) .lenL [] none [.ref [18] 0 0 (mY (s2b r_2)).length 1] (.i ((s2b r_2).length : Int)) [] (cut_lenR (e := (D.int .u8)) (s2b r_2) rfl) <| Rc 1 [vi (mnI ((s2b r_2).length : Int) 48)] ?_
 obtain ⟨z_1, hz_1, h⟩ := bind_s h
 refine Rt (some 25) (.bin .rem) [] none [.i (bitsOp .and .i64 at_.a0 255), .i (mnI ((s2b r_2).length : Int) 48)] (.i z_1) [] (cut_rem hz_1) <| Rc 1 [vi z_1] <| Rk <| Sq <| Ro <| Rc 2 [⟨.ref [18] 0 0 (mY (s2b r_2)).length 1, []⟩, vi z_1] ?_
 obtain ⟨z_2, hz_2, h⟩ := bind_s h
 refine Rt (some 28) (.iaddrS 1) [] none [.ref [18] 0 0 (mY (s2b r_2)).length 1, .i z_1] (.eref [18] 0 (0 + (z_1).toNat) 0) [] (cut_atR (e := (D.int .u8)) (l := (s2b r_2)) hz_2 rfl) <| Rt (some 29) (.load none) [] none [.eref [18] 0 (0 + (z_1).toNat) 0] (.y z_2) [] (cut_loadR (e := (D.int .u8)) (l := (s2b r_2)) (fz := false) (y := z_2) (by kernel_rfl) hz_2 (by kernel_rfl) (by kernel_rfl)) <| Rc 7 [vp [4] 0 1, vi at_.a1, vi (bitsOp .and .i64 at_.a1 255), vi (Int.tmod (bitsOp .and .i64 at_.a1 255) 255), vi (IntKind.wrap .i64 ((Int.tmod (bitsOp .and .i64 at_.a1 255) 255) + 1)), vy (IntKind.wrap .u8 (IntKind.wrap .i64 ((Int.tmod (bitsOp .and .i64 at_.a1 255) 255) + 1))), vy (bitsOp .xor .u8 z_2 (IntKind.wrap .u8 (IntKind.wrap .i64 ((Int.tmod (bitsOp .and .i64 at_.a1 255) 255) + 1))))] ?_
 obtain ⟨z_3, hz_3, h⟩ := bind_s h
 refine Rt (some 37) (.iaddrS 1) [] none [.ref [18] 0 0 (mY (s2b r_2)).length 1, .i z_1] (.eref [18] 0 (0 + (z_1).toNat) 0) [] (cut_atR (e := (D.int .u8)) (l := (s2b r_2)) hz_3 rfl) <| Rt none (.store 1) [] none [.eref [18] 0 (0 + (z_1).toNat) 0, .y (bitsOp .xor .u8 z_2 (IntKind.wrap .u8 (IntKind.wrap .i64 ((Int.tmod (bitsOp .and .i64 at_.a1 255) 255) + 1))))] (.tup []) [([18], some (.arr (mY (List.set (s2b r_2) (z_1).toNat (bitsOp .xor .u8 z_2 (IntKind.wrap .u8 (IntKind.wrap .i64 ((Int.tmod (bitsOp .and .i64 at_.a1 255) 255) + 1)))))) 0 false))] (cut_setR (e := (D.int .u8)) (l := (s2b r_2)) (y := z_3) (y' := (bitsOp .xor .u8 z_2 (IntKind.wrap .u8 (IntKind.wrap .i64 ((Int.tmod (bitsOp .and .i64 at_.a1 255) 255) + 1))))) (ds := [.int .u8 (bitsOp .xor .u8 z_2 (IntKind.wrap .u8 (IntKind.wrap .i64 ((Int.tmod (bitsOp .and .i64 at_.a1 255) 255) + 1))))]) (by kernel_rfl) hz_3 (by kernel_rfl) (by kernel_rfl) (by kernel_rfl) (by kernel_rfl)) <| Rk <| Sq <| Sq <| Ro <| Rc 5 [vp [4] 0 1, vi at_.a1, vi (shrI .i64 at_.a1 8), vi (bitsOp .and .i64 (shrI .i64 at_.a1 8) 7), vb ((bitsOp .and .i64 (shrI .i64 at_.a1 8) 7) == 0)] <| Rk ?_
 cases hb_1 : (((bitsOp .and .i64 (shrI .i64 at_.a1 8) 7) == 0) : Bool) with
 | true =>
  replace h := ite_t hb_1 h
  refine Ct <| Ro <| Rc 2 [⟨.d (.sl (mY by_)), []⟩, ⟨.d (.sl (mY by_)), []⟩] <| Rt (some 45) .lenL [] none [.d (.sl (mY by_))] (.i (by_.length : Int)) [] (cut_len _) <| Rc 1 [vi (mnI (by_.length : Int) 80)] ?_
  obtain ⟨z_4, hz_4, h⟩ := bind_s h
  refine Rt (some 47) (.subsl 1 false true false) [] none [.d (.sl (mY by_)), .i (mnI (by_.length : Int) 80)] (.d (.sl (mY z_4))) [] (cut_slFT hz_4 (fun _ => rfl)) <| Rc 1 [⟨.d (.sl (mY z_4)), []⟩] <| Rk <| Runs.canon (hansomlaw44_MzAny_h14 z_4) (Canon.same (by kernel_rfl) Cz) ?_
  exact hansomlaw44_MzAny_j14_ok x_ at_ by_ z_4 r h
 | false =>
  replace h := ite_f hb_1 h
  refine Cf <| Runs.skip <| kS_nrm <| Runs.canon (hansomlaw44_MzAny_h14 (List.set (s2b r_2) (z_1).toNat (bitsOp .xor .u8 z_2 (IntKind.wrap .u8 (IntKind.wrap .i64 ((Int.tmod (bitsOp .and .i64 at_.a1 255) 255) + 1)))))) (Canon.cons (frz_ref (e := (D.int .u8)) (l := (List.set (s2b r_2) (z_1).toNat (bitsOp .xor .u8 z_2 (IntKind.wrap .u8 (IntKind.wrap .i64 ((Int.tmod (bitsOp .and .i64 at_.a1 255) 255) + 1)))))) (id := [18]) (v := 0) (n := 1) (fz := false) (by kernel_rfl) (by kernel_rfl) (by simp only [List.length_map, List.length_set, cpy_length] at * <;> omega : (mY (s2b r_2)).length = (mY (List.set (s2b r_2) (z_1).toNat (bitsOp .xor .u8 z_2 (IntKind.wrap .u8 (IntKind.wrap .i64 ((Int.tmod (bitsOp .and .i64 at_.a1 255) 255) + 1)))))).length)) Cz) ?_
  exact hansomlaw44_MzAny_j14_ok x_ at_ by_ (List.set (s2b r_2) (z_1).toNat (bitsOp .xor .u8 z_2 (IntKind.wrap .u8 (IntKind.wrap .i64 ((Int.tmod (bitsOp .and .i64 at_.a1 255) 255) + 1))))) r h
theorem hansomlaw44_MzAny_L (x_ : Image) (at_ : (A2 Int)) (by_ : (List Int)) (r : Bool) (h : hansomlaw44_MzAny x_ at_ by_ = some r) : L 8 [.d (Image.d x_), .d (.agg [.int .i64 at_.a0, .int .i64 at_.a1]), .d (.sl (mY by_))] = some (.b r, [.d (Image.d x_), .d (.agg [.int .i64 at_.a0, .int .i64 at_.a1]), .d (.sl (mY by_))]) := by
 obtain ⟨p, ⟨hne, hf⟩, hr⟩ := hansomlaw44_MzAny_ok x_ at_ by_ r h
 obtain ⟨k, hk⟩ := run_of (F := F8) (args := [.d (Image.d x_), .d (.agg [.int .i64 at_.a0, .int .i64 at_.a1]), .d (.sl (mY by_))]) (ap := [.d (Image.d x_), .d (.agg [.int .i64 at_.a0, .int .i64 at_.a1]), .d (.sl (mY by_))]) (bx0 := updW (fun _ => none) []) rfl rfl (by kernel_rfl) ⟨p, ⟨hne, hf⟩, hr⟩
 exact lim_run (k := k) rfl hk
end Go.Es.Mza
