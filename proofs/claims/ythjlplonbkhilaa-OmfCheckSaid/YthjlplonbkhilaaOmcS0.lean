/- The interpreter answers as plain Lean does: part 1. No condition. -/
import Derived.Test.YthjlplonbkhilaaOmcF
import Derived.Test.YthjlplonbkhilaaOmcP
import Derived.KernelRfl
import Derived.Test.YthjlplonbkhilaaOmcG
set_option linter.unusedVariables false
set_option linter.unusedSimpArgs false
set_option maxRecDepth 100000
set_option maxHeartbeats 4000000
namespace Go.Es.Omc
def hansomref26_cut_Q (s_ : (List UInt8)) (r : (List UInt8)) (p : Out × St) : Prop := (∀ i, p.1 ≠ .exit i) ∧ finF F10 [.d (.str s_)] p.2 = some (.d (.str r), [.d (.str s_)])
theorem hansomref26_cut_ok (s_ : (List UInt8)) (r : (List UInt8)) (h : hansomref26_cut s_ = some r) : Runs L F10.body ⟨tmOf [.d (.str s_)] 0, updW (fun _ => none) []⟩ (hansomref26_cut_Q s_ r) := by
 unfold hansomref26_cut at h
 refine Sq <| Ro <| Rc 1 [⟨.d (.str ([] : List UInt8)), []⟩] <| Rk <| Sq <| Ro <| Rc 2 [⟨.d (.str s_), []⟩, ⟨.d (.str s_), []⟩] <| Rt (some 5) .lenS [] none [.d (.str s_)] (.i (s_.length : Int)) [] (cut_lenS _) <| Rc 1 [vi (mnI (s_.length : Int) 12)] ?_
 obtain ⟨z_1, hz_1, h⟩ := bind_s h
 refine Rt (some 7) (.substr false true) [] none [.d (.str s_), .i (mnI (s_.length : Int) 12)] (.d (.str z_1)) [] (cut_strFT hz_1) <| Rc 1 [⟨.d (.str z_1), []⟩] <| Rk <| Runs.ret ?_
 cases h
 exact Fq
theorem hansomref26_cut_L (s_ : (List UInt8)) (r : (List UInt8)) (h : hansomref26_cut s_ = some r) : L 10 [.d (.str s_)] = some (.d (.str r), [.d (.str s_)]) := by
 obtain ⟨p, ⟨hne, hf⟩, hr⟩ := hansomref26_cut_ok s_ r h
 obtain ⟨k, hk⟩ := run_of (F := F10) (args := [.d (.str s_)]) (ap := [.d (.str s_)]) (bx0 := updW (fun _ => none) []) rfl rfl (by kernel_rfl) ⟨p, ⟨hne, hf⟩, hr⟩
 exact lim_run (k := k) rfl hk
def hansomref26_base_h2 (m1 : Module) (x2 : Module) (v_901_2 : Nat) (v_902_2 : Nat) (v_903_2 : Nat) (v_904_2 : Nat) (v_905_2 : Nat) (v_906_2 : Nat) (v_907_2 : Nat) : St := ⟨tab [(1, .ptr [1] 0 0), (2, .ptr [2] 0 0)], tabB [([1], some (.cells [.d (.str m1.Name), .d (.sl (List.map Comment.d m1.Notes)), .d (.sl (List.map D.str m1.Names)), .d (.sl (List.map SegDef.d m1.Segs)), .d (.sl (List.map GrpDef.d m1.Groups)), .d (.sl (List.map Ext.d m1.Exts)), .d (.sl (List.map Pub.d m1.Pubs)), .d (.sl (List.map Data.d m1.Datas)), .b m1.Main, .b m1.Is, .i m1.Start.At, .i m1.Start.Loc, .b m1.Start.Self, .i m1.Start.Frame, .i m1.Start.FrameN, .i m1.Start.Target, .i m1.Start.N, .w m1.Start.Disp] 0)), ([2], some (.cells [.d (.str x2.Name), .ref [901, 2] v_901_2 0 (List.map Comment.d x2.Notes).length 3, .ref [902, 2] v_902_2 0 (List.map D.str x2.Names).length 1, .ref [903, 2] v_903_2 0 (List.map SegDef.d x2.Segs).length 8, .ref [904, 2] v_904_2 0 (List.map GrpDef.d x2.Groups).length 2, .ref [905, 2] v_905_2 0 (List.map Ext.d x2.Exts).length 3, .ref [906, 2] v_906_2 0 (List.map Pub.d x2.Pubs).length 5, .ref [907, 2] v_907_2 0 (List.map Data.d x2.Datas).length 4, .b x2.Main, .b x2.Is, .i x2.Start.At, .i x2.Start.Loc, .b x2.Start.Self, .i x2.Start.Frame, .i x2.Start.FrameN, .i x2.Start.Target, .i x2.Start.N, .w x2.Start.Disp] 0)), ([901, 2], some (.arr (List.map Comment.d x2.Notes) v_901_2 false)), ([902, 2], some (.arr (List.map D.str x2.Names) v_902_2 false)), ([903, 2], some (.arr (List.map SegDef.d x2.Segs) v_903_2 false)), ([904, 2], some (.arr (List.map GrpDef.d x2.Groups) v_904_2 false)), ([905, 2], some (.arr (List.map Ext.d x2.Exts) v_905_2 false)), ([906, 2], some (.arr (List.map Pub.d x2.Pubs) v_906_2 false)), ([907, 2], some (.arr (List.map Data.d x2.Datas) v_907_2 false))]⟩
def hansomref26_base_h10 (m1 : Module) (x2 : Module) (i3 : Int) (v_16 : Nat) (v_901_2 : Nat) (v_903_2 : Nat) (v_904_2 : Nat) (v_905_2 : Nat) (v_906_2 : Nat) (v_907_2 : Nat) : St := ⟨tab [(1, .ptr [1] 0 0), (2, .ptr [2] 0 0), (3, .i i3)], tabB [([1], some (.cells [.d (.str m1.Name), .d (.sl (List.map Comment.d m1.Notes)), .d (.sl (List.map D.str m1.Names)), .d (.sl (List.map SegDef.d m1.Segs)), .d (.sl (List.map GrpDef.d m1.Groups)), .d (.sl (List.map Ext.d m1.Exts)), .d (.sl (List.map Pub.d m1.Pubs)), .d (.sl (List.map Data.d m1.Datas)), .b m1.Main, .b m1.Is, .i m1.Start.At, .i m1.Start.Loc, .b m1.Start.Self, .i m1.Start.Frame, .i m1.Start.FrameN, .i m1.Start.Target, .i m1.Start.N, .w m1.Start.Disp] 0)), ([2], some (.cells [.d (.str x2.Name), .ref [901, 2] v_901_2 0 (List.map Comment.d x2.Notes).length 3, .ref [16] v_16 0 (List.map D.str x2.Names).length 1, .ref [903, 2] v_903_2 0 (List.map SegDef.d x2.Segs).length 8, .ref [904, 2] v_904_2 0 (List.map GrpDef.d x2.Groups).length 2, .ref [905, 2] v_905_2 0 (List.map Ext.d x2.Exts).length 3, .ref [906, 2] v_906_2 0 (List.map Pub.d x2.Pubs).length 5, .ref [907, 2] v_907_2 0 (List.map Data.d x2.Datas).length 4, .b x2.Main, .b x2.Is, .i x2.Start.At, .i x2.Start.Loc, .b x2.Start.Self, .i x2.Start.Frame, .i x2.Start.FrameN, .i x2.Start.Target, .i x2.Start.N, .w x2.Start.Disp] 0)), ([16], some (.arr (List.map D.str x2.Names) v_16 false)), ([901, 2], some (.arr (List.map Comment.d x2.Notes) v_901_2 false)), ([903, 2], some (.arr (List.map SegDef.d x2.Segs) v_903_2 false)), ([904, 2], some (.arr (List.map GrpDef.d x2.Groups) v_904_2 false)), ([905, 2], some (.arr (List.map Ext.d x2.Exts) v_905_2 false)), ([906, 2], some (.arr (List.map Pub.d x2.Pubs) v_906_2 false)), ([907, 2], some (.arr (List.map Data.d x2.Datas) v_907_2 false))]⟩
def hansomref26_base_h21 (m1 : Module) (x2 : Module) (v_16 : Nat) (v_901_2 : Nat) (v_903_2 : Nat) (v_904_2 : Nat) (v_905_2 : Nat) (v_906_2 : Nat) (v_907_2 : Nat) : St := ⟨tab [(1, .ptr [1] 0 0), (2, .ptr [2] 0 0)], tabB [([1], some (.cells [.d (.str m1.Name), .d (.sl (List.map Comment.d m1.Notes)), .d (.sl (List.map D.str m1.Names)), .d (.sl (List.map SegDef.d m1.Segs)), .d (.sl (List.map GrpDef.d m1.Groups)), .d (.sl (List.map Ext.d m1.Exts)), .d (.sl (List.map Pub.d m1.Pubs)), .d (.sl (List.map Data.d m1.Datas)), .b m1.Main, .b m1.Is, .i m1.Start.At, .i m1.Start.Loc, .b m1.Start.Self, .i m1.Start.Frame, .i m1.Start.FrameN, .i m1.Start.Target, .i m1.Start.N, .w m1.Start.Disp] 0)), ([2], some (.cells [.d (.str x2.Name), .ref [901, 2] v_901_2 0 (List.map Comment.d x2.Notes).length 3, .ref [16] v_16 0 (List.map D.str x2.Names).length 1, .ref [903, 2] v_903_2 0 (List.map SegDef.d x2.Segs).length 8, .ref [904, 2] v_904_2 0 (List.map GrpDef.d x2.Groups).length 2, .ref [905, 2] v_905_2 0 (List.map Ext.d x2.Exts).length 3, .ref [906, 2] v_906_2 0 (List.map Pub.d x2.Pubs).length 5, .ref [907, 2] v_907_2 0 (List.map Data.d x2.Datas).length 4, .b x2.Main, .b x2.Is, .i x2.Start.At, .i x2.Start.Loc, .b x2.Start.Self, .i x2.Start.Frame, .i x2.Start.FrameN, .i x2.Start.Target, .i x2.Start.N, .w x2.Start.Disp] 0)), ([16], some (.arr (List.map D.str x2.Names) v_16 false)), ([901, 2], some (.arr (List.map Comment.d x2.Notes) v_901_2 false)), ([903, 2], some (.arr (List.map SegDef.d x2.Segs) v_903_2 false)), ([904, 2], some (.arr (List.map GrpDef.d x2.Groups) v_904_2 false)), ([905, 2], some (.arr (List.map Ext.d x2.Exts) v_905_2 false)), ([906, 2], some (.arr (List.map Pub.d x2.Pubs) v_906_2 false)), ([907, 2], some (.arr (List.map Data.d x2.Datas) v_907_2 false))]⟩
def hansomref26_base_h27 (m1 : Module) (x2 : Module) (n4 : Int) (i5 : Int) (v_16 : Nat) (v_901_2 : Nat) (v_903_2 : Nat) (v_904_2 : Nat) (v_905_2 : Nat) (v_906_2 : Nat) (v_907_2 : Nat) : St := ⟨tab [(1, .ptr [1] 0 0), (2, .ptr [2] 0 0), (4, .i n4), (5, .i i5)], tabB [([1], some (.cells [.d (.str m1.Name), .d (.sl (List.map Comment.d m1.Notes)), .d (.sl (List.map D.str m1.Names)), .d (.sl (List.map SegDef.d m1.Segs)), .d (.sl (List.map GrpDef.d m1.Groups)), .d (.sl (List.map Ext.d m1.Exts)), .d (.sl (List.map Pub.d m1.Pubs)), .d (.sl (List.map Data.d m1.Datas)), .b m1.Main, .b m1.Is, .i m1.Start.At, .i m1.Start.Loc, .b m1.Start.Self, .i m1.Start.Frame, .i m1.Start.FrameN, .i m1.Start.Target, .i m1.Start.N, .w m1.Start.Disp] 0)), ([2], some (.cells [.d (.str x2.Name), .ref [901, 2] v_901_2 0 (List.map Comment.d x2.Notes).length 3, .ref [16] v_16 0 (List.map D.str x2.Names).length 1, .ref [903, 2] v_903_2 0 (List.map SegDef.d x2.Segs).length 8, .ref [904, 2] v_904_2 0 (List.map GrpDef.d x2.Groups).length 2, .ref [905, 2] v_905_2 0 (List.map Ext.d x2.Exts).length 3, .ref [906, 2] v_906_2 0 (List.map Pub.d x2.Pubs).length 5, .ref [907, 2] v_907_2 0 (List.map Data.d x2.Datas).length 4, .b x2.Main, .b x2.Is, .i x2.Start.At, .i x2.Start.Loc, .b x2.Start.Self, .i x2.Start.Frame, .i x2.Start.FrameN, .i x2.Start.Target, .i x2.Start.N, .w x2.Start.Disp] 0)), ([16], some (.arr (List.map D.str x2.Names) v_16 false)), ([901, 2], some (.arr (List.map Comment.d x2.Notes) v_901_2 false)), ([903, 2], some (.arr (List.map SegDef.d x2.Segs) v_903_2 false)), ([904, 2], some (.arr (List.map GrpDef.d x2.Groups) v_904_2 false)), ([905, 2], some (.arr (List.map Ext.d x2.Exts) v_905_2 false)), ([906, 2], some (.arr (List.map Pub.d x2.Pubs) v_906_2 false)), ([907, 2], some (.arr (List.map Data.d x2.Datas) v_907_2 false))]⟩
def hansomref26_base_h42 (m1 : Module) (x2 : Module) (n4 : Int) (v_16 : Nat) (v_901_2 : Nat) (v_903_2 : Nat) (v_904_2 : Nat) (v_905_2 : Nat) (v_906_2 : Nat) (v_907_2 : Nat) : St := ⟨tab [(1, .ptr [1] 0 0), (2, .ptr [2] 0 0), (4, .i n4)], tabB [([1], some (.cells [.d (.str m1.Name), .d (.sl (List.map Comment.d m1.Notes)), .d (.sl (List.map D.str m1.Names)), .d (.sl (List.map SegDef.d m1.Segs)), .d (.sl (List.map GrpDef.d m1.Groups)), .d (.sl (List.map Ext.d m1.Exts)), .d (.sl (List.map Pub.d m1.Pubs)), .d (.sl (List.map Data.d m1.Datas)), .b m1.Main, .b m1.Is, .i m1.Start.At, .i m1.Start.Loc, .b m1.Start.Self, .i m1.Start.Frame, .i m1.Start.FrameN, .i m1.Start.Target, .i m1.Start.N, .w m1.Start.Disp] 0)), ([2], some (.cells [.d (.str x2.Name), .ref [901, 2] v_901_2 0 (List.map Comment.d x2.Notes).length 3, .ref [16] v_16 0 (List.map D.str x2.Names).length 1, .ref [903, 2] v_903_2 0 (List.map SegDef.d x2.Segs).length 8, .ref [904, 2] v_904_2 0 (List.map GrpDef.d x2.Groups).length 2, .ref [905, 2] v_905_2 0 (List.map Ext.d x2.Exts).length 3, .ref [906, 2] v_906_2 0 (List.map Pub.d x2.Pubs).length 5, .ref [907, 2] v_907_2 0 (List.map Data.d x2.Datas).length 4, .b x2.Main, .b x2.Is, .i x2.Start.At, .i x2.Start.Loc, .b x2.Start.Self, .i x2.Start.Frame, .i x2.Start.FrameN, .i x2.Start.Target, .i x2.Start.N, .w x2.Start.Disp] 0)), ([16], some (.arr (List.map D.str x2.Names) v_16 false)), ([901, 2], some (.arr (List.map Comment.d x2.Notes) v_901_2 false)), ([903, 2], some (.arr (List.map SegDef.d x2.Segs) v_903_2 false)), ([904, 2], some (.arr (List.map GrpDef.d x2.Groups) v_904_2 false)), ([905, 2], some (.arr (List.map Ext.d x2.Exts) v_905_2 false)), ([906, 2], some (.arr (List.map Pub.d x2.Pubs) v_906_2 false)), ([907, 2], some (.arr (List.map Data.d x2.Datas) v_907_2 false))]⟩
def hansomref26_base_h46 (m1 : Module) (x2 : Module) (n4 : Int) (i7 : Int) (v_16 : Nat) (v_901_2 : Nat) (v_903_2 : Nat) (v_904_2 : Nat) (v_905_2 : Nat) (v_906_2 : Nat) (v_907_2 : Nat) : St := ⟨tab [(1, .ptr [1] 0 0), (2, .ptr [2] 0 0), (4, .i n4), (7, .i i7)], tabB [([1], some (.cells [.d (.str m1.Name), .d (.sl (List.map Comment.d m1.Notes)), .d (.sl (List.map D.str m1.Names)), .d (.sl (List.map SegDef.d m1.Segs)), .d (.sl (List.map GrpDef.d m1.Groups)), .d (.sl (List.map Ext.d m1.Exts)), .d (.sl (List.map Pub.d m1.Pubs)), .d (.sl (List.map Data.d m1.Datas)), .b m1.Main, .b m1.Is, .i m1.Start.At, .i m1.Start.Loc, .b m1.Start.Self, .i m1.Start.Frame, .i m1.Start.FrameN, .i m1.Start.Target, .i m1.Start.N, .w m1.Start.Disp] 0)), ([2], some (.cells [.d (.str x2.Name), .ref [901, 2] v_901_2 0 (List.map Comment.d x2.Notes).length 3, .ref [16] v_16 0 (List.map D.str x2.Names).length 1, .ref [903, 2] v_903_2 0 (List.map SegDef.d x2.Segs).length 8, .ref [904, 2] v_904_2 0 (List.map GrpDef.d x2.Groups).length 2, .ref [905, 2] v_905_2 0 (List.map Ext.d x2.Exts).length 3, .ref [906, 2] v_906_2 0 (List.map Pub.d x2.Pubs).length 5, .ref [907, 2] v_907_2 0 (List.map Data.d x2.Datas).length 4, .b x2.Main, .b x2.Is, .i x2.Start.At, .i x2.Start.Loc, .b x2.Start.Self, .i x2.Start.Frame, .i x2.Start.FrameN, .i x2.Start.Target, .i x2.Start.N, .w x2.Start.Disp] 0)), ([16], some (.arr (List.map D.str x2.Names) v_16 false)), ([901, 2], some (.arr (List.map Comment.d x2.Notes) v_901_2 false)), ([903, 2], some (.arr (List.map SegDef.d x2.Segs) v_903_2 false)), ([904, 2], some (.arr (List.map GrpDef.d x2.Groups) v_904_2 false)), ([905, 2], some (.arr (List.map Ext.d x2.Exts) v_905_2 false)), ([906, 2], some (.arr (List.map Pub.d x2.Pubs) v_906_2 false)), ([907, 2], some (.arr (List.map Data.d x2.Datas) v_907_2 false))]⟩
def hansomref26_base_h53 (m1 : Module) (x2 : Module) (n4 : Int) (i7 : Int) (v_16 : Nat) (v_901_2 : Nat) (v_903_2 : Nat) (v_904_2 : Nat) (v_905_2 : Nat) (v_906_2 : Nat) (v_907_2 : Nat) : St := ⟨tab [(1, .ptr [1] 0 0), (2, .ptr [2] 0 0), (4, .i n4), (7, .i i7)], tabB [([1], some (.cells [.d (.str m1.Name), .d (.sl (List.map Comment.d m1.Notes)), .d (.sl (List.map D.str m1.Names)), .d (.sl (List.map SegDef.d m1.Segs)), .d (.sl (List.map GrpDef.d m1.Groups)), .d (.sl (List.map Ext.d m1.Exts)), .d (.sl (List.map Pub.d m1.Pubs)), .d (.sl (List.map Data.d m1.Datas)), .b m1.Main, .b m1.Is, .i m1.Start.At, .i m1.Start.Loc, .b m1.Start.Self, .i m1.Start.Frame, .i m1.Start.FrameN, .i m1.Start.Target, .i m1.Start.N, .w m1.Start.Disp] 0)), ([2], some (.cells [.d (.str x2.Name), .ref [901, 2] v_901_2 0 (List.map Comment.d x2.Notes).length 3, .ref [16] v_16 0 (List.map D.str x2.Names).length 1, .ref [903, 2] v_903_2 0 (List.map SegDef.d x2.Segs).length 8, .ref [904, 2] v_904_2 0 (List.map GrpDef.d x2.Groups).length 2, .ref [905, 2] v_905_2 0 (List.map Ext.d x2.Exts).length 3, .ref [906, 2] v_906_2 0 (List.map Pub.d x2.Pubs).length 5, .ref [907, 2] v_907_2 0 (List.map Data.d x2.Datas).length 4, .b x2.Main, .b x2.Is, .i x2.Start.At, .i x2.Start.Loc, .b x2.Start.Self, .i x2.Start.Frame, .i x2.Start.FrameN, .i x2.Start.Target, .i x2.Start.N, .w x2.Start.Disp] 0)), ([16], some (.arr (List.map D.str x2.Names) v_16 false)), ([901, 2], some (.arr (List.map Comment.d x2.Notes) v_901_2 false)), ([903, 2], some (.arr (List.map SegDef.d x2.Segs) v_903_2 false)), ([904, 2], some (.arr (List.map GrpDef.d x2.Groups) v_904_2 false)), ([905, 2], some (.arr (List.map Ext.d x2.Exts) v_905_2 false)), ([906, 2], some (.arr (List.map Pub.d x2.Pubs) v_906_2 false)), ([907, 2], some (.arr (List.map Data.d x2.Datas) v_907_2 false))]⟩
def hansomref26_base_h63 (m1 : Module) (x2 : Module) (s8 : SegDef) (n4 : Int) (i7 : Int) (v_16 : Nat) (v_901_2 : Nat) (v_903_2 : Nat) (v_904_2 : Nat) (v_905_2 : Nat) (v_906_2 : Nat) (v_907_2 : Nat) : St := ⟨tab [(1, .ptr [1] 0 0), (2, .ptr [2] 0 0), (4, .i n4), (7, .i i7), (8, .ptr [8] 0 0)], tabB [([1], some (.cells [.d (.str m1.Name), .d (.sl (List.map Comment.d m1.Notes)), .d (.sl (List.map D.str m1.Names)), .d (.sl (List.map SegDef.d m1.Segs)), .d (.sl (List.map GrpDef.d m1.Groups)), .d (.sl (List.map Ext.d m1.Exts)), .d (.sl (List.map Pub.d m1.Pubs)), .d (.sl (List.map Data.d m1.Datas)), .b m1.Main, .b m1.Is, .i m1.Start.At, .i m1.Start.Loc, .b m1.Start.Self, .i m1.Start.Frame, .i m1.Start.FrameN, .i m1.Start.Target, .i m1.Start.N, .w m1.Start.Disp] 0)), ([2], some (.cells [.d (.str x2.Name), .ref [901, 2] v_901_2 0 (List.map Comment.d x2.Notes).length 3, .ref [16] v_16 0 (List.map D.str x2.Names).length 1, .ref [903, 2] v_903_2 0 (List.map SegDef.d x2.Segs).length 8, .ref [904, 2] v_904_2 0 (List.map GrpDef.d x2.Groups).length 2, .ref [905, 2] v_905_2 0 (List.map Ext.d x2.Exts).length 3, .ref [906, 2] v_906_2 0 (List.map Pub.d x2.Pubs).length 5, .ref [907, 2] v_907_2 0 (List.map Data.d x2.Datas).length 4, .b x2.Main, .b x2.Is, .i x2.Start.At, .i x2.Start.Loc, .b x2.Start.Self, .i x2.Start.Frame, .i x2.Start.FrameN, .i x2.Start.Target, .i x2.Start.N, .w x2.Start.Disp] 0)), ([8], some (.cells [.i s8.Align, .i s8.Combine, .w s8.Frame, .y s8.Offset, .i s8.Len, .i s8.Name, .i s8.Class, .i s8.Overlay] 0)), ([16], some (.arr (List.map D.str x2.Names) v_16 false)), ([901, 2], some (.arr (List.map Comment.d x2.Notes) v_901_2 false)), ([903, 2], some (.arr (List.map SegDef.d x2.Segs) v_903_2 false)), ([904, 2], some (.arr (List.map GrpDef.d x2.Groups) v_904_2 false)), ([905, 2], some (.arr (List.map Ext.d x2.Exts) v_905_2 false)), ([906, 2], some (.arr (List.map Pub.d x2.Pubs) v_906_2 false)), ([907, 2], some (.arr (List.map Data.d x2.Datas) v_907_2 false))]⟩
def hansomref26_base_h65 (m1 : Module) (x2 : Module) (n4 : Int) (v_16 : Nat) (v_901_2 : Nat) (v_903_2 : Nat) (v_904_2 : Nat) (v_905_2 : Nat) (v_906_2 : Nat) (v_907_2 : Nat) : St := ⟨tab [(1, .ptr [1] 0 0), (2, .ptr [2] 0 0), (4, .i n4)], tabB [([1], some (.cells [.d (.str m1.Name), .d (.sl (List.map Comment.d m1.Notes)), .d (.sl (List.map D.str m1.Names)), .d (.sl (List.map SegDef.d m1.Segs)), .d (.sl (List.map GrpDef.d m1.Groups)), .d (.sl (List.map Ext.d m1.Exts)), .d (.sl (List.map Pub.d m1.Pubs)), .d (.sl (List.map Data.d m1.Datas)), .b m1.Main, .b m1.Is, .i m1.Start.At, .i m1.Start.Loc, .b m1.Start.Self, .i m1.Start.Frame, .i m1.Start.FrameN, .i m1.Start.Target, .i m1.Start.N, .w m1.Start.Disp] 0)), ([2], some (.cells [.d (.str x2.Name), .ref [901, 2] v_901_2 0 (List.map Comment.d x2.Notes).length 3, .ref [16] v_16 0 (List.map D.str x2.Names).length 1, .ref [903, 2] v_903_2 0 (List.map SegDef.d x2.Segs).length 8, .ref [904, 2] v_904_2 0 (List.map GrpDef.d x2.Groups).length 2, .ref [905, 2] v_905_2 0 (List.map Ext.d x2.Exts).length 3, .ref [906, 2] v_906_2 0 (List.map Pub.d x2.Pubs).length 5, .ref [907, 2] v_907_2 0 (List.map Data.d x2.Datas).length 4, .b x2.Main, .b x2.Is, .i x2.Start.At, .i x2.Start.Loc, .b x2.Start.Self, .i x2.Start.Frame, .i x2.Start.FrameN, .i x2.Start.Target, .i x2.Start.N, .w x2.Start.Disp] 0)), ([16], some (.arr (List.map D.str x2.Names) v_16 false)), ([901, 2], some (.arr (List.map Comment.d x2.Notes) v_901_2 false)), ([903, 2], some (.arr (List.map SegDef.d x2.Segs) v_903_2 false)), ([904, 2], some (.arr (List.map GrpDef.d x2.Groups) v_904_2 false)), ([905, 2], some (.arr (List.map Ext.d x2.Exts) v_905_2 false)), ([906, 2], some (.arr (List.map Pub.d x2.Pubs) v_906_2 false)), ([907, 2], some (.arr (List.map Data.d x2.Datas) v_907_2 false))]⟩
def hansomref26_base_h69 (m1 : Module) (x2 : Module) (n4 : Int) (i9 : Int) (v_16 : Nat) (v_901_2 : Nat) (v_903_2 : Nat) (v_904_2 : Nat) (v_905_2 : Nat) (v_906_2 : Nat) (v_907_2 : Nat) : St := ⟨tab [(1, .ptr [1] 0 0), (2, .ptr [2] 0 0), (4, .i n4), (9, .i i9)], tabB [([1], some (.cells [.d (.str m1.Name), .d (.sl (List.map Comment.d m1.Notes)), .d (.sl (List.map D.str m1.Names)), .d (.sl (List.map SegDef.d m1.Segs)), .d (.sl (List.map GrpDef.d m1.Groups)), .d (.sl (List.map Ext.d m1.Exts)), .d (.sl (List.map Pub.d m1.Pubs)), .d (.sl (List.map Data.d m1.Datas)), .b m1.Main, .b m1.Is, .i m1.Start.At, .i m1.Start.Loc, .b m1.Start.Self, .i m1.Start.Frame, .i m1.Start.FrameN, .i m1.Start.Target, .i m1.Start.N, .w m1.Start.Disp] 0)), ([2], some (.cells [.d (.str x2.Name), .ref [901, 2] v_901_2 0 (List.map Comment.d x2.Notes).length 3, .ref [16] v_16 0 (List.map D.str x2.Names).length 1, .ref [903, 2] v_903_2 0 (List.map SegDef.d x2.Segs).length 8, .ref [904, 2] v_904_2 0 (List.map GrpDef.d x2.Groups).length 2, .ref [905, 2] v_905_2 0 (List.map Ext.d x2.Exts).length 3, .ref [906, 2] v_906_2 0 (List.map Pub.d x2.Pubs).length 5, .ref [907, 2] v_907_2 0 (List.map Data.d x2.Datas).length 4, .b x2.Main, .b x2.Is, .i x2.Start.At, .i x2.Start.Loc, .b x2.Start.Self, .i x2.Start.Frame, .i x2.Start.FrameN, .i x2.Start.Target, .i x2.Start.N, .w x2.Start.Disp] 0)), ([16], some (.arr (List.map D.str x2.Names) v_16 false)), ([901, 2], some (.arr (List.map Comment.d x2.Notes) v_901_2 false)), ([903, 2], some (.arr (List.map SegDef.d x2.Segs) v_903_2 false)), ([904, 2], some (.arr (List.map GrpDef.d x2.Groups) v_904_2 false)), ([905, 2], some (.arr (List.map Ext.d x2.Exts) v_905_2 false)), ([906, 2], some (.arr (List.map Pub.d x2.Pubs) v_906_2 false)), ([907, 2], some (.arr (List.map Data.d x2.Datas) v_907_2 false))]⟩
def hansomref26_base_h80 (m1 : Module) (x2 : Module) (g10 : GrpDef) (n4 : Int) (i9 : Int) (v_16 : Nat) (v_901_2 : Nat) (v_901_10 : Nat) (v_903_2 : Nat) (v_904_2 : Nat) (v_905_2 : Nat) (v_906_2 : Nat) (v_907_2 : Nat) : St := ⟨tab [(1, .ptr [1] 0 0), (2, .ptr [2] 0 0), (4, .i n4), (9, .i i9), (10, .ptr [10] 0 0)], tabB [([1], some (.cells [.d (.str m1.Name), .d (.sl (List.map Comment.d m1.Notes)), .d (.sl (List.map D.str m1.Names)), .d (.sl (List.map SegDef.d m1.Segs)), .d (.sl (List.map GrpDef.d m1.Groups)), .d (.sl (List.map Ext.d m1.Exts)), .d (.sl (List.map Pub.d m1.Pubs)), .d (.sl (List.map Data.d m1.Datas)), .b m1.Main, .b m1.Is, .i m1.Start.At, .i m1.Start.Loc, .b m1.Start.Self, .i m1.Start.Frame, .i m1.Start.FrameN, .i m1.Start.Target, .i m1.Start.N, .w m1.Start.Disp] 0)), ([2], some (.cells [.d (.str x2.Name), .ref [901, 2] v_901_2 0 (List.map Comment.d x2.Notes).length 3, .ref [16] v_16 0 (List.map D.str x2.Names).length 1, .ref [903, 2] v_903_2 0 (List.map SegDef.d x2.Segs).length 8, .ref [904, 2] v_904_2 0 (List.map GrpDef.d x2.Groups).length 2, .ref [905, 2] v_905_2 0 (List.map Ext.d x2.Exts).length 3, .ref [906, 2] v_906_2 0 (List.map Pub.d x2.Pubs).length 5, .ref [907, 2] v_907_2 0 (List.map Data.d x2.Datas).length 4, .b x2.Main, .b x2.Is, .i x2.Start.At, .i x2.Start.Loc, .b x2.Start.Self, .i x2.Start.Frame, .i x2.Start.FrameN, .i x2.Start.Target, .i x2.Start.N, .w x2.Start.Disp] 0)), ([10], some (.cells [.i g10.Name, .ref [901, 10] v_901_10 0 (List.map (D.int .i64) g10.Segs).length 1] 0)), ([16], some (.arr (List.map D.str x2.Names) v_16 false)), ([901, 2], some (.arr (List.map Comment.d x2.Notes) v_901_2 false)), ([901, 10], some (.arr (List.map (D.int .i64) g10.Segs) v_901_10 false)), ([903, 2], some (.arr (List.map SegDef.d x2.Segs) v_903_2 false)), ([904, 2], some (.arr (List.map GrpDef.d x2.Groups) v_904_2 false)), ([905, 2], some (.arr (List.map Ext.d x2.Exts) v_905_2 false)), ([906, 2], some (.arr (List.map Pub.d x2.Pubs) v_906_2 false)), ([907, 2], some (.arr (List.map Data.d x2.Datas) v_907_2 false))]⟩
def hansomref26_base_h84 (m1 : Module) (x2 : Module) (g10 : GrpDef) (n4 : Int) (i9 : Int) (k11 : Int) (v_16 : Nat) (v_901_2 : Nat) (v_901_10 : Nat) (v_903_2 : Nat) (v_904_2 : Nat) (v_905_2 : Nat) (v_906_2 : Nat) (v_907_2 : Nat) : St := ⟨tab [(1, .ptr [1] 0 0), (2, .ptr [2] 0 0), (4, .i n4), (9, .i i9), (10, .ptr [10] 0 0), (11, .i k11)], tabB [([1], some (.cells [.d (.str m1.Name), .d (.sl (List.map Comment.d m1.Notes)), .d (.sl (List.map D.str m1.Names)), .d (.sl (List.map SegDef.d m1.Segs)), .d (.sl (List.map GrpDef.d m1.Groups)), .d (.sl (List.map Ext.d m1.Exts)), .d (.sl (List.map Pub.d m1.Pubs)), .d (.sl (List.map Data.d m1.Datas)), .b m1.Main, .b m1.Is, .i m1.Start.At, .i m1.Start.Loc, .b m1.Start.Self, .i m1.Start.Frame, .i m1.Start.FrameN, .i m1.Start.Target, .i m1.Start.N, .w m1.Start.Disp] 0)), ([2], some (.cells [.d (.str x2.Name), .ref [901, 2] v_901_2 0 (List.map Comment.d x2.Notes).length 3, .ref [16] v_16 0 (List.map D.str x2.Names).length 1, .ref [903, 2] v_903_2 0 (List.map SegDef.d x2.Segs).length 8, .ref [904, 2] v_904_2 0 (List.map GrpDef.d x2.Groups).length 2, .ref [905, 2] v_905_2 0 (List.map Ext.d x2.Exts).length 3, .ref [906, 2] v_906_2 0 (List.map Pub.d x2.Pubs).length 5, .ref [907, 2] v_907_2 0 (List.map Data.d x2.Datas).length 4, .b x2.Main, .b x2.Is, .i x2.Start.At, .i x2.Start.Loc, .b x2.Start.Self, .i x2.Start.Frame, .i x2.Start.FrameN, .i x2.Start.Target, .i x2.Start.N, .w x2.Start.Disp] 0)), ([10], some (.cells [.i g10.Name, .ref [901, 10] v_901_10 0 (List.map (D.int .i64) g10.Segs).length 1] 0)), ([16], some (.arr (List.map D.str x2.Names) v_16 false)), ([901, 2], some (.arr (List.map Comment.d x2.Notes) v_901_2 false)), ([901, 10], some (.arr (List.map (D.int .i64) g10.Segs) v_901_10 false)), ([903, 2], some (.arr (List.map SegDef.d x2.Segs) v_903_2 false)), ([904, 2], some (.arr (List.map GrpDef.d x2.Groups) v_904_2 false)), ([905, 2], some (.arr (List.map Ext.d x2.Exts) v_905_2 false)), ([906, 2], some (.arr (List.map Pub.d x2.Pubs) v_906_2 false)), ([907, 2], some (.arr (List.map Data.d x2.Datas) v_907_2 false))]⟩
def hansomref26_base_h95 (m1 : Module) (x2 : Module) (g10 : GrpDef) (n4 : Int) (i9 : Int) (v_16 : Nat) (v_901_2 : Nat) (v_901_10 : Nat) (v_903_2 : Nat) (v_904_2 : Nat) (v_905_2 : Nat) (v_906_2 : Nat) (v_907_2 : Nat) : St := ⟨tab [(1, .ptr [1] 0 0), (2, .ptr [2] 0 0), (4, .i n4), (9, .i i9), (10, .ptr [10] 0 0)], tabB [([1], some (.cells [.d (.str m1.Name), .d (.sl (List.map Comment.d m1.Notes)), .d (.sl (List.map D.str m1.Names)), .d (.sl (List.map SegDef.d m1.Segs)), .d (.sl (List.map GrpDef.d m1.Groups)), .d (.sl (List.map Ext.d m1.Exts)), .d (.sl (List.map Pub.d m1.Pubs)), .d (.sl (List.map Data.d m1.Datas)), .b m1.Main, .b m1.Is, .i m1.Start.At, .i m1.Start.Loc, .b m1.Start.Self, .i m1.Start.Frame, .i m1.Start.FrameN, .i m1.Start.Target, .i m1.Start.N, .w m1.Start.Disp] 0)), ([2], some (.cells [.d (.str x2.Name), .ref [901, 2] v_901_2 0 (List.map Comment.d x2.Notes).length 3, .ref [16] v_16 0 (List.map D.str x2.Names).length 1, .ref [903, 2] v_903_2 0 (List.map SegDef.d x2.Segs).length 8, .ref [904, 2] v_904_2 0 (List.map GrpDef.d x2.Groups).length 2, .ref [905, 2] v_905_2 0 (List.map Ext.d x2.Exts).length 3, .ref [906, 2] v_906_2 0 (List.map Pub.d x2.Pubs).length 5, .ref [907, 2] v_907_2 0 (List.map Data.d x2.Datas).length 4, .b x2.Main, .b x2.Is, .i x2.Start.At, .i x2.Start.Loc, .b x2.Start.Self, .i x2.Start.Frame, .i x2.Start.FrameN, .i x2.Start.Target, .i x2.Start.N, .w x2.Start.Disp] 0)), ([10], some (.cells [.i g10.Name, .ref [901, 10] v_901_10 0 (List.map (D.int .i64) g10.Segs).length 1] 0)), ([16], some (.arr (List.map D.str x2.Names) v_16 false)), ([901, 2], some (.arr (List.map Comment.d x2.Notes) v_901_2 false)), ([901, 10], some (.arr (List.map (D.int .i64) g10.Segs) v_901_10 false)), ([903, 2], some (.arr (List.map SegDef.d x2.Segs) v_903_2 false)), ([904, 2], some (.arr (List.map GrpDef.d x2.Groups) v_904_2 false)), ([905, 2], some (.arr (List.map Ext.d x2.Exts) v_905_2 false)), ([906, 2], some (.arr (List.map Pub.d x2.Pubs) v_906_2 false)), ([907, 2], some (.arr (List.map Data.d x2.Datas) v_907_2 false))]⟩
def hansomref26_base_h97 (x2 : Module) (v_16 : Nat) (v_901_2 : Nat) (v_903_2 : Nat) (v_904_2 : Nat) (v_905_2 : Nat) (v_906_2 : Nat) (v_907_2 : Nat) : St := ⟨tab [(2, .ptr [2] 0 0)], tabB [([2], some (.cells [.d (.str x2.Name), .ref [901, 2] v_901_2 0 (List.map Comment.d x2.Notes).length 3, .ref [16] v_16 0 (List.map D.str x2.Names).length 1, .ref [903, 2] v_903_2 0 (List.map SegDef.d x2.Segs).length 8, .ref [904, 2] v_904_2 0 (List.map GrpDef.d x2.Groups).length 2, .ref [905, 2] v_905_2 0 (List.map Ext.d x2.Exts).length 3, .ref [906, 2] v_906_2 0 (List.map Pub.d x2.Pubs).length 5, .ref [907, 2] v_907_2 0 (List.map Data.d x2.Datas).length 4, .b x2.Main, .b x2.Is, .i x2.Start.At, .i x2.Start.Loc, .b x2.Start.Self, .i x2.Start.Frame, .i x2.Start.FrameN, .i x2.Start.Target, .i x2.Start.N, .w x2.Start.Disp] 0)), ([16], some (.arr (List.map D.str x2.Names) v_16 false)), ([901, 2], some (.arr (List.map Comment.d x2.Notes) v_901_2 false)), ([903, 2], some (.arr (List.map SegDef.d x2.Segs) v_903_2 false)), ([904, 2], some (.arr (List.map GrpDef.d x2.Groups) v_904_2 false)), ([905, 2], some (.arr (List.map Ext.d x2.Exts) v_905_2 false)), ([906, 2], some (.arr (List.map Pub.d x2.Pubs) v_906_2 false)), ([907, 2], some (.arr (List.map Data.d x2.Datas) v_907_2 false))]⟩
def hansomref26_base_Q (m_ : Module) (r : Module) (p : Out × St) : Prop := (∀ i, p.1 ≠ .exit i) ∧ finF F9 [.d (Module.d m_)] p.2 = some (.mix [.d (.str r.Name), .d (.sl (List.map Comment.d r.Notes)), .d (.sl (List.map D.str r.Names)), .arr false 8 (List.map SegDef.d r.Segs), .arr false 2 (List.map GrpDef.d r.Groups), .arr false 3 (List.map Ext.d r.Exts), .arr false 5 (List.map Pub.d r.Pubs), .arr false 4 (List.map Data.d r.Datas), .b r.Main, .b r.Is, .i r.Start.At, .i r.Start.Loc, .b r.Start.Self, .i r.Start.Frame, .i r.Start.FrameN, .i r.Start.Target, .i r.Start.N, .w r.Start.Disp], [.d (Module.d m_)])
def hansomref26_base_P10 (m_ : Module) (m1 : Module) (e : Module) (p : Out × St) : Prop := p.1 = .exit 0 ∧ ∃ g : (Nat × Nat × Nat × Nat × Nat × Nat × Nat), Canon [] [1, 2] [[1], [2], [16], [901, 2], [903, 2], [904, 2], [905, 2], [906, 2], [907, 2]] p.2 (hansomref26_base_h21 m1 e g.1 g.2.1 g.2.2.1 g.2.2.2.1 g.2.2.2.2.1 g.2.2.2.2.2.1 g.2.2.2.2.2.2)
def hansomref26_base_P27 (m_ : Module) (m1 : Module) (n4 : Int) (e : Module) (p : Out × St) : Prop := p.1 = .exit 2 ∧ ∃ g : (Nat × Nat × Nat × Nat × Nat × Nat × Nat), Canon [] [1, 2, 4] [[1], [2], [16], [901, 2], [903, 2], [904, 2], [905, 2], [906, 2], [907, 2]] p.2 (hansomref26_base_h42 m1 e n4 g.1 g.2.1 g.2.2.1 g.2.2.2.1 g.2.2.2.2.1 g.2.2.2.2.2.1 g.2.2.2.2.2.2)
def hansomref26_base_P46 (m_ : Module) (m1 : Module) (n4 : Int) (e : Module) (p : Out × St) : Prop := p.1 = .exit 4 ∧ ∃ g : (Nat × Nat × Nat × Nat × Nat × Nat × Nat), Canon [] [1, 2, 4] [[1], [2], [16], [901, 2], [903, 2], [904, 2], [905, 2], [906, 2], [907, 2]] p.2 (hansomref26_base_h65 m1 e n4 g.1 g.2.1 g.2.2.1 g.2.2.2.1 g.2.2.2.2.1 g.2.2.2.2.2.1 g.2.2.2.2.2.2)
def hansomref26_base_P84 (m_ : Module) (m1 : Module) (x2 : Module) (n4 : Int) (i9 : Int) (e : GrpDef) (p : Out × St) : Prop := p.1 = .exit 8 ∧ ∃ g : (Nat × Nat × Nat × Nat × Nat × Nat × Nat × Nat), Canon [] [1, 2, 4, 9, 10] [[1], [2], [10], [16], [901, 2], [901, 10], [903, 2], [904, 2], [905, 2], [906, 2], [907, 2]] p.2 (hansomref26_base_h95 m1 x2 e n4 i9 g.1 g.2.1 g.2.2.1 g.2.2.2.1 g.2.2.2.2.1 g.2.2.2.2.2.1 g.2.2.2.2.2.2.1 g.2.2.2.2.2.2.2)
def hansomref26_base_P69 (m_ : Module) (m1 : Module) (n4 : Int) (e : Module) (p : Out × St) : Prop := p.1 = .exit 6 ∧ ∃ g : (Nat × Nat × Nat × Nat × Nat × Nat × Nat), Canon [] [2] [[2], [16], [901, 2], [903, 2], [904, 2], [905, 2], [906, 2], [907, 2]] p.2 (hansomref26_base_h97 e g.1 g.2.1 g.2.2.1 g.2.2.2.1 g.2.2.2.2.1 g.2.2.2.2.2.1 g.2.2.2.2.2.2)
theorem hansomref26_base_l10_ok (m_ : Module) (m1 : Module) (x2 : Module) (i3 : Int) (v_16 : Nat) (v_901_2 : Nat) (v_903_2 : Nat) (v_904_2 : Nat) (v_905_2 : Nat) (v_906_2 : Nat) (v_907_2 : Nat) (r : (Lp (Module × Int) Module)) (h : hansomref26_base_l10 m1 x2 i3 = some r) : Runs L F9l10 (hansomref26_base_h10 m1 x2 i3 v_16 v_901_2 v_903_2 v_904_2 v_905_2 v_906_2 v_907_2) (LQ [] [1, 2, 3] [[1], [2], [16], [901, 2], [903, 2], [904, 2], [905, 2], [906, 2], [907, 2]] (fun (x : (Module × Int)) (g : (Nat × Nat × Nat × Nat × Nat × Nat × Nat)) => hansomref26_base_h10 m1 x.1 x.2 g.1 g.2.1 g.2.2.1 g.2.2.2.1 g.2.2.2.2.1 g.2.2.2.2.2.1 g.2.2.2.2.2.2) (hansomref26_base_P10 m_ m1) r) := by
 unfold hansomref26_base_l10 at h
 refine Sq <| Sq <| Ro <| Rc 3 [vi i3, vp [1] 0 2, ⟨.d (.sl (List.map D.str m1.Names)), []⟩] <| Rt (some 21) .lenL [] none [.d (.sl (List.map D.str m1.Names))] (.i (m1.Names.length : Int)) [] (cut_len _) <| Rc 2 [vb (decide (i3 < (m1.Names.length : Int))), vb (decide (i3 < (m1.Names.length : Int)))] ?_
 cases hb_1 : ((decide (i3 < (m1.Names.length : Int))) : Bool) with
 | true =>
  replace h := ite_t hb_1 h
  refine Rc 3 [vi i3, vb (decide (i3 < 4)), vb (decide (i3 < 4))] <| Rk ?_
  cases hb_2 : ((decide (i3 < 4)) : Bool) with
  | true =>
   replace h := ite_t hb_2 h
   refine Ct <| Runs.skip <| kS_nrm <| Sq <| Runs.block <| Ro <| Rc 5 [vp [2] 0 2, ⟨.ref [16] v_16 0 (List.map D.str x2.Names).length 1, []⟩, vp [1] 0 2, ⟨.d (.sl (List.map D.str m1.Names)), []⟩, vi i3] ?_
   obtain ⟨z_1, hz_1, h⟩ := bind_s h
   refine Rt (some 34) (.iaddrS 1) [] none [.d (.sl (List.map D.str m1.Names)), .i i3] (.elt (.str z_1) 0) [] (cut_at hz_1 (fun _ => rfl)) <| Rc 1 [⟨.d (.str z_1), []⟩] ?_
   obtain ⟨r_2, hr_2, h⟩ := bind_s h
   have hc_2 := hansomref26_cut_L z_1 r_2 hr_2
   refine Rt (some 36) (.callf 10) [] (some []) [.d (.str z_1)] (.d (.str r_2)) [] (cc hc_2) <| Rc 1 [⟨.ref [37] 0 0 (List.map D.str ([r_2] : List (List UInt8))).length 1, [([37], some (.arr (List.map D.str ([r_2] : List (List UInt8))) 0 false))]⟩] ?_
   obtain ⟨z_2, hz_2, h⟩ := bind_s h
   refine Rt (some 38) (.append 1 16 false) [] none [.ref [16] v_16 0 (List.map D.str x2.Names).length 1, .ref [37] 0 0 (List.map D.str ([r_2] : List (List UInt8))).length 1] (.ref [16] (v_16 + 1) 0 (List.map D.str z_2).length 1) [([16], some (.arr (List.map D.str z_2) (v_16 + 1) false))] (cut_appR (e := D.str) (l := x2.Names) (fz := false) (ws := []) (ap_ref (e := D.str) (l := ([r_2] : List (List UInt8))) (fz := false) (by kernel_rfl) (by kernel_rfl) rfl) (fun _ => rfl) hz_2 (by kernel_rfl) (by kernel_rfl) rfl) <| Rc 2 [vp [2] 0 2, ⟨.tup [], [([2], some (.cells [.d (.str x2.Name), .ref [901, 2] v_901_2 0 (List.map Comment.d x2.Notes).length 3, .ref [16] (v_16 + 1) 0 (List.map D.str z_2).length 1, .ref [903, 2] v_903_2 0 (List.map SegDef.d x2.Segs).length 8, .ref [904, 2] v_904_2 0 (List.map GrpDef.d x2.Groups).length 2, .ref [905, 2] v_905_2 0 (List.map Ext.d x2.Exts).length 3, .ref [906, 2] v_906_2 0 (List.map Pub.d x2.Pubs).length 5, .ref [907, 2] v_907_2 0 (List.map Data.d x2.Datas).length 4, .b x2.Main, .b x2.Is, .i x2.Start.At, .i x2.Start.Loc, .b x2.Start.Self, .i x2.Start.Frame, .i x2.Start.FrameN, .i x2.Start.Target, .i x2.Start.N, .w x2.Start.Disp] 0))]⟩] <| Rd <| kB_nrm <| kS_nrm <| Ro <| Rc 3 [vi i3, vi (IntKind.wrap .i64 (i3 + 1)), vi (IntKind.wrap .i64 (i3 + 1))] <| Rd ?_
   obtain rfl := sj h
   exact ⟨rfl, ((v_16 + 1), v_901_2, v_903_2, v_904_2, v_905_2, v_906_2, v_907_2), Cz⟩
  | false =>
   replace h := ite_f hb_2 h
   refine Cf <| Runs.exit <| kS_exit ?_
   obtain rfl := sj h
   exact ⟨nofun, rfl, (v_16, v_901_2, v_903_2, v_904_2, v_905_2, v_906_2, v_907_2), Cz⟩
 | false =>
  replace h := ite_f hb_1 h
  refine Rc 3 [vn, vn, vb false] <| Rk <| Cf <| Runs.exit <| kS_exit ?_
  obtain rfl := sj h
  exact ⟨nofun, rfl, (v_16, v_901_2, v_903_2, v_904_2, v_905_2, v_906_2, v_907_2), Cz⟩
theorem hansomref26_base_l27_ok (m_ : Module) (m1 : Module) (x2 : Module) (n4 : Int) (i5 : Int) (v_16 : Nat) (v_901_2 : Nat) (v_903_2 : Nat) (v_904_2 : Nat) (v_905_2 : Nat) (v_906_2 : Nat) (v_907_2 : Nat) (r : (Lp (Module × Int) Module)) (h : hansomref26_base_l27 m1 x2 n4 i5 = some r) : Runs L F9l27 (hansomref26_base_h27 m1 x2 n4 i5 v_16 v_901_2 v_903_2 v_904_2 v_905_2 v_906_2 v_907_2) (LQ [] [1, 2, 4, 5] [[1], [2], [16], [901, 2], [903, 2], [904, 2], [905, 2], [906, 2], [907, 2]] (fun (x : (Module × Int)) (g : (Nat × Nat × Nat × Nat × Nat × Nat × Nat)) => hansomref26_base_h27 m1 x.1 n4 x.2 g.1 g.2.1 g.2.2.1 g.2.2.2.1 g.2.2.2.2.1 g.2.2.2.2.2.1 g.2.2.2.2.2.2) (hansomref26_base_P27 m_ m1 n4) r) := by
 unfold hansomref26_base_l27 at h
 refine Sq <| Sq <| Ro <| Rc 3 [vi i5, vp [1] 0 1, ⟨.d (.sl (List.map Comment.d m1.Notes)), []⟩] <| Rt (some 46) .lenL [] none [.d (.sl (List.map Comment.d m1.Notes))] (.i (m1.Notes.length : Int)) [] (cut_len _) <| Rc 2 [vb (decide (i5 < (m1.Notes.length : Int))), vb (decide (i5 < (m1.Notes.length : Int)))] ?_
 cases hb_1 : ((decide (i5 < (m1.Notes.length : Int))) : Bool) with
 | true =>
  replace h := ite_t hb_1 h
  refine Rc 3 [vi i5, vb (decide (i5 < 2)), vb (decide (i5 < 2))] <| Rk ?_
  cases hb_2 : ((decide (i5 < 2)) : Bool) with
  | true =>
   replace h := ite_t hb_2 h
   refine Ct <| Runs.skip <| kS_nrm <| Sq <| Runs.block <| Sq <| Ro <| Rc 3 [vp [1] 0 1, ⟨.d (.sl (List.map Comment.d m1.Notes)), []⟩, vi i5] ?_
   obtain ⟨z_1, hz_1, h⟩ := bind_s h
   refine Rt (some 57) (.iaddrS 3) [] none [.d (.sl (List.map Comment.d m1.Notes)), .i i5] (.elt (Comment.d z_1) 0) [] (cut_at hz_1 (fun _ => rfl)) <| Rc 3 [⟨.d (Comment.d z_1), []⟩, ⟨.ptr [6] 0 0, [([6], some (.cells [.y 0, .y 0, .d (.str [])] 0))]⟩, ⟨.tup [], [([6], some (.cells [.y z_1.Flags, .y z_1.Class, .d (.str z_1.Text)] 0))]⟩] <| Rk <| Sq <| Ro <| Rc 2 [vp [6] 0 2, ⟨.d (.str z_1.Text), []⟩] ?_
   obtain ⟨r_2, hr_2, h⟩ := bind_s h
   have hc_2 := hansomref26_cut_L z_1.Text r_2 hr_2
   refine Rt (some 61) (.callf 10) [] none [.d (.str z_1.Text)] (.d (.str r_2)) [] (cc hc_2) <| Rc 2 [vp [6] 0 2, ⟨.tup [], [([6], some (.cells [.y z_1.Flags, .y z_1.Class, .d (.str r_2)] 0))]⟩] <| Rk <| Ro <| Rc 4 [vp [2] 0 1, ⟨.ref [901, 2] v_901_2 0 (List.map Comment.d x2.Notes).length 3, []⟩, ⟨.d (.agg [.int .u8 z_1.Flags, .int .u8 z_1.Class, .str r_2]), []⟩, ⟨.ref [66] 0 0 (List.map Comment.d ([({ Flags := z_1.Flags, Class := z_1.Class, Text := r_2 } : Comment)] : List Comment)).length 3, [([66], some (.arr (List.map Comment.d ([({ Flags := z_1.Flags, Class := z_1.Class, Text := r_2 } : Comment)] : List Comment)) 0 false))]⟩] ?_
   obtain ⟨z_2, hz_2, h⟩ := bind_s h
   refine Rt (some 67) (.append 3 24 false) [] none [.ref [901, 2] v_901_2 0 (List.map Comment.d x2.Notes).length 3, .ref [66] 0 0 (List.map Comment.d ([({ Flags := z_1.Flags, Class := z_1.Class, Text := r_2 } : Comment)] : List Comment)).length 3] (.ref [901, 2] (v_901_2 + 1) 0 (List.map Comment.d z_2).length 3) [([901, 2], some (.arr (List.map Comment.d z_2) (v_901_2 + 1) false))] (cut_appR (e := Comment.d) (l := x2.Notes) (fz := false) (ws := []) (ap_ref (e := Comment.d) (l := ([({ Flags := z_1.Flags, Class := z_1.Class, Text := r_2 } : Comment)] : List Comment)) (fz := false) (by kernel_rfl) (by kernel_rfl) rfl) (fun _ => rfl) hz_2 (by kernel_rfl) (by kernel_rfl) rfl) <| Rc 2 [vp [2] 0 1, ⟨.tup [], [([2], some (.cells [.d (.str x2.Name), .ref [901, 2] (v_901_2 + 1) 0 (List.map Comment.d z_2).length 3, .ref [16] v_16 0 (List.map D.str x2.Names).length 1, .ref [903, 2] v_903_2 0 (List.map SegDef.d x2.Segs).length 8, .ref [904, 2] v_904_2 0 (List.map GrpDef.d x2.Groups).length 2, .ref [905, 2] v_905_2 0 (List.map Ext.d x2.Exts).length 3, .ref [906, 2] v_906_2 0 (List.map Pub.d x2.Pubs).length 5, .ref [907, 2] v_907_2 0 (List.map Data.d x2.Datas).length 4, .b x2.Main, .b x2.Is, .i x2.Start.At, .i x2.Start.Loc, .b x2.Start.Self, .i x2.Start.Frame, .i x2.Start.FrameN, .i x2.Start.Target, .i x2.Start.N, .w x2.Start.Disp] 0))]⟩] <| Rd <| kB_nrm <| kS_nrm <| Ro <| Rc 3 [vi i5, vi (IntKind.wrap .i64 (i5 + 1)), vi (IntKind.wrap .i64 (i5 + 1))] ?_
   refine Rd ?_
   obtain rfl := sj h
   exact ⟨rfl, (v_16, (v_901_2 + 1), v_903_2, v_904_2, v_905_2, v_906_2, v_907_2), Cz⟩
  | false =>
   replace h := ite_f hb_2 h
   refine Cf <| Runs.exit <| kS_exit ?_
   obtain rfl := sj h
   exact ⟨nofun, rfl, (v_16, v_901_2, v_903_2, v_904_2, v_905_2, v_906_2, v_907_2), Cz⟩
 | false =>
  replace h := ite_f hb_1 h
  refine Rc 3 [vn, vn, vb false] <| Rk <| Cf <| Runs.exit <| kS_exit ?_
  obtain rfl := sj h
  exact ⟨nofun, rfl, (v_16, v_901_2, v_903_2, v_904_2, v_905_2, v_906_2, v_907_2), Cz⟩
theorem hansomref26_base_j63_ok (m_ : Module) (m1 : Module) (x2 : Module) (s8 : SegDef) (n4 : Int) (i7 : Int) (v_16 : Nat) (v_901_2 : Nat) (v_903_2 : Nat) (v_904_2 : Nat) (v_905_2 : Nat) (v_906_2 : Nat) (v_907_2 : Nat) (r : (Lp (Module × Int) Module)) (h : hansomref26_base_j63 m1 x2 s8 n4 i7 = some r) : Runs L F9b63 (hansomref26_base_h63 m1 x2 s8 n4 i7 v_16 v_901_2 v_903_2 v_904_2 v_905_2 v_906_2 v_907_2) (kB 5 (kS L F9c64 (LQ [] [1, 2, 4, 7] [[1], [2], [16], [901, 2], [903, 2], [904, 2], [905, 2], [906, 2], [907, 2]] (fun (x : (Module × Int)) (g : (Nat × Nat × Nat × Nat × Nat × Nat × Nat)) => hansomref26_base_h46 m1 x.1 n4 x.2 g.1 g.2.1 g.2.2.1 g.2.2.2.1 g.2.2.2.2.1 g.2.2.2.2.2.1 g.2.2.2.2.2.2) (hansomref26_base_P46 m_ m1 n4) r))) := by
 unfold hansomref26_base_j63 at h
 refine Ro <| Rc 10 [vp [2] 0 3, ⟨.ref [903, 2] v_903_2 0 (List.map SegDef.d x2.Segs).length 8, []⟩, vp [8] 0 0, vi s8.Align, vi (bitsOp .and .i64 s8.Align 3), vi (IntKind.wrap .i64 ((bitsOp .and .i64 s8.Align 3) + 1)), ⟨.ref [101] 0 0 (List.map (D.int .i64) ([0, 2, 5, 6] : List Int)).length 1, [([101], some (.arr (List.map (D.int .i64) ([0, 2, 5, 6] : List Int)) 0 false))]⟩, vp [8] 0 1, vi s8.Combine, vi (bitsOp .and .i64 s8.Combine 3)] ?_
 obtain ⟨z_2, hz_2, h⟩ := bind_s h
 refine Rt (some 105) (.iaddrS 1) [] none [.ref [101] 0 0 (List.map (D.int .i64) ([0, 2, 5, 6] : List Int)).length 1, .i (bitsOp .and .i64 s8.Combine 3)] (.eref [101] 0 (0 + ((bitsOp .and .i64 s8.Combine 3)).toNat) 0) [] (cut_atR (e := (D.int .i64)) (l := ([0, 2, 5, 6] : List Int)) hz_2 rfl) <| Rt (some 106) (.load none) [] none [.eref [101] 0 (0 + ((bitsOp .and .i64 s8.Combine 3)).toNat) 0] (.i z_2) [] (cut_loadR (e := (D.int .i64)) (l := ([0, 2, 5, 6] : List Int)) (fz := false) (y := z_2) (by kernel_rfl) hz_2 (by kernel_rfl) (by kernel_rfl)) <| Rc 9 [vp [8] 0 4, vi s8.Len, vi (bitsOp .and .i64 s8.Len 63), vi (IntKind.wrap .i64 ((bitsOp .and .i64 s8.Len 63) + 8)), vp [8] 0 5, vi s8.Name, vi (bitsOp .and .i64 s8.Name 255), vi n4, vi (IntKind.wrap .i64 (n4 + 1))] ?_
 obtain ⟨z_3, hz_3, h⟩ := bind_s h
 refine Rt (some 116) (.bin .rem) [] none [.i (bitsOp .and .i64 s8.Name 255), .i (IntKind.wrap .i64 (n4 + 1))] (.i z_3) [] (cut_rem hz_3) <| Rc 5 [vp [8] 0 6, vi s8.Class, vi (bitsOp .and .i64 s8.Class 255), vi n4, vi (IntKind.wrap .i64 (n4 + 1))] ?_
 obtain ⟨z_4, hz_4, h⟩ := bind_s h
 refine Rt (some 122) (.bin .rem) [] none [.i (bitsOp .and .i64 s8.Class 255), .i (IntKind.wrap .i64 (n4 + 1))] (.i z_4) [] (cut_rem hz_4) <| Rc 2 [⟨.d (.agg [.int .i64 (IntKind.wrap .i64 ((bitsOp .and .i64 s8.Align 3) + 1)), .int .i64 z_2, .int .u16 0, .int .u8 0, .int .i64 (IntKind.wrap .i64 ((bitsOp .and .i64 s8.Len 63) + 8)), .int .i64 z_3, .int .i64 z_4, .int .i64 1]), []⟩, ⟨.ref [124] 0 0 (List.map SegDef.d ([({ Align := (IntKind.wrap .i64 ((bitsOp .and .i64 s8.Align 3) + 1)), Combine := z_2, Frame := 0, Offset := 0, Len := (IntKind.wrap .i64 ((bitsOp .and .i64 s8.Len 63) + 8)), Name := z_3, Class := z_4, Overlay := 1 } : SegDef)] : List SegDef)).length 8, [([124], some (.arr (List.map SegDef.d ([({ Align := (IntKind.wrap .i64 ((bitsOp .and .i64 s8.Align 3) + 1)), Combine := z_2, Frame := 0, Offset := 0, Len := (IntKind.wrap .i64 ((bitsOp .and .i64 s8.Len 63) + 8)), Name := z_3, Class := z_4, Overlay := 1 } : SegDef)] : List SegDef)) 0 false))]⟩] ?_
 obtain ⟨z_5, hz_5, h⟩ := bind_s h
 refine Rt (some 125) (.append 8 56 false) [] none [.ref [903, 2] v_903_2 0 (List.map SegDef.d x2.Segs).length 8, .ref [124] 0 0 (List.map SegDef.d ([({ Align := (IntKind.wrap .i64 ((bitsOp .and .i64 s8.Align 3) + 1)), Combine := z_2, Frame := 0, Offset := 0, Len := (IntKind.wrap .i64 ((bitsOp .and .i64 s8.Len 63) + 8)), Name := z_3, Class := z_4, Overlay := 1 } : SegDef)] : List SegDef)).length 8] (.ref [903, 2] (v_903_2 + 1) 0 (List.map SegDef.d z_5).length 8) [([903, 2], some (.arr (List.map SegDef.d z_5) (v_903_2 + 1) false))] (cut_appR (e := SegDef.d) (l := x2.Segs) (fz := false) (ws := []) (ap_ref (e := SegDef.d) (l := ([({ Align := (IntKind.wrap .i64 ((bitsOp .and .i64 s8.Align 3) + 1)), Combine := z_2, Frame := 0, Offset := 0, Len := (IntKind.wrap .i64 ((bitsOp .and .i64 s8.Len 63) + 8)), Name := z_3, Class := z_4, Overlay := 1 } : SegDef)] : List SegDef)) (fz := false) (by kernel_rfl) (by kernel_rfl) rfl) (fun _ => rfl) hz_5 (by kernel_rfl) (by kernel_rfl) rfl) <| Rc 2 [vp [2] 0 3, ⟨.tup [], [([2], some (.cells [.d (.str x2.Name), .ref [901, 2] v_901_2 0 (List.map Comment.d x2.Notes).length 3, .ref [16] v_16 0 (List.map D.str x2.Names).length 1, .ref [903, 2] (v_903_2 + 1) 0 (List.map SegDef.d z_5).length 8, .ref [904, 2] v_904_2 0 (List.map GrpDef.d x2.Groups).length 2, .ref [905, 2] v_905_2 0 (List.map Ext.d x2.Exts).length 3, .ref [906, 2] v_906_2 0 (List.map Pub.d x2.Pubs).length 5, .ref [907, 2] v_907_2 0 (List.map Data.d x2.Datas).length 4, .b x2.Main, .b x2.Is, .i x2.Start.At, .i x2.Start.Loc, .b x2.Start.Self, .i x2.Start.Frame, .i x2.Start.FrameN, .i x2.Start.Target, .i x2.Start.N, .w x2.Start.Disp] 0))]⟩] ?_
 refine Rd <| kB_nrm <| kS_nrm <| Ro <| Rc 3 [vi i7, vi (IntKind.wrap .i64 (i7 + 1)), vi (IntKind.wrap .i64 (i7 + 1))] <| Rd ?_
 obtain rfl := sj h
 exact ⟨rfl, (v_16, v_901_2, (v_903_2 + 1), v_904_2, v_905_2, v_906_2, v_907_2), Cz⟩
theorem hansomref26_base_j53_ok (m_ : Module) (m1 : Module) (x2 : Module) (n4 : Int) (i7 : Int) (v_16 : Nat) (v_901_2 : Nat) (v_903_2 : Nat) (v_904_2 : Nat) (v_905_2 : Nat) (v_906_2 : Nat) (v_907_2 : Nat) (r : (Lp (Module × Int) Module)) (h : hansomref26_base_j53 m1 x2 n4 i7 = some r) : Runs L F9b53 (hansomref26_base_h53 m1 x2 n4 i7 v_16 v_901_2 v_903_2 v_904_2 v_905_2 v_906_2 v_907_2) (LQ [] [1, 2, 4, 7] [[1], [2], [16], [901, 2], [903, 2], [904, 2], [905, 2], [906, 2], [907, 2]] (fun (x : (Module × Int)) (g : (Nat × Nat × Nat × Nat × Nat × Nat × Nat)) => hansomref26_base_h46 m1 x.1 n4 x.2 g.1 g.2.1 g.2.2.1 g.2.2.2.1 g.2.2.2.2.1 g.2.2.2.2.2.1 g.2.2.2.2.2.2) (hansomref26_base_P46 m_ m1 n4) r) := by
 unfold hansomref26_base_j53 at h
 refine Sq <| Runs.block <| Sq <| Ro <| Rc 3 [⟨.d (.agg [.int .i64 0, .int .i64 0, .int .u16 0, .int .u8 0, .int .i64 0, .int .i64 0, .int .i64 0, .int .i64 0]), []⟩, ⟨.ptr [8] 0 0, [([8], some (.cells [.i 0, .i 0, .w 0, .y 0, .i 0, .i 0, .i 0, .i 0] 0))]⟩, ⟨.tup [], [([8], some (.cells [.i 0, .i 0, .w 0, .y 0, .i 0, .i 0, .i 0, .i 0] 0))]⟩] <| Rk <| Sq <| Sq <| Ro <| Rc 3 [vi i7, vp [1] 0 3, ⟨.d (.sl (List.map SegDef.d m1.Segs)), []⟩] <| Rt (some 88) .lenL [] none [.d (.sl (List.map SegDef.d m1.Segs))] (.i (m1.Segs.length : Int)) [] (cut_len _) <| Rc 1 [vb (decide (i7 < (m1.Segs.length : Int)))] <| Rk ?_
 cases hb_2 : ((decide (i7 < (m1.Segs.length : Int))) : Bool) with
 | true =>
  replace h := ite_t hb_2 h
  refine Ct <| Ro <| Rc 3 [vp [1] 0 3, ⟨.d (.sl (List.map SegDef.d m1.Segs)), []⟩, vi i7] ?_
  obtain ⟨z_1, hz_1, h⟩ := bind_s h
  refine Rt (some 93) (.iaddrS 8) [] none [.d (.sl (List.map SegDef.d m1.Segs)), .i i7] (.elt (SegDef.d z_1) 0) [] (cut_at hz_1 (fun _ => rfl)) <| Rc 2 [⟨.d (SegDef.d z_1), []⟩, ⟨.tup [], [([8], some (.cells [.i z_1.Align, .i z_1.Combine, .w z_1.Frame, .y z_1.Offset, .i z_1.Len, .i z_1.Name, .i z_1.Class, .i z_1.Overlay] 0))]⟩] <| Rk <| Runs.canon (hansomref26_base_h63 m1 x2 z_1 n4 i7 v_16 v_901_2 v_903_2 v_904_2 v_905_2 v_906_2 v_907_2) Cz ?_
  exact hansomref26_base_j63_ok m_ m1 x2 z_1 n4 i7 v_16 v_901_2 v_903_2 v_904_2 v_905_2 v_906_2 v_907_2 r h
 | false =>
  replace h := ite_f hb_2 h
  refine Cf <| Runs.skip <| kS_nrm <| Runs.canon (hansomref26_base_h63 m1 x2 ({ Align := 0, Combine := 0, Frame := 0, Offset := 0, Len := 0, Name := 0, Class := 0, Overlay := 0 } : SegDef) n4 i7 v_16 v_901_2 v_903_2 v_904_2 v_905_2 v_906_2 v_907_2) Cz ?_
  exact hansomref26_base_j63_ok m_ m1 x2 ({ Align := 0, Combine := 0, Frame := 0, Offset := 0, Len := 0, Name := 0, Class := 0, Overlay := 0 } : SegDef) n4 i7 v_16 v_901_2 v_903_2 v_904_2 v_905_2 v_906_2 v_907_2 r h
theorem hansomref26_base_l46_ok (m_ : Module) (m1 : Module) (x2 : Module) (n4 : Int) (i7 : Int) (v_16 : Nat) (v_901_2 : Nat) (v_903_2 : Nat) (v_904_2 : Nat) (v_905_2 : Nat) (v_906_2 : Nat) (v_907_2 : Nat) (r : (Lp (Module × Int) Module)) (h : hansomref26_base_l46 m1 x2 n4 i7 = some r) : Runs L F9l46 (hansomref26_base_h46 m1 x2 n4 i7 v_16 v_901_2 v_903_2 v_904_2 v_905_2 v_906_2 v_907_2) (LQ [] [1, 2, 4, 7] [[1], [2], [16], [901, 2], [903, 2], [904, 2], [905, 2], [906, 2], [907, 2]] (fun (x : (Module × Int)) (g : (Nat × Nat × Nat × Nat × Nat × Nat × Nat)) => hansomref26_base_h46 m1 x.1 n4 x.2 g.1 g.2.1 g.2.2.1 g.2.2.2.1 g.2.2.2.2.1 g.2.2.2.2.2.1 g.2.2.2.2.2.2) (hansomref26_base_P46 m_ m1 n4) r) := by
 unfold hansomref26_base_l46 at h
 refine Sq <| Sq <| Ro <| Rc 3 [vi i7, vb (i7 == 0), vb (i7 == 0)] ?_
 cases hb_1 : ((i7 == 0) : Bool) with
 | true =>
  replace h := ite_t hb_1 h
  refine Rc 10 [vn, vn, vn, vn, vn, vn, vn, vn, vn, vb true] <| Rk <| Ct <| Runs.skip <| kS_nrm <| Runs.canon (hansomref26_base_h53 m1 x2 n4 i7 v_16 v_901_2 v_903_2 v_904_2 v_905_2 v_906_2 v_907_2) Cz ?_
  exact hansomref26_base_j53_ok m_ m1 x2 n4 i7 v_16 v_901_2 v_903_2 v_904_2 v_905_2 v_906_2 v_907_2 r h
 | false =>
  replace h := ite_f hb_1 h
  refine Rc 3 [vi i7, vp [1] 0 3, ⟨.d (.sl (List.map SegDef.d m1.Segs)), []⟩] <| Rt (some 75) .lenL [] none [.d (.sl (List.map SegDef.d m1.Segs))] (.i (m1.Segs.length : Int)) [] (cut_len _) <| Rc 2 [vb (decide (i7 < (m1.Segs.length : Int))), vb (decide (i7 < (m1.Segs.length : Int)))] ?_
  cases hb_3 : ((decide (i7 < (m1.Segs.length : Int))) : Bool) with
  | true =>
   replace h := ite_t hb_3 h
   refine Rc 4 [vi i7, vb (decide (i7 < 4)), vb (decide (i7 < 4)), vb (decide (i7 < 4))] <| Rk ?_
   cases hb_4 : ((decide (i7 < 4)) : Bool) with
   | true =>
    replace h := ite_t hb_4 h
    refine Ct <| Runs.skip <| kS_nrm <| Runs.canon (hansomref26_base_h53 m1 x2 n4 i7 v_16 v_901_2 v_903_2 v_904_2 v_905_2 v_906_2 v_907_2) Cz ?_
    exact hansomref26_base_j53_ok m_ m1 x2 n4 i7 v_16 v_901_2 v_903_2 v_904_2 v_905_2 v_906_2 v_907_2 r h
   | false =>
    replace h := ite_f hb_4 h
    refine Cf <| Runs.exit <| kS_exit ?_
    obtain rfl := sj h
    exact ⟨nofun, rfl, (v_16, v_901_2, v_903_2, v_904_2, v_905_2, v_906_2, v_907_2), Cz⟩
  | false =>
   replace h := ite_f hb_3 h
   refine Rc 4 [vn, vn, vb false, vb false] <| Rk <| Cf <| Runs.exit <| kS_exit ?_
   obtain rfl := sj h
   exact ⟨nofun, rfl, (v_16, v_901_2, v_903_2, v_904_2, v_905_2, v_906_2, v_907_2), Cz⟩
theorem hansomref26_base_l84_ok (m_ : Module) (m1 : Module) (x2 : Module) (g10 : GrpDef) (n4 : Int) (i9 : Int) (k11 : Int) (v_16 : Nat) (v_901_2 : Nat) (v_901_10 : Nat) (v_903_2 : Nat) (v_904_2 : Nat) (v_905_2 : Nat) (v_906_2 : Nat) (v_907_2 : Nat) (r : (Lp (GrpDef × Int) GrpDef)) (h : hansomref26_base_l84 m1 x2 g10 n4 i9 k11 = some r) : Runs L F9l84 (hansomref26_base_h84 m1 x2 g10 n4 i9 k11 v_16 v_901_2 v_901_10 v_903_2 v_904_2 v_905_2 v_906_2 v_907_2) (LQ [] [1, 2, 4, 9, 10, 11] [[1], [2], [10], [16], [901, 2], [901, 10], [903, 2], [904, 2], [905, 2], [906, 2], [907, 2]] (fun (x : (GrpDef × Int)) (g : (Nat × Nat × Nat × Nat × Nat × Nat × Nat × Nat)) => hansomref26_base_h84 m1 x2 x.1 n4 i9 x.2 g.1 g.2.1 g.2.2.1 g.2.2.2.1 g.2.2.2.2.1 g.2.2.2.2.2.1 g.2.2.2.2.2.2.1 g.2.2.2.2.2.2.2) (hansomref26_base_P84 m_ m1 x2 n4 i9) r) := by
 unfold hansomref26_base_l84 at h
 refine Sq <| Sq <| Ro <| Rc 4 [vi k11, vp [1] 0 4, ⟨.d (.sl (List.map GrpDef.d m1.Groups)), []⟩, vi i9] ?_
 obtain ⟨z_3, hz_3, h⟩ := bind_s h
 refine Rt (some 153) (.iaddrS 2) [] none [.d (.sl (List.map GrpDef.d m1.Groups)), .i i9] (.elt (GrpDef.d z_3) 0) [] (cut_at hz_3 (fun _ => rfl)) <| Rc 2 [⟨.elt (GrpDef.d z_3) 1, []⟩, ⟨.d (.sl (List.map (D.int .i64) z_3.Segs)), []⟩] <| Rt (some 156) .lenL [] none [.d (.sl (List.map (D.int .i64) z_3.Segs))] (.i (z_3.Segs.length : Int)) [] (cut_len _) <| Rc 2 [vb (decide (k11 < (z_3.Segs.length : Int))), vb (decide (k11 < (z_3.Segs.length : Int)))] ?_
 cases hb_3 : ((decide (k11 < (z_3.Segs.length : Int))) : Bool) with
 | true =>
  replace h := ite_t hb_3 h
  refine Rc 3 [vi k11, vb (decide (k11 < 3)), vb (decide (k11 < 3))] <| Rk ?_
  cases hb_4 : ((decide (k11 < 3)) : Bool) with
  | true =>
   replace h := ite_t hb_4 h
   refine Ct <| Runs.skip <| kS_nrm <| Sq <| Runs.block <| Ro <| Rc 5 [vp [10] 0 1, ⟨.ref [901, 10] v_901_10 0 (List.map (D.int .i64) g10.Segs).length 1, []⟩, vp [1] 0 4, ⟨.d (.sl (List.map GrpDef.d m1.Groups)), []⟩, vi i9] ?_
   obtain ⟨z_4, hz_4, h⟩ := bind_s h
   refine Rt (some 169) (.iaddrS 2) [] none [.d (.sl (List.map GrpDef.d m1.Groups)), .i i9] (.elt (GrpDef.d z_4) 0) [] (cut_at hz_4 (fun _ => rfl)) <| Rc 3 [⟨.elt (GrpDef.d z_4) 1, []⟩, ⟨.d (.sl (List.map (D.int .i64) z_4.Segs)), []⟩, vi k11] ?_
   obtain ⟨z_5, hz_5, h⟩ := bind_s h
   refine Rt (some 173) (.iaddrS 1) [] none [.d (.sl (List.map (D.int .i64) z_4.Segs)), .i k11] (.elt (.int .i64 z_5) 0) [] (cut_at hz_5 (fun _ => rfl)) <| Rc 4 [vi z_5, vi (bitsOp .and .i64 z_5 255), vp [2] 0 3, ⟨.ref [903, 2] v_903_2 0 (List.map SegDef.d x2.Segs).length 8, []⟩] <| Rt (some 178) .lenL [] none [.ref [903, 2] v_903_2 0 (List.map SegDef.d x2.Segs).length 8] (.i (x2.Segs.length : Int)) [] (cut_lenR (e := SegDef.d) x2.Segs rfl) ?_
   obtain ⟨z_6, hz_6, h⟩ := bind_s h
   refine Rt (some 179) (.bin .rem) [] none [.i (bitsOp .and .i64 z_5 255), .i (x2.Segs.length : Int)] (.i z_6) [] (cut_rem hz_6) <| Rc 2 [vi (IntKind.wrap .i64 (z_6 + 1)), ⟨.ref [181] 0 0 (List.map (D.int .i64) ([(IntKind.wrap .i64 (z_6 + 1))] : List Int)).length 1, [([181], some (.arr (List.map (D.int .i64) ([(IntKind.wrap .i64 (z_6 + 1))] : List Int)) 0 false))]⟩] ?_
   obtain ⟨z_7, hz_7, h⟩ := bind_s h
   refine Rt (some 182) (.append 1 8 false) [] none [.ref [901, 10] v_901_10 0 (List.map (D.int .i64) g10.Segs).length 1, .ref [181] 0 0 (List.map (D.int .i64) ([(IntKind.wrap .i64 (z_6 + 1))] : List Int)).length 1] (.ref [901, 10] (v_901_10 + 1) 0 (List.map (D.int .i64) z_7).length 1) [([901, 10], some (.arr (List.map (D.int .i64) z_7) (v_901_10 + 1) false))] (cut_appR (e := (D.int .i64)) (l := g10.Segs) (fz := false) (ws := []) (ap_ref (e := (D.int .i64)) (l := ([(IntKind.wrap .i64 (z_6 + 1))] : List Int)) (fz := false) (by kernel_rfl) (by kernel_rfl) rfl) (fun _ => rfl) hz_7 (by kernel_rfl) (by kernel_rfl) rfl) <| Rc 2 [vp [10] 0 1, ⟨.tup [], [([10], some (.cells [.i g10.Name, .ref [901, 10] (v_901_10 + 1) 0 (List.map (D.int .i64) z_7).length 1] 0))]⟩] <| Rd <| kB_nrm <| kS_nrm <| Ro <| Rc 3 [vi k11, vi (IntKind.wrap .i64 (k11 + 1)), vi (IntKind.wrap .i64 (k11 + 1))] <| Rd ?_
   obtain rfl := sj h
   exact ⟨rfl, (v_16, v_901_2, (v_901_10 + 1), v_903_2, v_904_2, v_905_2, v_906_2, v_907_2), Cz⟩
  | false =>
   replace h := ite_f hb_4 h
   refine Cf <| Runs.exit <| kS_exit ?_
   obtain rfl := sj h
   exact ⟨nofun, rfl, (v_16, v_901_2, v_901_10, v_903_2, v_904_2, v_905_2, v_906_2, v_907_2), Cz⟩
 | false =>
  replace h := ite_f hb_3 h
  refine Rc 3 [vn, vn, vb false] <| Rk <| Cf <| Runs.exit <| kS_exit ?_
  obtain rfl := sj h
  exact ⟨nofun, rfl, (v_16, v_901_2, v_901_10, v_903_2, v_904_2, v_905_2, v_906_2, v_907_2), Cz⟩
theorem hansomref26_base_l69_ok (m_ : Module) (m1 : Module) (x2 : Module) (n4 : Int) (i9 : Int) (v_16 : Nat) (v_901_2 : Nat) (v_903_2 : Nat) (v_904_2 : Nat) (v_905_2 : Nat) (v_906_2 : Nat) (v_907_2 : Nat) (r : (Lp (Module × Int) Module)) (h : hansomref26_base_l69 m1 x2 n4 i9 = some r) : Runs L F9l69 (hansomref26_base_h69 m1 x2 n4 i9 v_16 v_901_2 v_903_2 v_904_2 v_905_2 v_906_2 v_907_2) (LQ [] [1, 2, 4, 9] [[1], [2], [16], [901, 2], [903, 2], [904, 2], [905, 2], [906, 2], [907, 2]] (fun (x : (Module × Int)) (g : (Nat × Nat × Nat × Nat × Nat × Nat × Nat)) => hansomref26_base_h69 m1 x.1 n4 x.2 g.1 g.2.1 g.2.2.1 g.2.2.2.1 g.2.2.2.2.1 g.2.2.2.2.2.1 g.2.2.2.2.2.2) (hansomref26_base_P69 m_ m1 n4) r) := by
 unfold hansomref26_base_l69 at h
 refine Sq <| Sq <| Ro <| Rc 3 [vi i9, vp [1] 0 4, ⟨.d (.sl (List.map GrpDef.d m1.Groups)), []⟩] <| Rt (some 130) .lenL [] none [.d (.sl (List.map GrpDef.d m1.Groups))] (.i (m1.Groups.length : Int)) [] (cut_len _) <| Rc 2 [vb (decide (i9 < (m1.Groups.length : Int))), vb (decide (i9 < (m1.Groups.length : Int)))] ?_
 cases hb_1 : ((decide (i9 < (m1.Groups.length : Int))) : Bool) with
 | true =>
  replace h := ite_t hb_1 h
  refine Rc 3 [vi i9, vb (decide (i9 < 2)), vb (decide (i9 < 2))] <| Rk ?_
  cases hb_2 : ((decide (i9 < 2)) : Bool) with
  | true =>
   replace h := ite_t hb_2 h
   refine Ct <| Runs.skip <| kS_nrm <| Sq <| Runs.block <| Sq <| Ro <| Rc 3 [vp [1] 0 4, ⟨.d (.sl (List.map GrpDef.d m1.Groups)), []⟩, vi i9] ?_
   obtain ⟨z_1, hz_1, h⟩ := bind_s h
   refine Rt (some 141) (.iaddrS 2) [] none [.d (.sl (List.map GrpDef.d m1.Groups)), .i i9] (.elt (GrpDef.d z_1) 0) [] (cut_at hz_1 (fun _ => rfl)) <| Rc 4 [⟨.elt (GrpDef.d z_1) 0, []⟩, vi z_1.Name, vi (bitsOp .and .i64 z_1.Name 255), vi n4] ?_
   obtain ⟨z_2, hz_2, h⟩ := bind_s h
   refine Rt (some 146) (.bin .rem) [] none [.i (bitsOp .and .i64 z_1.Name 255), .i n4] (.i z_2) [] (cut_rem hz_2) <| Rc 4 [vi (IntKind.wrap .i64 (z_2 + 1)), ⟨.mix [.i (IntKind.wrap .i64 (z_2 + 1)), .nils], []⟩, ⟨.ptr [10] 0 0, [([10], some (.cells [.i 0, .nils] 0))]⟩, ⟨.tup [], [([10], some (.cells [.i (IntKind.wrap .i64 (z_2 + 1)), .nils] 0))]⟩] <| Rk <| Runs.canon (hansomref26_base_h80 m1 x2 ({ Name := (IntKind.wrap .i64 (z_2 + 1)), Segs := ([] : List Int) } : GrpDef) n4 i9 v_16 v_901_2 0 v_903_2 v_904_2 v_905_2 v_906_2 v_907_2) (Canon.cons (ownB_nil (ver := 0) (v := 0) (cs := [.i (IntKind.wrap .i64 (z_2 + 1)), .nils]) (cs' := [.i (IntKind.wrap .i64 (z_2 + 1)), .ref [901, 10] 0 0 (List.map (D.int .i64) ([] : List Int)).length 1]) (D.int .i64) (by kernel_rfl) (by kernel_rfl) (by kernel_rfl) (by decide) (by kernel_rfl)) Cz) <| Sq <| Sq <| Ro <| Rc 1 [vi 0] <| Rk <| Runs.block ?_
   obtain ⟨e_4, he_4, h⟩ := bind_s h
   refine Runs.loop (fun x : (GrpDef × Int) => hansomref26_base_l84 m1 x2 x.1 n4 i9 x.2) (fun (x : (GrpDef × Int)) (g : (Nat × Nat × Nat × Nat × Nat × Nat × Nat × Nat)) => hansomref26_base_h84 m1 x2 x.1 n4 i9 x.2 g.1 g.2.1 g.2.2.1 g.2.2.2.1 g.2.2.2.2.1 g.2.2.2.2.2.1 g.2.2.2.2.2.2.1 g.2.2.2.2.2.2.2) (hansomref26_base_P84 m_ m1 x2 n4 i9) (fun x g r hr => hansomref26_base_l84_ok m_ m1 x2 x.1 n4 i9 x.2 g.1 g.2.1 g.2.2.1 g.2.2.2.1 g.2.2.2.2.1 g.2.2.2.2.2.1 g.2.2.2.2.2.2.1 g.2.2.2.2.2.2.2 r hr) (v_16, v_901_2, 0, v_903_2, v_904_2, v_905_2, v_906_2, v_907_2) he_4 Cz ?_
   rintro ⟨o, s⟩ hp
   obtain ⟨ho, g_4, hk_4⟩ := hp
   have ho' : o = .exit 8 := ho
   subst ho'
   refine kB_hit <| kS_nrm <| Runs.canon _ hk_4 <| Ro <| Rc 3 [vp [2] 0 4, ⟨.ref [904, 2] g_4.2.2.2.2.1 0 (List.map GrpDef.d x2.Groups).length 2, []⟩, ⟨.mix [.i e_4.Name, .ref [901, 10] g_4.2.2.1 0 (List.map (D.int .i64) e_4.Segs).length 1], []⟩] <| Rt (some 187) (.bslice (.agg [.int .i64 0, .sl []]) 1 [0]) [] none [.mix [.i e_4.Name, .ref [901, 10] g_4.2.2.1 0 (List.map (D.int .i64) e_4.Segs).length 1]] (.ref [187] 0 0 (List.map GrpDef.d ([e_4] : List GrpDef)).length 2) [([901, 10], some (.arr (List.map (D.int .i64) e_4.Segs) g_4.2.2.1 true)), ([187], some (.arr (List.map GrpDef.d ([e_4] : List GrpDef)) 0 false))] (cut_bslice (e := GrpDef.d) (l := ([e_4] : List GrpDef)) (ws := [([901, 10], some (.arr (List.map (D.int .i64) e_4.Segs) g_4.2.2.1 true))]) (ds := [.agg [.int .i64 e_4.Name, .sl (List.map (D.int .i64) e_4.Segs)]]) (snapsM_cons (ws := [([901, 10], some (.arr (List.map (D.int .i64) e_4.Segs) g_4.2.2.1 true))]) (snap_mix (snaps_d (snaps_r (e := (D.int .i64)) (l := e_4.Segs) (fz := false) (by kernel_rfl) (by kernel_rfl) (hl := rfl) snaps_nil))) snapsM_nil) (by kernel_rfl) (by kernel_rfl) (by kernel_rfl) (by kernel_rfl)) ?_
   obtain ⟨z_3, hz_3, h⟩ := bind_s h
   refine Rt (some 188) (.append 2 32 false) [] none [.ref [904, 2] g_4.2.2.2.2.1 0 (List.map GrpDef.d x2.Groups).length 2, .ref [187] 0 0 (List.map GrpDef.d ([e_4] : List GrpDef)).length 2] (.ref [904, 2] (g_4.2.2.2.2.1 + 1) 0 (List.map GrpDef.d z_3).length 2) [([904, 2], some (.arr (List.map GrpDef.d z_3) (g_4.2.2.2.2.1 + 1) false))] (cut_appR (e := GrpDef.d) (l := x2.Groups) (fz := false) (ws := []) (ap_ref (e := GrpDef.d) (l := ([e_4] : List GrpDef)) (fz := false) (by kernel_rfl) (by kernel_rfl) rfl) (fun _ => rfl) hz_3 (by kernel_rfl) (by kernel_rfl) rfl) <| Rc 2 [vp [2] 0 4, ⟨.tup [], [([2], some (.cells [.d (.str x2.Name), .ref [901, 2] g_4.2.1 0 (List.map Comment.d x2.Notes).length 3, .ref [16] g_4.1 0 (List.map D.str x2.Names).length 1, .ref [903, 2] g_4.2.2.2.1 0 (List.map SegDef.d x2.Segs).length 8, .ref [904, 2] (g_4.2.2.2.2.1 + 1) 0 (List.map GrpDef.d z_3).length 2, .ref [905, 2] g_4.2.2.2.2.2.1 0 (List.map Ext.d x2.Exts).length 3, .ref [906, 2] g_4.2.2.2.2.2.2.1 0 (List.map Pub.d x2.Pubs).length 5, .ref [907, 2] g_4.2.2.2.2.2.2.2 0 (List.map Data.d x2.Datas).length 4, .b x2.Main, .b x2.Is, .i x2.Start.At, .i x2.Start.Loc, .b x2.Start.Self, .i x2.Start.Frame, .i x2.Start.FrameN, .i x2.Start.Target, .i x2.Start.N, .w x2.Start.Disp] 0))]⟩] <| Rd <| kB_nrm <| kS_nrm <| Ro <| Rc 3 [vi i9, vi (IntKind.wrap .i64 (i9 + 1)), vi (IntKind.wrap .i64 (i9 + 1))] ?_
   refine Rd ?_
   obtain rfl := sj h
   exact ⟨rfl, (g_4.1, g_4.2.1, g_4.2.2.2.1, (g_4.2.2.2.2.1 + 1), g_4.2.2.2.2.2.1, g_4.2.2.2.2.2.2.1, g_4.2.2.2.2.2.2.2), Cz⟩
  | false =>
   replace h := ite_f hb_2 h
   refine Cf <| Runs.exit <| kS_exit ?_
   obtain rfl := sj h
   exact ⟨nofun, rfl, (v_16, v_901_2, v_903_2, v_904_2, v_905_2, v_906_2, v_907_2), Cz⟩
 | false =>
  replace h := ite_f hb_1 h
  refine Rc 3 [vn, vn, vb false] <| Rk <| Cf <| Runs.exit <| kS_exit ?_
  obtain rfl := sj h
  exact ⟨nofun, rfl, (v_16, v_901_2, v_903_2, v_904_2, v_905_2, v_906_2, v_907_2), Cz⟩
theorem hansomref26_base_ok (m_ : Module) (r : Module) (h : hansomref26_base m_ = some r) : Runs L F9.body ⟨tmOf [.d (Module.d m_)] 0, updW (fun _ => none) []⟩ (hansomref26_base_Q m_ r) := by
 unfold hansomref26_base at h
 refine Sq <| Ro <| Rc 2 [⟨.ptr [1] 0 0, [([1], some (.cells [.d (.str m_.Name), .d (.sl (List.map Comment.d m_.Notes)), .d (.sl (List.map D.str m_.Names)), .d (.sl (List.map SegDef.d m_.Segs)), .d (.sl (List.map GrpDef.d m_.Groups)), .d (.sl (List.map Ext.d m_.Exts)), .d (.sl (List.map Pub.d m_.Pubs)), .d (.sl (List.map Data.d m_.Datas)), .b m_.Main, .b m_.Is, .i m_.Start.At, .i m_.Start.Loc, .b m_.Start.Self, .i m_.Start.Frame, .i m_.Start.FrameN, .i m_.Start.Target, .i m_.Start.N, .w m_.Start.Disp] 0))]⟩, ⟨.ptr [2] 0 0, [([2], some (.cells [.d (.str []), .nils, .nils, .nils, .nils, .nils, .nils, .nils, .b false, .b false, .i 0, .i 0, .b false, .i 0, .i 0, .i 0, .i 0, .w 0] 0))]⟩] <| Rk <| Runs.canon (hansomref26_base_h2 m_ ({ Name := [], Notes := ([] : List Comment), Names := ([] : List (List UInt8)), Segs := ([] : List SegDef), Groups := ([] : List GrpDef), Exts := ([] : List Ext), Pubs := ([] : List Pub), Datas := ([] : List Data), Main := false, Is := false, Start := ({ At := 0, Loc := 0, Self := false, Frame := 0, FrameN := 0, Target := 0, N := 0, Disp := 0 } : Fixup) } : Module) 0 0 0 0 0 0 0) (Canon.cons (ownB_nil (ver := 0) (v := 0) (cs := [.d (.str []), .nils, .nils, .nils, .nils, .nils, .nils, .nils, .b false, .b false, .i 0, .i 0, .b false, .i 0, .i 0, .i 0, .i 0, .w 0]) (cs' := [.d (.str []), .ref [901, 2] 0 0 (List.map Comment.d ([] : List Comment)).length 3, .nils, .nils, .nils, .nils, .nils, .nils, .b false, .b false, .i 0, .i 0, .b false, .i 0, .i 0, .i 0, .i 0, .w 0]) Comment.d (by kernel_rfl) (by kernel_rfl) (by kernel_rfl) (by decide) (by kernel_rfl)) (Canon.cons (ownB_nil (ver := 0) (v := 0) (cs := [.d (.str []), .ref [901, 2] 0 0 (List.map Comment.d ([] : List Comment)).length 3, .nils, .nils, .nils, .nils, .nils, .nils, .b false, .b false, .i 0, .i 0, .b false, .i 0, .i 0, .i 0, .i 0, .w 0]) (cs' := [.d (.str []), .ref [901, 2] 0 0 (List.map Comment.d ([] : List Comment)).length 3, .ref [902, 2] 0 0 (List.map D.str ([] : List (List UInt8))).length 1, .nils, .nils, .nils, .nils, .nils, .b false, .b false, .i 0, .i 0, .b false, .i 0, .i 0, .i 0, .i 0, .w 0]) D.str (by kernel_rfl) (by kernel_rfl) (by kernel_rfl) (by decide) (by kernel_rfl)) (Canon.cons (ownB_nil (ver := 0) (v := 0) (cs := [.d (.str []), .ref [901, 2] 0 0 (List.map Comment.d ([] : List Comment)).length 3, .ref [902, 2] 0 0 (List.map D.str ([] : List (List UInt8))).length 1, .nils, .nils, .nils, .nils, .nils, .b false, .b false, .i 0, .i 0, .b false, .i 0, .i 0, .i 0, .i 0, .w 0]) (cs' := [.d (.str []), .ref [901, 2] 0 0 (List.map Comment.d ([] : List Comment)).length 3, .ref [902, 2] 0 0 (List.map D.str ([] : List (List UInt8))).length 1, .ref [903, 2] 0 0 (List.map SegDef.d ([] : List SegDef)).length 8, .nils, .nils, .nils, .nils, .b false, .b false, .i 0, .i 0, .b false, .i 0, .i 0, .i 0, .i 0, .w 0]) SegDef.d (by kernel_rfl) (by kernel_rfl) (by kernel_rfl) (by decide) (by kernel_rfl)) (Canon.cons (ownB_nil (ver := 0) (v := 0) (cs := [.d (.str []), .ref [901, 2] 0 0 (List.map Comment.d ([] : List Comment)).length 3, .ref [902, 2] 0 0 (List.map D.str ([] : List (List UInt8))).length 1, .ref [903, 2] 0 0 (List.map SegDef.d ([] : List SegDef)).length 8, .nils, .nils, .nils, .nils, .b false, .b false, .i 0, .i 0, .b false, .i 0, .i 0, .i 0, .i 0, .w 0]) (cs' := [.d (.str []), .ref [901, 2] 0 0 (List.map Comment.d ([] : List Comment)).length 3, .ref [902, 2] 0 0 (List.map D.str ([] : List (List UInt8))).length 1, .ref [903, 2] 0 0 (List.map SegDef.d ([] : List SegDef)).length 8, .ref [904, 2] 0 0 (List.map GrpDef.d ([] : List GrpDef)).length 2, .nils, .nils, .nils, .b false, .b false, .i 0, .i 0, .b false, .i 0, .i 0, .i 0, .i 0, .w 0]) GrpDef.d (by kernel_rfl) (by kernel_rfl) (by kernel_rfl) (by decide) (by kernel_rfl)) (Canon.cons (ownB_nil (ver := 0) (v := 0) (cs := [.d (.str []), .ref [901, 2] 0 0 (List.map Comment.d ([] : List Comment)).length 3, .ref [902, 2] 0 0 (List.map D.str ([] : List (List UInt8))).length 1, .ref [903, 2] 0 0 (List.map SegDef.d ([] : List SegDef)).length 8, .ref [904, 2] 0 0 (List.map GrpDef.d ([] : List GrpDef)).length 2, .nils, .nils, .nils, .b false, .b false, .i 0, .i 0, .b false, .i 0, .i 0, .i 0, .i 0, .w 0]) (cs' := [.d (.str []), .ref [901, 2] 0 0 (List.map Comment.d ([] : List Comment)).length 3, .ref [902, 2] 0 0 (List.map D.str ([] : List (List UInt8))).length 1, .ref [903, 2] 0 0 (List.map SegDef.d ([] : List SegDef)).length 8, .ref [904, 2] 0 0 (List.map GrpDef.d ([] : List GrpDef)).length 2, .ref [905, 2] 0 0 (List.map Ext.d ([] : List Ext)).length 3, .nils, .nils, .b false, .b false, .i 0, .i 0, .b false, .i 0, .i 0, .i 0, .i 0, .w 0]) Ext.d (by kernel_rfl) (by kernel_rfl) (by kernel_rfl) (by decide) (by kernel_rfl)) (Canon.cons (ownB_nil (ver := 0) (v := 0) (cs := [.d (.str []), .ref [901, 2] 0 0 (List.map Comment.d ([] : List Comment)).length 3, .ref [902, 2] 0 0 (List.map D.str ([] : List (List UInt8))).length 1, .ref [903, 2] 0 0 (List.map SegDef.d ([] : List SegDef)).length 8, .ref [904, 2] 0 0 (List.map GrpDef.d ([] : List GrpDef)).length 2, .ref [905, 2] 0 0 (List.map Ext.d ([] : List Ext)).length 3, .nils, .nils, .b false, .b false, .i 0, .i 0, .b false, .i 0, .i 0, .i 0, .i 0, .w 0]) (cs' := [.d (.str []), .ref [901, 2] 0 0 (List.map Comment.d ([] : List Comment)).length 3, .ref [902, 2] 0 0 (List.map D.str ([] : List (List UInt8))).length 1, .ref [903, 2] 0 0 (List.map SegDef.d ([] : List SegDef)).length 8, .ref [904, 2] 0 0 (List.map GrpDef.d ([] : List GrpDef)).length 2, .ref [905, 2] 0 0 (List.map Ext.d ([] : List Ext)).length 3, .ref [906, 2] 0 0 (List.map Pub.d ([] : List Pub)).length 5, .nils, .b false, .b false, .i 0, .i 0, .b false, .i 0, .i 0, .i 0, .i 0, .w 0]) Pub.d (by kernel_rfl) (by kernel_rfl) (by kernel_rfl) (by decide) (by kernel_rfl)) (Canon.cons (ownB_nil (ver := 0) (v := 0) (cs := [.d (.str []), .ref [901, 2] 0 0 (List.map Comment.d ([] : List Comment)).length 3, .ref [902, 2] 0 0 (List.map D.str ([] : List (List UInt8))).length 1, .ref [903, 2] 0 0 (List.map SegDef.d ([] : List SegDef)).length 8, .ref [904, 2] 0 0 (List.map GrpDef.d ([] : List GrpDef)).length 2, .ref [905, 2] 0 0 (List.map Ext.d ([] : List Ext)).length 3, .ref [906, 2] 0 0 (List.map Pub.d ([] : List Pub)).length 5, .nils, .b false, .b false, .i 0, .i 0, .b false, .i 0, .i 0, .i 0, .i 0, .w 0]) (cs' := [.d (.str []), .ref [901, 2] 0 0 (List.map Comment.d ([] : List Comment)).length 3, .ref [902, 2] 0 0 (List.map D.str ([] : List (List UInt8))).length 1, .ref [903, 2] 0 0 (List.map SegDef.d ([] : List SegDef)).length 8, .ref [904, 2] 0 0 (List.map GrpDef.d ([] : List GrpDef)).length 2, .ref [905, 2] 0 0 (List.map Ext.d ([] : List Ext)).length 3, .ref [906, 2] 0 0 (List.map Pub.d ([] : List Pub)).length 5, .ref [907, 2] 0 0 (List.map Data.d ([] : List Data)).length 4, .b false, .b false, .i 0, .i 0, .b false, .i 0, .i 0, .i 0, .i 0, .w 0]) Data.d (by kernel_rfl) (by kernel_rfl) (by kernel_rfl) (by decide) (by kernel_rfl)) Cz))))))) ?_
 refine Sq <| Ro <| Rc 2 [vp [1] 0 0, ⟨.d (.str m_.Name), []⟩] ?_
 obtain ⟨r_1, hr_1, h⟩ := bind_s h
 have hc_1 := hansomref26_cut_L m_.Name r_1 hr_1
 refine Rt (some 14) (.callf 10) [] none [.d (.str m_.Name)] (.d (.str r_1)) [] (cc hc_1) <| Rc 2 [vp [2] 0 0, ⟨.tup [], [([2], some (.cells [.d (.str r_1), .ref [901, 2] 0 0 (List.map Comment.d ([] : List Comment)).length 3, .ref [902, 2] 0 0 (List.map D.str ([] : List (List UInt8))).length 1, .ref [903, 2] 0 0 (List.map SegDef.d ([] : List SegDef)).length 8, .ref [904, 2] 0 0 (List.map GrpDef.d ([] : List GrpDef)).length 2, .ref [905, 2] 0 0 (List.map Ext.d ([] : List Ext)).length 3, .ref [906, 2] 0 0 (List.map Pub.d ([] : List Pub)).length 5, .ref [907, 2] 0 0 (List.map Data.d ([] : List Data)).length 4, .b false, .b false, .i 0, .i 0, .b false, .i 0, .i 0, .i 0, .i 0, .w 0] 0))]⟩] <| Rk <| Sq <| Ro <| Rc 3 [⟨.ref [16] 0 0 (List.map D.str ([([] : List UInt8)] : List (List UInt8))).length 1, [([16], some (.arr (List.map D.str ([([] : List UInt8)] : List (List UInt8))) 0 false))]⟩, vp [2] 0 2, ⟨.tup [], [([2], some (.cells [.d (.str r_1), .ref [901, 2] 0 0 (List.map Comment.d ([] : List Comment)).length 3, .ref [16] 0 0 (List.map D.str ([([] : List UInt8)] : List (List UInt8))).length 1, .ref [903, 2] 0 0 (List.map SegDef.d ([] : List SegDef)).length 8, .ref [904, 2] 0 0 (List.map GrpDef.d ([] : List GrpDef)).length 2, .ref [905, 2] 0 0 (List.map Ext.d ([] : List Ext)).length 3, .ref [906, 2] 0 0 (List.map Pub.d ([] : List Pub)).length 5, .ref [907, 2] 0 0 (List.map Data.d ([] : List Data)).length 4, .b false, .b false, .i 0, .i 0, .b false, .i 0, .i 0, .i 0, .i 0, .w 0] 0))]⟩] ?_
 refine Rk <| Sq <| Sq <| Ro <| Rc 1 [vi 0] <| Rk <| Runs.block ?_
 obtain ⟨e_1, he_1, h⟩ := bind_s h
 refine Runs.loop (fun x : (Module × Int) => hansomref26_base_l10 m_ x.1 x.2) (fun (x : (Module × Int)) (g : (Nat × Nat × Nat × Nat × Nat × Nat × Nat)) => hansomref26_base_h10 m_ x.1 x.2 g.1 g.2.1 g.2.2.1 g.2.2.2.1 g.2.2.2.2.1 g.2.2.2.2.2.1 g.2.2.2.2.2.2) (hansomref26_base_P10 m_ m_) (fun x g r hr => hansomref26_base_l10_ok m_ m_ x.1 x.2 g.1 g.2.1 g.2.2.1 g.2.2.2.1 g.2.2.2.2.1 g.2.2.2.2.2.1 g.2.2.2.2.2.2 r hr) (0, 0, 0, 0, 0, 0, 0) he_1 Cz ?_
 rintro ⟨o, s⟩ hp
 obtain ⟨ho, g_1, hk_1⟩ := hp
 have ho' : o = .exit 0 := ho
 subst ho'
 refine kB_hit <| kS_nrm <| Runs.canon _ hk_1 <| Sq <| Ro <| Rc 2 [vp [2] 0 2, ⟨.ref [16] g_1.1 0 (List.map D.str e_1.Names).length 1, []⟩] <| Rt (some 42) .lenL [] none [.ref [16] g_1.1 0 (List.map D.str e_1.Names).length 1] (.i (e_1.Names.length : Int)) [] (cut_lenR (e := D.str) e_1.Names rfl) <| Rc 1 [vi (e_1.Names.length : Int)] <| Rk <| Sq <| Sq <| Ro <| Rc 1 [vi 0] <| Rk <| Runs.block ?_
 obtain ⟨e_2, he_2, h⟩ := bind_s h
 refine Runs.loop (fun x : (Module × Int) => hansomref26_base_l27 m_ x.1 (e_1.Names.length : Int) x.2) (fun (x : (Module × Int)) (g : (Nat × Nat × Nat × Nat × Nat × Nat × Nat)) => hansomref26_base_h27 m_ x.1 (e_1.Names.length : Int) x.2 g.1 g.2.1 g.2.2.1 g.2.2.2.1 g.2.2.2.2.1 g.2.2.2.2.2.1 g.2.2.2.2.2.2) (hansomref26_base_P27 m_ m_ (e_1.Names.length : Int)) (fun x g r hr => hansomref26_base_l27_ok m_ m_ x.1 (e_1.Names.length : Int) x.2 g.1 g.2.1 g.2.2.1 g.2.2.2.1 g.2.2.2.2.1 g.2.2.2.2.2.1 g.2.2.2.2.2.2 r hr) (g_1.1, g_1.2.1, g_1.2.2.1, g_1.2.2.2.1, g_1.2.2.2.2.1, g_1.2.2.2.2.2.1, g_1.2.2.2.2.2.2) he_2 Cz ?_
 rintro ⟨o, s⟩ hp
 obtain ⟨ho, g_2, hk_2⟩ := hp
 have ho' : o = .exit 2 := ho
 subst ho'
 refine kB_hit <| kS_nrm <| Runs.canon _ hk_2 <| Sq <| Sq <| Ro <| Rc 1 [vi 0] <| Rk <| Runs.block ?_
 obtain ⟨e_3, he_3, h⟩ := bind_s h
 refine Runs.loop (fun x : (Module × Int) => hansomref26_base_l46 m_ x.1 (e_1.Names.length : Int) x.2) (fun (x : (Module × Int)) (g : (Nat × Nat × Nat × Nat × Nat × Nat × Nat)) => hansomref26_base_h46 m_ x.1 (e_1.Names.length : Int) x.2 g.1 g.2.1 g.2.2.1 g.2.2.2.1 g.2.2.2.2.1 g.2.2.2.2.2.1 g.2.2.2.2.2.2) (hansomref26_base_P46 m_ m_ (e_1.Names.length : Int)) (fun x g r hr => hansomref26_base_l46_ok m_ m_ x.1 (e_1.Names.length : Int) x.2 g.1 g.2.1 g.2.2.1 g.2.2.2.1 g.2.2.2.2.1 g.2.2.2.2.2.1 g.2.2.2.2.2.2 r hr) (g_2.1, g_2.2.1, g_2.2.2.1, g_2.2.2.2.1, g_2.2.2.2.2.1, g_2.2.2.2.2.2.1, g_2.2.2.2.2.2.2) he_3 Cz ?_
 rintro ⟨o, s⟩ hp
 obtain ⟨ho, g_3, hk_3⟩ := hp
 have ho' : o = .exit 4 := ho
 subst ho'
 refine kB_hit <| kS_nrm <| Runs.canon _ hk_3 <| Sq <| Sq <| Ro <| Rc 1 [vi 0] <| Rk <| Runs.block ?_
 obtain ⟨e_4, he_4, h⟩ := bind_s h
 refine Runs.loop (fun x : (Module × Int) => hansomref26_base_l69 m_ x.1 (e_1.Names.length : Int) x.2) (fun (x : (Module × Int)) (g : (Nat × Nat × Nat × Nat × Nat × Nat × Nat)) => hansomref26_base_h69 m_ x.1 (e_1.Names.length : Int) x.2 g.1 g.2.1 g.2.2.1 g.2.2.2.1 g.2.2.2.2.1 g.2.2.2.2.2.1 g.2.2.2.2.2.2) (hansomref26_base_P69 m_ m_ (e_1.Names.length : Int)) (fun x g r hr => hansomref26_base_l69_ok m_ m_ x.1 (e_1.Names.length : Int) x.2 g.1 g.2.1 g.2.2.1 g.2.2.2.1 g.2.2.2.2.1 g.2.2.2.2.2.1 g.2.2.2.2.2.2 r hr) (g_3.1, g_3.2.1, g_3.2.2.1, g_3.2.2.2.1, g_3.2.2.2.2.1, g_3.2.2.2.2.2.1, g_3.2.2.2.2.2.2) he_4 Cz ?_
 rintro ⟨o, s⟩ hp
 obtain ⟨ho, g_4, hk_4⟩ := hp
 have ho' : o = .exit 6 := ho
 subst ho'
 refine kB_hit <| kS_nrm <| Runs.canon _ hk_4 <| Sq <| Ro <| Rc 2 [⟨.mix [.d (.str e_4.Name), .ref [901, 2] g_4.2.1 0 (List.map Comment.d e_4.Notes).length 3, .ref [16] g_4.1 0 (List.map D.str e_4.Names).length 1, .ref [903, 2] g_4.2.2.1 0 (List.map SegDef.d e_4.Segs).length 8, .ref [904, 2] g_4.2.2.2.1 0 (List.map GrpDef.d e_4.Groups).length 2, .ref [905, 2] g_4.2.2.2.2.1 0 (List.map Ext.d e_4.Exts).length 3, .ref [906, 2] g_4.2.2.2.2.2.1 0 (List.map Pub.d e_4.Pubs).length 5, .ref [907, 2] g_4.2.2.2.2.2.2 0 (List.map Data.d e_4.Datas).length 4, .b e_4.Main, .b e_4.Is, .i e_4.Start.At, .i e_4.Start.Loc, .b e_4.Start.Self, .i e_4.Start.Frame, .i e_4.Start.FrameN, .i e_4.Start.Target, .i e_4.Start.N, .w e_4.Start.Disp], []⟩, ⟨.tup [], [([2], some (.cells [.d (.str e_4.Name), .ref [901, 2] g_4.2.1 0 (List.map Comment.d e_4.Notes).length 3, .ref [16] g_4.1 0 (List.map D.str e_4.Names).length 1, .ref [903, 2] g_4.2.2.1 0 (List.map SegDef.d e_4.Segs).length 8, .ref [904, 2] g_4.2.2.2.1 0 (List.map GrpDef.d e_4.Groups).length 2, .ref [905, 2] g_4.2.2.2.2.1 0 (List.map Ext.d e_4.Exts).length 3, .ref [906, 2] g_4.2.2.2.2.2.1 0 (List.map Pub.d e_4.Pubs).length 5, .ref [907, 2] g_4.2.2.2.2.2.2 0 (List.map Data.d e_4.Datas).length 4, .b e_4.Main, .b e_4.Is, .i e_4.Start.At, .i e_4.Start.Loc, .b e_4.Start.Self, .i e_4.Start.Frame, .i e_4.Start.FrameN, .i e_4.Start.Target, .i e_4.Start.N, .w e_4.Start.Disp] 0))]⟩] ?_
 refine Rk <| Sq <| Runs.gcons (frzB_ref (e := Comment.d) (l := e_4.Notes) (id := [2]) (id' := [901, 2]) (v := g_4.2.1) (n := 3) (fz := false) (ver := 0) (cs := [.d (.str e_4.Name), .ref [901, 2] g_4.2.1 0 (List.map Comment.d e_4.Notes).length 3, .ref [16] g_4.1 0 (List.map D.str e_4.Names).length 1, .ref [903, 2] g_4.2.2.1 0 (List.map SegDef.d e_4.Segs).length 8, .ref [904, 2] g_4.2.2.2.1 0 (List.map GrpDef.d e_4.Groups).length 2, .ref [905, 2] g_4.2.2.2.2.1 0 (List.map Ext.d e_4.Exts).length 3, .ref [906, 2] g_4.2.2.2.2.2.1 0 (List.map Pub.d e_4.Pubs).length 5, .ref [907, 2] g_4.2.2.2.2.2.2 0 (List.map Data.d e_4.Datas).length 4, .b e_4.Main, .b e_4.Is, .i e_4.Start.At, .i e_4.Start.Loc, .b e_4.Start.Self, .i e_4.Start.Frame, .i e_4.Start.FrameN, .i e_4.Start.Target, .i e_4.Start.N, .w e_4.Start.Disp]) (cs' := [.d (.str e_4.Name), .d (.sl (List.map Comment.d e_4.Notes)), .ref [16] g_4.1 0 (List.map D.str e_4.Names).length 1, .ref [903, 2] g_4.2.2.1 0 (List.map SegDef.d e_4.Segs).length 8, .ref [904, 2] g_4.2.2.2.1 0 (List.map GrpDef.d e_4.Groups).length 2, .ref [905, 2] g_4.2.2.2.2.1 0 (List.map Ext.d e_4.Exts).length 3, .ref [906, 2] g_4.2.2.2.2.2.1 0 (List.map Pub.d e_4.Pubs).length 5, .ref [907, 2] g_4.2.2.2.2.2.2 0 (List.map Data.d e_4.Datas).length 4, .b e_4.Main, .b e_4.Is, .i e_4.Start.At, .i e_4.Start.Loc, .b e_4.Start.Self, .i e_4.Start.Frame, .i e_4.Start.FrameN, .i e_4.Start.Target, .i e_4.Start.N, .w e_4.Start.Disp]) (by kernel_rfl) (by kernel_rfl) (by kernel_rfl) (by decide) (by kernel_rfl) rfl) ?_
 refine Runs.gcons (frzB_ref (e := D.str) (l := e_4.Names) (id := [2]) (id' := [16]) (v := g_4.1) (n := 1) (fz := false) (ver := 0) (cs := [.d (.str e_4.Name), .d (.sl (List.map Comment.d e_4.Notes)), .ref [16] g_4.1 0 (List.map D.str e_4.Names).length 1, .ref [903, 2] g_4.2.2.1 0 (List.map SegDef.d e_4.Segs).length 8, .ref [904, 2] g_4.2.2.2.1 0 (List.map GrpDef.d e_4.Groups).length 2, .ref [905, 2] g_4.2.2.2.2.1 0 (List.map Ext.d e_4.Exts).length 3, .ref [906, 2] g_4.2.2.2.2.2.1 0 (List.map Pub.d e_4.Pubs).length 5, .ref [907, 2] g_4.2.2.2.2.2.2 0 (List.map Data.d e_4.Datas).length 4, .b e_4.Main, .b e_4.Is, .i e_4.Start.At, .i e_4.Start.Loc, .b e_4.Start.Self, .i e_4.Start.Frame, .i e_4.Start.FrameN, .i e_4.Start.Target, .i e_4.Start.N, .w e_4.Start.Disp]) (cs' := [.d (.str e_4.Name), .d (.sl (List.map Comment.d e_4.Notes)), .d (.sl (List.map D.str e_4.Names)), .ref [903, 2] g_4.2.2.1 0 (List.map SegDef.d e_4.Segs).length 8, .ref [904, 2] g_4.2.2.2.1 0 (List.map GrpDef.d e_4.Groups).length 2, .ref [905, 2] g_4.2.2.2.2.1 0 (List.map Ext.d e_4.Exts).length 3, .ref [906, 2] g_4.2.2.2.2.2.1 0 (List.map Pub.d e_4.Pubs).length 5, .ref [907, 2] g_4.2.2.2.2.2.2 0 (List.map Data.d e_4.Datas).length 4, .b e_4.Main, .b e_4.Is, .i e_4.Start.At, .i e_4.Start.Loc, .b e_4.Start.Self, .i e_4.Start.Frame, .i e_4.Start.FrameN, .i e_4.Start.Target, .i e_4.Start.N, .w e_4.Start.Disp]) (by kernel_rfl) (by kernel_rfl) (by kernel_rfl) (by decide) (by kernel_rfl) rfl) ?_
 refine Runs.gnil <| kS_nrm <| Runs.ret ?_
 obtain rfl := sj h
 exact ⟨Out.ret_ne, (fin_of (rs := [.mix [.d (.str e_4.Name), .d (.sl (List.map Comment.d e_4.Notes)), .d (.sl (List.map D.str e_4.Names)), .ref [903, 2] g_4.2.2.1 0 (List.map SegDef.d e_4.Segs).length 8, .ref [904, 2] g_4.2.2.2.1 0 (List.map GrpDef.d e_4.Groups).length 2, .ref [905, 2] g_4.2.2.2.2.1 0 (List.map Ext.d e_4.Exts).length 3, .ref [906, 2] g_4.2.2.2.2.2.1 0 (List.map Pub.d e_4.Pubs).length 5, .ref [907, 2] g_4.2.2.2.2.2.2 0 (List.map Data.d e_4.Datas).length 4, .b e_4.Main, .b e_4.Is, .i e_4.Start.At, .i e_4.Start.Loc, .b e_4.Start.Self, .i e_4.Start.Frame, .i e_4.Start.FrameN, .i e_4.Start.Target, .i e_4.Start.N, .w e_4.Start.Disp]]) (by kernel_rfl) (by kernel_rfl) (outs_mix (ocs_d (ocs_d (ocs_d (ocs_own (id := [903, 2]) (v := g_4.2.2.1) (fz := false) (es := List.map SegDef.d e_4.Segs) (by kernel_rfl) (by decide) rfl (ocs_own (id := [904, 2]) (v := g_4.2.2.2.1) (fz := false) (es := List.map GrpDef.d e_4.Groups) (by kernel_rfl) (by decide) rfl (ocs_own (id := [905, 2]) (v := g_4.2.2.2.2.1) (fz := false) (es := List.map Ext.d e_4.Exts) (by kernel_rfl) (by decide) rfl (ocs_own (id := [906, 2]) (v := g_4.2.2.2.2.2.1) (fz := false) (es := List.map Pub.d e_4.Pubs) (by kernel_rfl) (by decide) rfl (ocs_own (id := [907, 2]) (v := g_4.2.2.2.2.2.2) (fz := false) (es := List.map Data.d e_4.Datas) (by kernel_rfl) (by decide) rfl (ocs_d (ocs_d (ocs_d (ocs_d (ocs_d (ocs_d (ocs_d (ocs_d (ocs_d (ocs_d ocs_nil)))))))))))))))))) outs_nil) (gives_cons (give_same (by kernel_rfl)) gives_nil))⟩
theorem hansomref26_base_L (m_ : Module) (r : Module) (h : hansomref26_base m_ = some r) : L 9 [.d (Module.d m_)] = some (.mix [.d (.str r.Name), .d (.sl (List.map Comment.d r.Notes)), .d (.sl (List.map D.str r.Names)), .arr false 8 (List.map SegDef.d r.Segs), .arr false 2 (List.map GrpDef.d r.Groups), .arr false 3 (List.map Ext.d r.Exts), .arr false 5 (List.map Pub.d r.Pubs), .arr false 4 (List.map Data.d r.Datas), .b r.Main, .b r.Is, .i r.Start.At, .i r.Start.Loc, .b r.Start.Self, .i r.Start.Frame, .i r.Start.FrameN, .i r.Start.Target, .i r.Start.N, .w r.Start.Disp], [.d (Module.d m_)]) := by
 obtain ⟨p, ⟨hne, hf⟩, hr⟩ := hansomref26_base_ok m_ r h
 obtain ⟨k, hk⟩ := run_of (F := F9) (args := [.d (Module.d m_)]) (ap := [.d (Module.d m_)]) (bx0 := updW (fun _ => none) []) rfl rfl (by kernel_rfl) ⟨p, ⟨hne, hf⟩, hr⟩
 exact lim_run (k := k) rfl hk
def hansomref25_Size_Q (loc_ : Int) (r : Int) (p : Out × St) : Prop := (∀ i, p.1 ≠ .exit i) ∧ finF F20 [.i loc_] p.2 = some (.i r, [.i loc_])
theorem hansomref25_Size_ok (loc_ : Int) (r : Int) (h : hansomref25_Size loc_ = some r) : Runs L F20.body ⟨tmOf [.i loc_] 0, updW (fun _ => none) []⟩ (hansomref25_Size_Q loc_ r) := by
 unfold hansomref25_Size at h
 refine Sq <| Ro <| Rc 1 [vi 0] <| Rk <| Sq <| Sq <| Ro <| Rc 3 [vi loc_, vb (loc_ == 0), vb (loc_ == 0)] ?_
 cases hb_1 : ((loc_ == 0) : Bool) with
 | true =>
  replace h := ite_t hb_1 h
  refine Rc 3 [vn, vn, vb true] <| Rk <| Ct <| Sq <| Ro <| Rc 1 [vi 1] <| Rk <| Runs.ret <| kS_ret ?_
  cases h
  exact Fq
 | false =>
  replace h := ite_f hb_1 h
  refine Rc 3 [vi loc_, vb (loc_ == 4), vb (loc_ == 4)] <| Rk ?_
  cases hb_2 : ((loc_ == 4) : Bool) with
  | true =>
   replace h := ite_t hb_2 h
   refine Ct <| Sq <| Ro <| Rc 1 [vi 1] <| Rk <| Runs.ret <| kS_ret ?_
   cases h
   exact Fq
  | false =>
   replace h := ite_f hb_2 h
   refine Cf <| Runs.skip <| kS_nrm <| Sq <| Sq <| Ro <| Rc 2 [vi loc_, vb (loc_ == 3)] <| Rk ?_
   cases hb_3 : ((loc_ == 3) : Bool) with
   | true =>
    replace h := ite_t hb_3 h
    refine Ct <| Sq <| Ro <| Rc 1 [vi 4] <| Rk <| Runs.ret <| kS_ret ?_
    cases h
    exact Fq
   | false =>
    replace h := ite_f hb_3 h
    refine Cf <| Runs.skip <| kS_nrm <| Sq <| Ro <| Rc 1 [vi 2] <| Rk <| Runs.ret ?_
    cases h
    exact Fq
theorem hansomref25_Size_L (loc_ : Int) (r : Int) (h : hansomref25_Size loc_ = some r) : L 20 [.i loc_] = some (.i r, [.i loc_]) := by
 obtain ⟨p, ⟨hne, hf⟩, hr⟩ := hansomref25_Size_ok loc_ r h
 obtain ⟨k, hk⟩ := run_of (F := F20) (args := [.i loc_]) (ap := [.i loc_]) (bx0 := updW (fun _ => none) []) rfl rfl (by kernel_rfl) ⟨p, ⟨hne, hf⟩, hr⟩
 exact lim_run (k := k) rfl hk
def hansomref25_Near_h6 (f3 : Fixup) (many5 : (A3 Int)) (x6 : Fixup) (n1 : Int) : St := ⟨tab [(1, .i n1), (3, .ptr [3] 0 0), (5, .ptr [5] 0 0), (6, .ptr [6] 0 0)], tabB [([3], some (.cells [.i f3.At, .i f3.Loc, .b f3.Self, .i f3.Frame, .i f3.FrameN, .i f3.Target, .i f3.N, .w f3.Disp] 0)), ([5], some (.cells [.i many5.a0, .i many5.a1, .i many5.a2] 0)), ([6], some (.cells [.i x6.At, .i x6.Loc, .b x6.Self, .i x6.Frame, .i x6.FrameN, .i x6.Target, .i x6.N, .w x6.Disp] 0))]⟩
def hansomref25_Near_h12 (f3 : Fixup) (many5 : (A3 Int)) (x6 : Fixup) : St := ⟨tab [(3, .ptr [3] 0 0), (5, .ptr [5] 0 0), (6, .ptr [6] 0 0)], tabB [([3], some (.cells [.i f3.At, .i f3.Loc, .b f3.Self, .i f3.Frame, .i f3.FrameN, .i f3.Target, .i f3.N, .w f3.Disp] 0)), ([5], some (.cells [.i many5.a0, .i many5.a1, .i many5.a2] 0)), ([6], some (.cells [.i x6.At, .i x6.Loc, .b x6.Self, .i x6.Frame, .i x6.FrameN, .i x6.Target, .i x6.N, .w x6.Disp] 0))]⟩
def hansomref25_Near_h21 (f3 : Fixup) (many5 : (A3 Int)) (x6 : Fixup) : St := ⟨tab [(3, .ptr [3] 0 0), (5, .ptr [5] 0 0), (6, .ptr [6] 0 0)], tabB [([3], some (.cells [.i f3.At, .i f3.Loc, .b f3.Self, .i f3.Frame, .i f3.FrameN, .i f3.Target, .i f3.N, .w f3.Disp] 0)), ([5], some (.cells [.i many5.a0, .i many5.a1, .i many5.a2] 0)), ([6], some (.cells [.i x6.At, .i x6.Loc, .b x6.Self, .i x6.Frame, .i x6.FrameN, .i x6.Target, .i x6.N, .w x6.Disp] 0))]⟩
def hansomref25_Near_h27 (f3 : Fixup) (many5 : (A3 Int)) (x6 : Fixup) : St := ⟨tab [(3, .ptr [3] 0 0), (5, .ptr [5] 0 0), (6, .ptr [6] 0 0)], tabB [([3], some (.cells [.i f3.At, .i f3.Loc, .b f3.Self, .i f3.Frame, .i f3.FrameN, .i f3.Target, .i f3.N, .w f3.Disp] 0)), ([5], some (.cells [.i many5.a0, .i many5.a1, .i many5.a2] 0)), ([6], some (.cells [.i x6.At, .i x6.Loc, .b x6.Self, .i x6.Frame, .i x6.FrameN, .i x6.Target, .i x6.N, .w x6.Disp] 0))]⟩
def hansomref25_Near_h33 (f3 : Fixup) (many5 : (A3 Int)) (x6 : Fixup) : St := ⟨tab [(3, .ptr [3] 0 0), (5, .ptr [5] 0 0), (6, .ptr [6] 0 0)], tabB [([3], some (.cells [.i f3.At, .i f3.Loc, .b f3.Self, .i f3.Frame, .i f3.FrameN, .i f3.Target, .i f3.N, .w f3.Disp] 0)), ([5], some (.cells [.i many5.a0, .i many5.a1, .i many5.a2] 0)), ([6], some (.cells [.i x6.At, .i x6.Loc, .b x6.Self, .i x6.Frame, .i x6.FrameN, .i x6.Target, .i x6.N, .w x6.Disp] 0))]⟩
def hansomref25_Near_Q (f_ : Fixup) (n_ : Int) (many_ : (A3 Int)) (r : Fixup) (p : Out × St) : Prop := (∀ i, p.1 ≠ .exit i) ∧ finF F11 [.d (Fixup.d f_), .i n_, .d (.agg [.int .i64 many_.a0, .int .i64 many_.a1, .int .i64 many_.a2])] p.2 = some (.d (Fixup.d r), [.d (Fixup.d f_), .i n_, .d (.agg [.int .i64 many_.a0, .int .i64 many_.a1, .int .i64 many_.a2])])
def hansomref25_Near_P12 (f_ : Fixup) (n_ : Int) (many_ : (A3 Int)) (f3 : Fixup) (many5 : (A3 Int)) (e : Fixup) (p : Out × St) : Prop := p.1 = .exit 0 ∧ ∃ g : Unit, Canon [] [3, 5, 6] [[3], [5], [6]] p.2 (hansomref25_Near_h21 f3 many5 e)
theorem hansomref25_Near_l12_ok (f_ : Fixup) (n_ : Int) (many_ : (A3 Int)) (f3 : Fixup) (many5 : (A3 Int)) (x6 : Fixup) (r : (Lp Fixup Fixup)) (h : hansomref25_Near_l12 f3 many5 x6 = some r) : Runs L F11l12 (hansomref25_Near_h12 f3 many5 x6) (LQ [] [3, 5, 6] [[3], [5], [6]] (fun (x : Fixup) (g : Unit) => hansomref25_Near_h12 f3 many5 x) (hansomref25_Near_P12 f_ n_ many_ f3 many5) r) := by
 unfold hansomref25_Near_l12 at h
 refine Sq <| Sq <| Ro <| Rc 2 [vp [6] 0 5, vi x6.Target] ?_
 obtain ⟨z_2, hz_2, h⟩ := bind_s h
 refine Rt (some 44) (.iaddrA 3 1) [] none [.ptr [5] 0 0, .i x6.Target] (.ptr [5] 0 (0 + (x6.Target).toNat * 1)) [] (cut_iaA (l := many5.l) hz_2 rfl) <| Rt (some 45) (.load none) [] none [.ptr [5] 0 (0 + (x6.Target).toNat * 1)] (.i z_2) [] (cut_ldA (e := (D.int .i64)) (l := many5.l) (y := z_2) hz_2 (by kernel_rfl) (by kernel_rfl)) <| Rc 1 [vb (z_2 == 0)] <| Rk ?_
 cases hb_2 : ((z_2 == 0) : Bool) with
 | true =>
  replace h := ite_t hb_2 h
  refine Ct <| Runs.skip <| kS_nrm <| Runs.block <| Ro <| Rc 6 [vp [6] 0 5, vi x6.Target, vi (IntKind.wrap .i64 (x6.Target + 1)), vi (Int.tmod (IntKind.wrap .i64 (x6.Target + 1)) 3), vp [6] 0 5, ⟨.tup [], [([6], some (.cells [.i x6.At, .i x6.Loc, .b x6.Self, .i x6.Frame, .i x6.FrameN, .i (Int.tmod (IntKind.wrap .i64 (x6.Target + 1)) 3), .i x6.N, .w x6.Disp] 0))]⟩] <| Rd <| kB_nrm ?_
  obtain rfl := sj h
  exact ⟨rfl, (), Cz⟩
 | false =>
  replace h := ite_f hb_2 h
  refine Cf <| Runs.exit <| kS_exit ?_
  obtain rfl := sj h
  exact ⟨nofun, rfl, (), Cz⟩
theorem hansomref25_Near_j33_ok (f_ : Fixup) (n_ : Int) (many_ : (A3 Int)) (f3 : Fixup) (many5 : (A3 Int)) (x6 : Fixup) (r : Fixup) (h : hansomref25_Near_j33 f3 many5 x6 = some r) : Runs L F11b33 (hansomref25_Near_h33 f3 many5 x6) (hansomref25_Near_Q f_ n_ many_ r) := by
 unfold hansomref25_Near_j33 at h
 refine Sq <| Ro <| Rc 5 [vp [3] 0 6, vi f3.N, vi (bitsOp .and .i64 f3.N 255), vp [6] 0 5, vi x6.Target] ?_
 obtain ⟨z_3, hz_3, h⟩ := bind_s h
 refine Rt (some 72) (.iaddrA 3 1) [] none [.ptr [5] 0 0, .i x6.Target] (.ptr [5] 0 (0 + (x6.Target).toNat * 1)) [] (cut_iaA (l := many5.l) hz_3 rfl) <| Rt (some 73) (.load none) [] none [.ptr [5] 0 (0 + (x6.Target).toNat * 1)] (.i z_3) [] (cut_ldA (e := (D.int .i64)) (l := many5.l) (y := z_3) hz_3 (by kernel_rfl) (by kernel_rfl)) ?_
 obtain ⟨z_4, hz_4, h⟩ := bind_s h
 refine Rt (some 74) (.bin .rem) [] none [.i (bitsOp .and .i64 f3.N 255), .i z_3] (.i z_4) [] (cut_rem hz_4) <| Rc 3 [vi (IntKind.wrap .i64 (z_4 + 1)), vp [6] 0 6, ⟨.tup [], [([6], some (.cells [.i x6.At, .i x6.Loc, .b x6.Self, .i x6.Frame, .i x6.FrameN, .i x6.Target, .i (IntKind.wrap .i64 (z_4 + 1)), .w x6.Disp] 0))]⟩] <| Rk <| Sq <| Sq <| Ro <| Rc 3 [vp [6] 0 3, vi x6.Frame, vb (decide (x6.Frame < 3))] <| Rk ?_
 cases hb_5 : ((decide (x6.Frame < 3)) : Bool) with
 | true =>
  replace h := ite_t hb_5 h
  refine Ct <| Ro <| Rc 5 [vp [3] 0 4, vi f3.FrameN, vi (bitsOp .and .i64 f3.FrameN 255), vp [6] 0 3, vi x6.Frame] ?_
  obtain ⟨z_5, hz_5, h⟩ := bind_s h
  refine Rt (some 85) (.iaddrA 3 1) [] none [.ptr [5] 0 0, .i x6.Frame] (.ptr [5] 0 (0 + (x6.Frame).toNat * 1)) [] (cut_iaA (l := many5.l) hz_5 rfl) <| Rt (some 86) (.load none) [] none [.ptr [5] 0 (0 + (x6.Frame).toNat * 1)] (.i z_5) [] (cut_ldA (e := (D.int .i64)) (l := many5.l) (y := z_5) hz_5 (by kernel_rfl) (by kernel_rfl)) ?_
  obtain ⟨z_6, hz_6, h⟩ := bind_s h
  refine Rt (some 87) (.bin .rem) [] none [.i (bitsOp .and .i64 f3.FrameN 255), .i z_5] (.i z_6) [] (cut_rem hz_6) <| Rc 3 [vi (IntKind.wrap .i64 (z_6 + 1)), vp [6] 0 4, ⟨.tup [], [([6], some (.cells [.i x6.At, .i x6.Loc, .b x6.Self, .i x6.Frame, .i (IntKind.wrap .i64 (z_6 + 1)), .i x6.Target, .i (IntKind.wrap .i64 (z_4 + 1)), .w x6.Disp] 0))]⟩] <| Rk <| Sq <| Ro <| Rc 4 [vp [3] 0 7, vw f3.Disp, vp [6] 0 7, ⟨.tup [], [([6], some (.cells [.i x6.At, .i x6.Loc, .b x6.Self, .i x6.Frame, .i (IntKind.wrap .i64 (z_6 + 1)), .i x6.Target, .i (IntKind.wrap .i64 (z_4 + 1)), .w f3.Disp] 0))]⟩] <| Rk <| Sq <| Ro <| Rc 2 [⟨.d (.agg [.int .i64 x6.At, .int .i64 x6.Loc, .bool x6.Self, .int .i64 x6.Frame, .int .i64 (IntKind.wrap .i64 (z_6 + 1)), .int .i64 x6.Target, .int .i64 (IntKind.wrap .i64 (z_4 + 1)), .int .u16 f3.Disp]), []⟩, ⟨.tup [], [([6], some (.cells [.i x6.At, .i x6.Loc, .b x6.Self, .i x6.Frame, .i (IntKind.wrap .i64 (z_6 + 1)), .i x6.Target, .i (IntKind.wrap .i64 (z_4 + 1)), .w f3.Disp] 0))]⟩] <| Rk <| Runs.ret ?_
  cases h
  exact Fq
 | false =>
  replace h := ite_f hb_5 h
  refine Cf <| Runs.skip <| kS_nrm <| Sq <| Ro <| Rc 4 [vp [3] 0 7, vw f3.Disp, vp [6] 0 7, ⟨.tup [], [([6], some (.cells [.i x6.At, .i x6.Loc, .b x6.Self, .i x6.Frame, .i x6.FrameN, .i x6.Target, .i (IntKind.wrap .i64 (z_4 + 1)), .w f3.Disp] 0))]⟩] <| Rk <| Sq <| Ro <| Rc 2 [⟨.d (.agg [.int .i64 x6.At, .int .i64 x6.Loc, .bool x6.Self, .int .i64 x6.Frame, .int .i64 x6.FrameN, .int .i64 x6.Target, .int .i64 (IntKind.wrap .i64 (z_4 + 1)), .int .u16 f3.Disp]), []⟩, ⟨.tup [], [([6], some (.cells [.i x6.At, .i x6.Loc, .b x6.Self, .i x6.Frame, .i x6.FrameN, .i x6.Target, .i (IntKind.wrap .i64 (z_4 + 1)), .w f3.Disp] 0))]⟩] <| Rk <| Runs.ret ?_
  cases h
  exact Fq
theorem hansomref25_Near_j27_ok (f_ : Fixup) (n_ : Int) (many_ : (A3 Int)) (f3 : Fixup) (many5 : (A3 Int)) (x6 : Fixup) (r : Fixup) (h : hansomref25_Near_j27 f3 many5 x6 = some r) : Runs L F11b27 (hansomref25_Near_h27 f3 many5 x6) (hansomref25_Near_Q f_ n_ many_ r) := by
 unfold hansomref25_Near_j27 at h
 refine Sq <| Sq <| Ro <| Rc 4 [vp [6] 0 3, vi x6.Frame, vb (decide (x6.Frame < 3)), vb (decide (x6.Frame < 3))] ?_
 cases hb_3 : ((decide (x6.Frame < 3)) : Bool) with
 | true =>
  replace h := ite_t hb_3 h
  refine Rc 2 [vp [6] 0 3, vi x6.Frame] ?_
  obtain ⟨z_2, hz_2, h⟩ := bind_s h
  refine Rt (some 62) (.iaddrA 3 1) [] none [.ptr [5] 0 0, .i x6.Frame] (.ptr [5] 0 (0 + (x6.Frame).toNat * 1)) [] (cut_iaA (l := many5.l) hz_2 rfl) <| Rt (some 63) (.load none) [] none [.ptr [5] 0 (0 + (x6.Frame).toNat * 1)] (.i z_2) [] (cut_ldA (e := (D.int .i64)) (l := many5.l) (y := z_2) hz_2 (by kernel_rfl) (by kernel_rfl)) <| Rc 2 [vb (z_2 == 0), vb (z_2 == 0)] <| Rk ?_
  cases hb_4 : ((z_2 == 0) : Bool) with
  | true =>
   replace h := ite_t hb_4 h
   refine Ct <| Ro <| Rc 2 [vp [6] 0 3, ⟨.tup [], [([6], some (.cells [.i x6.At, .i x6.Loc, .b x6.Self, .i 5, .i x6.FrameN, .i x6.Target, .i x6.N, .w x6.Disp] 0))]⟩] <| Rk <| Runs.canon (hansomref25_Near_h33 f3 many5 ({ x6 with Frame := 5 } : Fixup)) Cz ?_
   exact hansomref25_Near_j33_ok f_ n_ many_ f3 many5 ({ x6 with Frame := 5 } : Fixup) r h
  | false =>
   replace h := ite_f hb_4 h
   refine Cf <| Runs.skip <| kS_nrm <| Runs.canon (hansomref25_Near_h33 f3 many5 x6) Cz ?_
   exact hansomref25_Near_j33_ok f_ n_ many_ f3 many5 x6 r h
 | false =>
  replace h := ite_f hb_3 h
  refine Rc 6 [vn, vn, vn, vn, vn, vb false] <| Rk <| Cf <| Runs.skip <| kS_nrm <| Runs.canon (hansomref25_Near_h33 f3 many5 x6) Cz ?_
  exact hansomref25_Near_j33_ok f_ n_ many_ f3 many5 x6 r h
theorem hansomref25_Near_j6_ok (f_ : Fixup) (n_ : Int) (many_ : (A3 Int)) (f3 : Fixup) (many5 : (A3 Int)) (x6 : Fixup) (n1 : Int) (r : Fixup) (h : hansomref25_Near_j6 f3 many5 x6 n1 = some r) : Runs L F11b6 (hansomref25_Near_h6 f3 many5 x6 n1) (hansomref25_Near_Q f_ n_ many_ r) := by
 unfold hansomref25_Near_j6 at h
 refine Sq <| Ro <| Rc 6 [vp [3] 0 0, vi f3.At, vi (bitsOp .and .i64 f3.At 65535), vi n1, vp [6] 0 1, vi x6.Loc] ?_
 obtain ⟨r_1, hr_1, h⟩ := bind_s h
 have hc_1 := hansomref25_Size_L x6.Loc r_1 hr_1
 refine Rt (some 26) (.callf 20) [] (some []) [.i x6.Loc] (.i r_1) [] (cc hc_1) <| Rc 3 [vi (IntKind.wrap .i64 (n1 - r_1)), vi (IntKind.wrap .i64 ((IntKind.wrap .i64 (n1 - r_1)) + 1)), vi (mnI (IntKind.wrap .i64 ((IntKind.wrap .i64 (n1 - r_1)) + 1)) 1024)] ?_
 obtain ⟨z_1, hz_1, h⟩ := bind_s h
 refine Rt (some 30) (.bin .rem) [] none [.i (bitsOp .and .i64 f3.At 65535), .i (mnI (IntKind.wrap .i64 ((IntKind.wrap .i64 (n1 - r_1)) + 1)) 1024)] (.i z_1) [] (cut_rem hz_1) <| Rc 2 [vp [6] 0 0, ⟨.tup [], [([6], some (.cells [.i z_1, .i x6.Loc, .b x6.Self, .i x6.Frame, .i x6.FrameN, .i x6.Target, .i x6.N, .w x6.Disp] 0))]⟩] <| Rk <| Sq <| Ro <| Rc 12 [vp [3] 0 5, vi f3.Target, vi (bitsOp .and .i64 f3.Target 255), vi (Int.tmod (bitsOp .and .i64 f3.Target 255) 3), vp [3] 0 3, vi f3.Frame, vi (bitsOp .and .i64 f3.Frame 255), vi (Int.tmod (bitsOp .and .i64 f3.Frame 255) 5), vp [6] 0 5, ⟨.tup [], [([6], some (.cells [.i z_1, .i x6.Loc, .b x6.Self, .i x6.Frame, .i x6.FrameN, .i (Int.tmod (bitsOp .and .i64 f3.Target 255) 3), .i x6.N, .w x6.Disp] 0))]⟩, vp [6] 0 3, ⟨.tup [], [([6], some (.cells [.i z_1, .i x6.Loc, .b x6.Self, .i (Int.tmod (bitsOp .and .i64 f3.Frame 255) 5), .i x6.FrameN, .i (Int.tmod (bitsOp .and .i64 f3.Target 255) 3), .i x6.N, .w x6.Disp] 0))]⟩] <| Rk <| Sq <| Runs.block ?_
 obtain ⟨e_1, he_1, h⟩ := bind_s h
 refine Runs.loop (fun x : Fixup => hansomref25_Near_l12 f3 many5 x) (fun (x : Fixup) (g : Unit) => hansomref25_Near_h12 f3 many5 x) (hansomref25_Near_P12 f_ n_ many_ f3 many5) (fun x g r hr => hansomref25_Near_l12_ok f_ n_ many_ f3 many5 x  r hr) () he_1 Cz ?_
 rintro ⟨o, s⟩ hp
 obtain ⟨ho, g_1, hk_1⟩ := hp
 have ho' : o = .exit 0 := ho
 subst ho'
 refine kB_hit <| kS_nrm <| Runs.canon _ hk_1 <| Sq <| Sq <| Ro <| Rc 3 [vp [6] 0 3, vi e_1.Frame, vb (e_1.Frame == 3)] <| Rk ?_
 cases hb_2 : ((e_1.Frame == 3) : Bool) with
 | true =>
  replace h := ite_t hb_2 h
  refine Ct <| Ro <| Rc 2 [vp [6] 0 3, ⟨.tup [], [([6], some (.cells [.i e_1.At, .i e_1.Loc, .b e_1.Self, .i 5, .i e_1.FrameN, .i e_1.Target, .i e_1.N, .w e_1.Disp] 0))]⟩] <| Rk <| Runs.canon (hansomref25_Near_h27 f3 many5 ({ e_1 with Frame := 5 } : Fixup)) Cz ?_
  exact hansomref25_Near_j27_ok f_ n_ many_ f3 many5 ({ e_1 with Frame := 5 } : Fixup) r h
 | false =>
  replace h := ite_f hb_2 h
  refine Cf <| Runs.skip <| kS_nrm <| Runs.canon (hansomref25_Near_h27 f3 many5 e_1) Cz ?_
  exact hansomref25_Near_j27_ok f_ n_ many_ f3 many5 e_1 r h
theorem hansomref25_Near_ok (f_ : Fixup) (n_ : Int) (many_ : (A3 Int)) (r : Fixup) (h : hansomref25_Near f_ n_ many_ = some r) : Runs L F11.body ⟨tmOf [.d (Fixup.d f_), .i n_, .d (.agg [.int .i64 many_.a0, .int .i64 many_.a1, .int .i64 many_.a2])] 0, updW (fun _ => none) []⟩ (hansomref25_Near_Q f_ n_ many_ r) := by
 unfold hansomref25_Near at h
 refine Sq <| Ro <| Rc 3 [⟨.ptr [3] 0 0, [([3], some (.cells [.i f_.At, .i f_.Loc, .b f_.Self, .i f_.Frame, .i f_.FrameN, .i f_.Target, .i f_.N, .w f_.Disp] 0))]⟩, ⟨.ptr [5] 0 0, [([5], some (.cells [.i many_.a0, .i many_.a1, .i many_.a2] 0))]⟩, ⟨.ptr [6] 0 0, [([6], some (.cells [.i 0, .i 0, .b false, .i 0, .i 0, .i 0, .i 0, .w 0] 0))]⟩] <| Rk <| Sq <| Ro <| Rc 6 [vp [3] 0 1, vi f_.Loc, vi (bitsOp .and .i64 f_.Loc 255), vi (Int.tmod (bitsOp .and .i64 f_.Loc 255) 5), vp [6] 0 1, ⟨.tup [], [([6], some (.cells [.i 0, .i (Int.tmod (bitsOp .and .i64 f_.Loc 255) 5), .b false, .i 0, .i 0, .i 0, .i 0, .w 0] 0))]⟩] <| Rk <| Sq <| Ro <| Rc 3 [vp [3] 0 2, vb f_.Self, vb f_.Self] ?_
 cases hb_1 : (f_.Self : Bool) with
 | true =>
  replace h := ite_t hb_1 h
  refine Rc 6 [vp [6] 0 1, vi (Int.tmod (bitsOp .and .i64 f_.Loc 255) 5), vb (decide ((Int.tmod (bitsOp .and .i64 f_.Loc 255) 5) < 2)), vb (decide ((Int.tmod (bitsOp .and .i64 f_.Loc 255) 5) < 2)), vp [6] 0 2, ⟨.tup [], [([6], some (.cells [.i 0, .i (Int.tmod (bitsOp .and .i64 f_.Loc 255) 5), .b (decide ((Int.tmod (bitsOp .and .i64 f_.Loc 255) 5) < 2)), .i 0, .i 0, .i 0, .i 0, .w 0] 0))]⟩] <| Rk <| Runs.canon (hansomref25_Near_h6 ({ f_ with Self := true } : Fixup) many_ ({ At := 0, Loc := (Int.tmod (bitsOp .and .i64 f_.Loc 255) 5), Self := (decide ((Int.tmod (bitsOp .and .i64 f_.Loc 255) 5) < 2)), Frame := 0, FrameN := 0, Target := 0, N := 0, Disp := 0 } : Fixup) n_) Cz ?_
  exact hansomref25_Near_j6_ok f_ n_ many_ ({ f_ with Self := true } : Fixup) many_ ({ At := 0, Loc := (Int.tmod (bitsOp .and .i64 f_.Loc 255) 5), Self := (decide ((Int.tmod (bitsOp .and .i64 f_.Loc 255) 5) < 2)), Frame := 0, FrameN := 0, Target := 0, N := 0, Disp := 0 } : Fixup) n_ r h
 | false =>
  replace h := ite_f hb_1 h
  refine Rc 6 [vn, vn, vn, vb false, vp [6] 0 2, ⟨.tup [], [([6], some (.cells [.i 0, .i (Int.tmod (bitsOp .and .i64 f_.Loc 255) 5), .b false, .i 0, .i 0, .i 0, .i 0, .w 0] 0))]⟩] <| Rk <| Runs.canon (hansomref25_Near_h6 ({ f_ with Self := false } : Fixup) many_ ({ At := 0, Loc := (Int.tmod (bitsOp .and .i64 f_.Loc 255) 5), Self := false, Frame := 0, FrameN := 0, Target := 0, N := 0, Disp := 0 } : Fixup) n_) Cz ?_
  exact hansomref25_Near_j6_ok f_ n_ many_ ({ f_ with Self := false } : Fixup) many_ ({ At := 0, Loc := (Int.tmod (bitsOp .and .i64 f_.Loc 255) 5), Self := false, Frame := 0, FrameN := 0, Target := 0, N := 0, Disp := 0 } : Fixup) n_ r h
theorem hansomref25_Near_L (f_ : Fixup) (n_ : Int) (many_ : (A3 Int)) (r : Fixup) (h : hansomref25_Near f_ n_ many_ = some r) : L 11 [.d (Fixup.d f_), .i n_, .d (.agg [.int .i64 many_.a0, .int .i64 many_.a1, .int .i64 many_.a2])] = some (.d (Fixup.d r), [.d (Fixup.d f_), .i n_, .d (.agg [.int .i64 many_.a0, .int .i64 many_.a1, .int .i64 many_.a2])]) := by
 obtain ⟨p, ⟨hne, hf⟩, hr⟩ := hansomref25_Near_ok f_ n_ many_ r h
 obtain ⟨k, hk⟩ := run_of (F := F11) (args := [.d (Fixup.d f_), .i n_, .d (.agg [.int .i64 many_.a0, .int .i64 many_.a1, .int .i64 many_.a2])]) (ap := [.d (Fixup.d f_), .i n_, .d (.agg [.int .i64 many_.a0, .int .i64 many_.a1, .int .i64 many_.a2])]) (bx0 := updW (fun _ => none) []) rfl rfl (by kernel_rfl) ⟨p, ⟨hne, hf⟩, hr⟩
 exact lim_run (k := k) rfl hk
def hansomref26_Near_h2 (m1 : Module) (b_903_2 : (List SegDef)) (b_904_2 : (List GrpDef)) (b_905_2 : (List Ext)) (b_906_2 : (List Pub)) (b_907_2 : (List Data)) (x2_0 : (List UInt8)) (x2_8 : Bool) (x2_9 : Bool) (x2_10 : Int) (x2_11 : Int) (x2_12 : Bool) (x2_13 : Int) (x2_14 : Int) (x2_15 : Int) (x2_16 : Int) (x2_17 : Int) (v_903_2 : Nat) (v_904_2 : Nat) (v_905_2 : Nat) (v_906_2 : Nat) (v_907_2 : Nat) : St := ⟨tab [(1, .ptr [1] 0 0), (2, .ptr [2] 0 0)], tabB [([1], some (.cells [.d (.str m1.Name), .d (.sl (List.map Comment.d m1.Notes)), .d (.sl (List.map D.str m1.Names)), .d (.sl (List.map SegDef.d m1.Segs)), .d (.sl (List.map GrpDef.d m1.Groups)), .d (.sl (List.map Ext.d m1.Exts)), .d (.sl (List.map Pub.d m1.Pubs)), .d (.sl (List.map Data.d m1.Datas)), .b m1.Main, .b m1.Is, .i m1.Start.At, .i m1.Start.Loc, .b m1.Start.Self, .i m1.Start.Frame, .i m1.Start.FrameN, .i m1.Start.Target, .i m1.Start.N, .w m1.Start.Disp] 0)), ([2], some (.cells [.d (.str x2_0), .nils, .nils, .ref [903, 2] v_903_2 0 (List.map SegDef.d b_903_2).length 8, .ref [904, 2] v_904_2 0 (List.map GrpDef.d b_904_2).length 2, .ref [905, 2] v_905_2 0 (List.map Ext.d b_905_2).length 3, .ref [906, 2] v_906_2 0 (List.map Pub.d b_906_2).length 5, .ref [907, 2] v_907_2 0 (List.map Data.d b_907_2).length 4, .b x2_8, .b x2_9, .i x2_10, .i x2_11, .b x2_12, .i x2_13, .i x2_14, .i x2_15, .i x2_16, .w x2_17] 0)), ([903, 2], some (.arr (List.map SegDef.d b_903_2) v_903_2 false)), ([904, 2], some (.arr (List.map GrpDef.d b_904_2) v_904_2 false)), ([905, 2], some (.arr (List.map Ext.d b_905_2) v_905_2 false)), ([906, 2], some (.arr (List.map Pub.d b_906_2) v_906_2 false)), ([907, 2], some (.arr (List.map Data.d b_907_2) v_907_2 false))]⟩
def hansomref26_Near_h8 (m1 : Module) (x2 : Module) (i3 : Int) (v_3_15 : Nat) (v_4_15 : Nat) (v_5_15 : Nat) (v_6_15 : Nat) (v_7_15 : Nat) : St := ⟨tab [(1, .ptr [1] 0 0), (2, .ptr [2] 0 0), (3, .i i3)], tabB [([1], some (.cells [.d (.str m1.Name), .d (.sl (List.map Comment.d m1.Notes)), .d (.sl (List.map D.str m1.Names)), .d (.sl (List.map SegDef.d m1.Segs)), .d (.sl (List.map GrpDef.d m1.Groups)), .d (.sl (List.map Ext.d m1.Exts)), .d (.sl (List.map Pub.d m1.Pubs)), .d (.sl (List.map Data.d m1.Datas)), .b m1.Main, .b m1.Is, .i m1.Start.At, .i m1.Start.Loc, .b m1.Start.Self, .i m1.Start.Frame, .i m1.Start.FrameN, .i m1.Start.Target, .i m1.Start.N, .w m1.Start.Disp] 0)), ([2], some (.cells [.d (.str x2.Name), .d (.sl (List.map Comment.d x2.Notes)), .d (.sl (List.map D.str x2.Names)), .ref [3, 15] v_3_15 0 (List.map SegDef.d x2.Segs).length 8, .ref [4, 15] v_4_15 0 (List.map GrpDef.d x2.Groups).length 2, .ref [5, 15] v_5_15 0 (List.map Ext.d x2.Exts).length 3, .ref [6, 15] v_6_15 0 (List.map Pub.d x2.Pubs).length 5, .ref [7, 15] v_7_15 0 (List.map Data.d x2.Datas).length 4, .b x2.Main, .b x2.Is, .i x2.Start.At, .i x2.Start.Loc, .b x2.Start.Self, .i x2.Start.Frame, .i x2.Start.FrameN, .i x2.Start.Target, .i x2.Start.N, .w x2.Start.Disp] 0)), ([3, 15], some (.arr (List.map SegDef.d x2.Segs) v_3_15 false)), ([4, 15], some (.arr (List.map GrpDef.d x2.Groups) v_4_15 false)), ([5, 15], some (.arr (List.map Ext.d x2.Exts) v_5_15 false)), ([6, 15], some (.arr (List.map Pub.d x2.Pubs) v_6_15 false)), ([7, 15], some (.arr (List.map Data.d x2.Datas) v_7_15 false))]⟩
def hansomref26_Near_h27 (m1 : Module) (x2 : Module) (v_3_15 : Nat) (v_4_15 : Nat) (v_5_15 : Nat) (v_6_15 : Nat) (v_7_15 : Nat) : St := ⟨tab [(1, .ptr [1] 0 0), (2, .ptr [2] 0 0)], tabB [([1], some (.cells [.d (.str m1.Name), .d (.sl (List.map Comment.d m1.Notes)), .d (.sl (List.map D.str m1.Names)), .d (.sl (List.map SegDef.d m1.Segs)), .d (.sl (List.map GrpDef.d m1.Groups)), .d (.sl (List.map Ext.d m1.Exts)), .d (.sl (List.map Pub.d m1.Pubs)), .d (.sl (List.map Data.d m1.Datas)), .b m1.Main, .b m1.Is, .i m1.Start.At, .i m1.Start.Loc, .b m1.Start.Self, .i m1.Start.Frame, .i m1.Start.FrameN, .i m1.Start.Target, .i m1.Start.N, .w m1.Start.Disp] 0)), ([2], some (.cells [.d (.str x2.Name), .d (.sl (List.map Comment.d x2.Notes)), .d (.sl (List.map D.str x2.Names)), .ref [3, 15] v_3_15 0 (List.map SegDef.d x2.Segs).length 8, .ref [4, 15] v_4_15 0 (List.map GrpDef.d x2.Groups).length 2, .ref [5, 15] v_5_15 0 (List.map Ext.d x2.Exts).length 3, .ref [6, 15] v_6_15 0 (List.map Pub.d x2.Pubs).length 5, .ref [7, 15] v_7_15 0 (List.map Data.d x2.Datas).length 4, .b x2.Main, .b x2.Is, .i x2.Start.At, .i x2.Start.Loc, .b x2.Start.Self, .i x2.Start.Frame, .i x2.Start.FrameN, .i x2.Start.Target, .i x2.Start.N, .w x2.Start.Disp] 0)), ([3, 15], some (.arr (List.map SegDef.d x2.Segs) v_3_15 false)), ([4, 15], some (.arr (List.map GrpDef.d x2.Groups) v_4_15 false)), ([5, 15], some (.arr (List.map Ext.d x2.Exts) v_5_15 false)), ([6, 15], some (.arr (List.map Pub.d x2.Pubs) v_6_15 false)), ([7, 15], some (.arr (List.map Data.d x2.Datas) v_7_15 false))]⟩
def hansomref26_Near_h31 (m1 : Module) (x2 : Module) (i5 : Int) (v_3_15 : Nat) (v_4_15 : Nat) (v_5_15 : Nat) (v_6_15 : Nat) (v_7_15 : Nat) : St := ⟨tab [(1, .ptr [1] 0 0), (2, .ptr [2] 0 0), (5, .i i5)], tabB [([1], some (.cells [.d (.str m1.Name), .d (.sl (List.map Comment.d m1.Notes)), .d (.sl (List.map D.str m1.Names)), .d (.sl (List.map SegDef.d m1.Segs)), .d (.sl (List.map GrpDef.d m1.Groups)), .d (.sl (List.map Ext.d m1.Exts)), .d (.sl (List.map Pub.d m1.Pubs)), .d (.sl (List.map Data.d m1.Datas)), .b m1.Main, .b m1.Is, .i m1.Start.At, .i m1.Start.Loc, .b m1.Start.Self, .i m1.Start.Frame, .i m1.Start.FrameN, .i m1.Start.Target, .i m1.Start.N, .w m1.Start.Disp] 0)), ([2], some (.cells [.d (.str x2.Name), .d (.sl (List.map Comment.d x2.Notes)), .d (.sl (List.map D.str x2.Names)), .ref [3, 15] v_3_15 0 (List.map SegDef.d x2.Segs).length 8, .ref [4, 15] v_4_15 0 (List.map GrpDef.d x2.Groups).length 2, .ref [5, 15] v_5_15 0 (List.map Ext.d x2.Exts).length 3, .ref [6, 15] v_6_15 0 (List.map Pub.d x2.Pubs).length 5, .ref [7, 15] v_7_15 0 (List.map Data.d x2.Datas).length 4, .b x2.Main, .b x2.Is, .i x2.Start.At, .i x2.Start.Loc, .b x2.Start.Self, .i x2.Start.Frame, .i x2.Start.FrameN, .i x2.Start.Target, .i x2.Start.N, .w x2.Start.Disp] 0)), ([3, 15], some (.arr (List.map SegDef.d x2.Segs) v_3_15 false)), ([4, 15], some (.arr (List.map GrpDef.d x2.Groups) v_4_15 false)), ([5, 15], some (.arr (List.map Ext.d x2.Exts) v_5_15 false)), ([6, 15], some (.arr (List.map Pub.d x2.Pubs) v_6_15 false)), ([7, 15], some (.arr (List.map Data.d x2.Datas) v_7_15 false))]⟩
def hansomref26_Near_h52 (m1 : Module) (x2 : Module) (v_3_15 : Nat) (v_4_15 : Nat) (v_5_15 : Nat) (v_6_15 : Nat) (v_7_15 : Nat) : St := ⟨tab [(1, .ptr [1] 0 0), (2, .ptr [2] 0 0)], tabB [([1], some (.cells [.d (.str m1.Name), .d (.sl (List.map Comment.d m1.Notes)), .d (.sl (List.map D.str m1.Names)), .d (.sl (List.map SegDef.d m1.Segs)), .d (.sl (List.map GrpDef.d m1.Groups)), .d (.sl (List.map Ext.d m1.Exts)), .d (.sl (List.map Pub.d m1.Pubs)), .d (.sl (List.map Data.d m1.Datas)), .b m1.Main, .b m1.Is, .i m1.Start.At, .i m1.Start.Loc, .b m1.Start.Self, .i m1.Start.Frame, .i m1.Start.FrameN, .i m1.Start.Target, .i m1.Start.N, .w m1.Start.Disp] 0)), ([2], some (.cells [.d (.str x2.Name), .d (.sl (List.map Comment.d x2.Notes)), .d (.sl (List.map D.str x2.Names)), .ref [3, 15] v_3_15 0 (List.map SegDef.d x2.Segs).length 8, .ref [4, 15] v_4_15 0 (List.map GrpDef.d x2.Groups).length 2, .ref [5, 15] v_5_15 0 (List.map Ext.d x2.Exts).length 3, .ref [6, 15] v_6_15 0 (List.map Pub.d x2.Pubs).length 5, .ref [7, 15] v_7_15 0 (List.map Data.d x2.Datas).length 4, .b x2.Main, .b x2.Is, .i x2.Start.At, .i x2.Start.Loc, .b x2.Start.Self, .i x2.Start.Frame, .i x2.Start.FrameN, .i x2.Start.Target, .i x2.Start.N, .w x2.Start.Disp] 0)), ([3, 15], some (.arr (List.map SegDef.d x2.Segs) v_3_15 false)), ([4, 15], some (.arr (List.map GrpDef.d x2.Groups) v_4_15 false)), ([5, 15], some (.arr (List.map Ext.d x2.Exts) v_5_15 false)), ([6, 15], some (.arr (List.map Pub.d x2.Pubs) v_6_15 false)), ([7, 15], some (.arr (List.map Data.d x2.Datas) v_7_15 false))]⟩
def hansomref26_Near_h58 (m1 : Module) (x2 : Module) (many8 : (A3 Int)) (i9 : Int) (v_3_15 : Nat) (v_4_15 : Nat) (v_5_15 : Nat) (v_6_15 : Nat) (v_7_15 : Nat) : St := ⟨tab [(1, .ptr [1] 0 0), (2, .ptr [2] 0 0), (8, .ptr [8] 0 0), (9, .i i9)], tabB [([1], some (.cells [.d (.str m1.Name), .d (.sl (List.map Comment.d m1.Notes)), .d (.sl (List.map D.str m1.Names)), .d (.sl (List.map SegDef.d m1.Segs)), .d (.sl (List.map GrpDef.d m1.Groups)), .d (.sl (List.map Ext.d m1.Exts)), .d (.sl (List.map Pub.d m1.Pubs)), .d (.sl (List.map Data.d m1.Datas)), .b m1.Main, .b m1.Is, .i m1.Start.At, .i m1.Start.Loc, .b m1.Start.Self, .i m1.Start.Frame, .i m1.Start.FrameN, .i m1.Start.Target, .i m1.Start.N, .w m1.Start.Disp] 0)), ([2], some (.cells [.d (.str x2.Name), .d (.sl (List.map Comment.d x2.Notes)), .d (.sl (List.map D.str x2.Names)), .ref [3, 15] v_3_15 0 (List.map SegDef.d x2.Segs).length 8, .ref [4, 15] v_4_15 0 (List.map GrpDef.d x2.Groups).length 2, .ref [5, 15] v_5_15 0 (List.map Ext.d x2.Exts).length 3, .ref [6, 15] v_6_15 0 (List.map Pub.d x2.Pubs).length 5, .ref [7, 15] v_7_15 0 (List.map Data.d x2.Datas).length 4, .b x2.Main, .b x2.Is, .i x2.Start.At, .i x2.Start.Loc, .b x2.Start.Self, .i x2.Start.Frame, .i x2.Start.FrameN, .i x2.Start.Target, .i x2.Start.N, .w x2.Start.Disp] 0)), ([8], some (.cells [.i many8.a0, .i many8.a1, .i many8.a2] 0)), ([3, 15], some (.arr (List.map SegDef.d x2.Segs) v_3_15 false)), ([4, 15], some (.arr (List.map GrpDef.d x2.Groups) v_4_15 false)), ([5, 15], some (.arr (List.map Ext.d x2.Exts) v_5_15 false)), ([6, 15], some (.arr (List.map Pub.d x2.Pubs) v_6_15 false)), ([7, 15], some (.arr (List.map Data.d x2.Datas) v_7_15 false))]⟩
def hansomref26_Near_h71 (m1 : Module) (x2 : Module) (many8 : (A3 Int)) (d10 : Data) (b_903_11 : (List Fixup)) (y11_0 : Int) (y11_1 : Int) (i9 : Int) (v_3_15 : Nat) (v_4_15 : Nat) (v_5_15 : Nat) (v_6_15 : Nat) (v_7_15 : Nat) (v_903_11 : Nat) : St := ⟨tab [(1, .ptr [1] 0 0), (2, .ptr [2] 0 0), (8, .ptr [8] 0 0), (9, .i i9), (10, .ptr [10] 0 0), (11, .ptr [11] 0 0)], tabB [([1], some (.cells [.d (.str m1.Name), .d (.sl (List.map Comment.d m1.Notes)), .d (.sl (List.map D.str m1.Names)), .d (.sl (List.map SegDef.d m1.Segs)), .d (.sl (List.map GrpDef.d m1.Groups)), .d (.sl (List.map Ext.d m1.Exts)), .d (.sl (List.map Pub.d m1.Pubs)), .d (.sl (List.map Data.d m1.Datas)), .b m1.Main, .b m1.Is, .i m1.Start.At, .i m1.Start.Loc, .b m1.Start.Self, .i m1.Start.Frame, .i m1.Start.FrameN, .i m1.Start.Target, .i m1.Start.N, .w m1.Start.Disp] 0)), ([2], some (.cells [.d (.str x2.Name), .d (.sl (List.map Comment.d x2.Notes)), .d (.sl (List.map D.str x2.Names)), .ref [3, 15] v_3_15 0 (List.map SegDef.d x2.Segs).length 8, .ref [4, 15] v_4_15 0 (List.map GrpDef.d x2.Groups).length 2, .ref [5, 15] v_5_15 0 (List.map Ext.d x2.Exts).length 3, .ref [6, 15] v_6_15 0 (List.map Pub.d x2.Pubs).length 5, .ref [7, 15] v_7_15 0 (List.map Data.d x2.Datas).length 4, .b x2.Main, .b x2.Is, .i x2.Start.At, .i x2.Start.Loc, .b x2.Start.Self, .i x2.Start.Frame, .i x2.Start.FrameN, .i x2.Start.Target, .i x2.Start.N, .w x2.Start.Disp] 0)), ([8], some (.cells [.i many8.a0, .i many8.a1, .i many8.a2] 0)), ([10], some (.cells [.i d10.Seg, .w d10.Off, .d (.sl (mY d10.Bytes)), .d (.sl (List.map Fixup.d d10.Fixups))] 0)), ([11], some (.cells [.i y11_0, .w y11_1, .nils, .ref [903, 11] v_903_11 0 (List.map Fixup.d b_903_11).length 8] 0)), ([3, 15], some (.arr (List.map SegDef.d x2.Segs) v_3_15 false)), ([4, 15], some (.arr (List.map GrpDef.d x2.Groups) v_4_15 false)), ([5, 15], some (.arr (List.map Ext.d x2.Exts) v_5_15 false)), ([6, 15], some (.arr (List.map Pub.d x2.Pubs) v_6_15 false)), ([7, 15], some (.arr (List.map Data.d x2.Datas) v_7_15 false)), ([903, 11], some (.arr (List.map Fixup.d b_903_11) v_903_11 false))]⟩
def hansomref26_Near_h81 (m1 : Module) (x2 : Module) (many8 : (A3 Int)) (d10 : Data) (y11 : Data) (i9 : Int) (k13 : Int) (v_170 : Nat) (v_3_15 : Nat) (v_4_15 : Nat) (v_5_15 : Nat) (v_6_15 : Nat) (v_7_15 : Nat) (v_903_11 : Nat) : St := ⟨tab [(1, .ptr [1] 0 0), (2, .ptr [2] 0 0), (8, .ptr [8] 0 0), (9, .i i9), (10, .ptr [10] 0 0), (11, .ptr [11] 0 0), (13, .i k13)], tabB [([1], some (.cells [.d (.str m1.Name), .d (.sl (List.map Comment.d m1.Notes)), .d (.sl (List.map D.str m1.Names)), .d (.sl (List.map SegDef.d m1.Segs)), .d (.sl (List.map GrpDef.d m1.Groups)), .d (.sl (List.map Ext.d m1.Exts)), .d (.sl (List.map Pub.d m1.Pubs)), .d (.sl (List.map Data.d m1.Datas)), .b m1.Main, .b m1.Is, .i m1.Start.At, .i m1.Start.Loc, .b m1.Start.Self, .i m1.Start.Frame, .i m1.Start.FrameN, .i m1.Start.Target, .i m1.Start.N, .w m1.Start.Disp] 0)), ([2], some (.cells [.d (.str x2.Name), .d (.sl (List.map Comment.d x2.Notes)), .d (.sl (List.map D.str x2.Names)), .ref [3, 15] v_3_15 0 (List.map SegDef.d x2.Segs).length 8, .ref [4, 15] v_4_15 0 (List.map GrpDef.d x2.Groups).length 2, .ref [5, 15] v_5_15 0 (List.map Ext.d x2.Exts).length 3, .ref [6, 15] v_6_15 0 (List.map Pub.d x2.Pubs).length 5, .ref [7, 15] v_7_15 0 (List.map Data.d x2.Datas).length 4, .b x2.Main, .b x2.Is, .i x2.Start.At, .i x2.Start.Loc, .b x2.Start.Self, .i x2.Start.Frame, .i x2.Start.FrameN, .i x2.Start.Target, .i x2.Start.N, .w x2.Start.Disp] 0)), ([8], some (.cells [.i many8.a0, .i many8.a1, .i many8.a2] 0)), ([10], some (.cells [.i d10.Seg, .w d10.Off, .d (.sl (mY d10.Bytes)), .d (.sl (List.map Fixup.d d10.Fixups))] 0)), ([11], some (.cells [.i y11.Seg, .w y11.Off, .ref [170] v_170 0 (mY y11.Bytes).length 1, .ref [903, 11] v_903_11 0 (List.map Fixup.d y11.Fixups).length 8] 0)), ([170], some (.arr (mY y11.Bytes) v_170 false)), ([3, 15], some (.arr (List.map SegDef.d x2.Segs) v_3_15 false)), ([4, 15], some (.arr (List.map GrpDef.d x2.Groups) v_4_15 false)), ([5, 15], some (.arr (List.map Ext.d x2.Exts) v_5_15 false)), ([6, 15], some (.arr (List.map Pub.d x2.Pubs) v_6_15 false)), ([7, 15], some (.arr (List.map Data.d x2.Datas) v_7_15 false)), ([903, 11], some (.arr (List.map Fixup.d y11.Fixups) v_903_11 false))]⟩
def hansomref26_Near_h92 (m1 : Module) (x2 : Module) (many8 : (A3 Int)) (y11 : Data) (i9 : Int) (v_170 : Nat) (v_3_15 : Nat) (v_4_15 : Nat) (v_5_15 : Nat) (v_6_15 : Nat) (v_7_15 : Nat) (v_903_11 : Nat) : St := ⟨tab [(1, .ptr [1] 0 0), (2, .ptr [2] 0 0), (8, .ptr [8] 0 0), (9, .i i9), (11, .ptr [11] 0 0)], tabB [([1], some (.cells [.d (.str m1.Name), .d (.sl (List.map Comment.d m1.Notes)), .d (.sl (List.map D.str m1.Names)), .d (.sl (List.map SegDef.d m1.Segs)), .d (.sl (List.map GrpDef.d m1.Groups)), .d (.sl (List.map Ext.d m1.Exts)), .d (.sl (List.map Pub.d m1.Pubs)), .d (.sl (List.map Data.d m1.Datas)), .b m1.Main, .b m1.Is, .i m1.Start.At, .i m1.Start.Loc, .b m1.Start.Self, .i m1.Start.Frame, .i m1.Start.FrameN, .i m1.Start.Target, .i m1.Start.N, .w m1.Start.Disp] 0)), ([2], some (.cells [.d (.str x2.Name), .d (.sl (List.map Comment.d x2.Notes)), .d (.sl (List.map D.str x2.Names)), .ref [3, 15] v_3_15 0 (List.map SegDef.d x2.Segs).length 8, .ref [4, 15] v_4_15 0 (List.map GrpDef.d x2.Groups).length 2, .ref [5, 15] v_5_15 0 (List.map Ext.d x2.Exts).length 3, .ref [6, 15] v_6_15 0 (List.map Pub.d x2.Pubs).length 5, .ref [7, 15] v_7_15 0 (List.map Data.d x2.Datas).length 4, .b x2.Main, .b x2.Is, .i x2.Start.At, .i x2.Start.Loc, .b x2.Start.Self, .i x2.Start.Frame, .i x2.Start.FrameN, .i x2.Start.Target, .i x2.Start.N, .w x2.Start.Disp] 0)), ([8], some (.cells [.i many8.a0, .i many8.a1, .i many8.a2] 0)), ([11], some (.cells [.i y11.Seg, .w y11.Off, .ref [170] v_170 0 (mY y11.Bytes).length 1, .ref [903, 11] v_903_11 0 (List.map Fixup.d y11.Fixups).length 8] 0)), ([170], some (.arr (mY y11.Bytes) v_170 false)), ([3, 15], some (.arr (List.map SegDef.d x2.Segs) v_3_15 false)), ([4, 15], some (.arr (List.map GrpDef.d x2.Groups) v_4_15 false)), ([5, 15], some (.arr (List.map Ext.d x2.Exts) v_5_15 false)), ([6, 15], some (.arr (List.map Pub.d x2.Pubs) v_6_15 false)), ([7, 15], some (.arr (List.map Data.d x2.Datas) v_7_15 false)), ([903, 11], some (.arr (List.map Fixup.d y11.Fixups) v_903_11 false))]⟩
def hansomref26_Near_h94 (m1 : Module) (x2 : Module) (many8 : (A3 Int)) (v_3_15 : Nat) (v_4_15 : Nat) (v_5_15 : Nat) (v_6_15 : Nat) (v_7_15 : Nat) : St := ⟨tab [(1, .ptr [1] 0 0), (2, .ptr [2] 0 0), (8, .ptr [8] 0 0)], tabB [([1], some (.cells [.d (.str m1.Name), .d (.sl (List.map Comment.d m1.Notes)), .d (.sl (List.map D.str m1.Names)), .d (.sl (List.map SegDef.d m1.Segs)), .d (.sl (List.map GrpDef.d m1.Groups)), .d (.sl (List.map Ext.d m1.Exts)), .d (.sl (List.map Pub.d m1.Pubs)), .d (.sl (List.map Data.d m1.Datas)), .b m1.Main, .b m1.Is, .i m1.Start.At, .i m1.Start.Loc, .b m1.Start.Self, .i m1.Start.Frame, .i m1.Start.FrameN, .i m1.Start.Target, .i m1.Start.N, .w m1.Start.Disp] 0)), ([2], some (.cells [.d (.str x2.Name), .d (.sl (List.map Comment.d x2.Notes)), .d (.sl (List.map D.str x2.Names)), .ref [3, 15] v_3_15 0 (List.map SegDef.d x2.Segs).length 8, .ref [4, 15] v_4_15 0 (List.map GrpDef.d x2.Groups).length 2, .ref [5, 15] v_5_15 0 (List.map Ext.d x2.Exts).length 3, .ref [6, 15] v_6_15 0 (List.map Pub.d x2.Pubs).length 5, .ref [7, 15] v_7_15 0 (List.map Data.d x2.Datas).length 4, .b x2.Main, .b x2.Is, .i x2.Start.At, .i x2.Start.Loc, .b x2.Start.Self, .i x2.Start.Frame, .i x2.Start.FrameN, .i x2.Start.Target, .i x2.Start.N, .w x2.Start.Disp] 0)), ([8], some (.cells [.i many8.a0, .i many8.a1, .i many8.a2] 0)), ([3, 15], some (.arr (List.map SegDef.d x2.Segs) v_3_15 false)), ([4, 15], some (.arr (List.map GrpDef.d x2.Groups) v_4_15 false)), ([5, 15], some (.arr (List.map Ext.d x2.Exts) v_5_15 false)), ([6, 15], some (.arr (List.map Pub.d x2.Pubs) v_6_15 false)), ([7, 15], some (.arr (List.map Data.d x2.Datas) v_7_15 false))]⟩
def hansomref26_Near_Q (m_ : Module) (r : Module) (p : Out × St) : Prop := (∀ i, p.1 ≠ .exit i) ∧ finF F4 [.d (Module.d m_)] p.2 = some (.mix [.d (.str r.Name), .d (.sl (List.map Comment.d r.Notes)), .d (.sl (List.map D.str r.Names)), .arr false 8 (List.map SegDef.d r.Segs), .arr false 2 (List.map GrpDef.d r.Groups), .d (.sl (List.map Ext.d r.Exts)), .arr false 5 (List.map Pub.d r.Pubs), .arr false 4 (List.map Data.d r.Datas), .b r.Main, .b r.Is, .i r.Start.At, .i r.Start.Loc, .b r.Start.Self, .i r.Start.Frame, .i r.Start.FrameN, .i r.Start.Target, .i r.Start.N, .w r.Start.Disp], [.d (Module.d m_)])
def hansomref26_Near_P8 (m_ : Module) (m1 : Module) (e : Module) (p : Out × St) : Prop := p.1 = .exit 0 ∧ ∃ g : (Nat × Nat × Nat × Nat × Nat), Canon [] [1, 2] [[1], [2], [3, 15], [4, 15], [5, 15], [6, 15], [7, 15]] p.2 (hansomref26_Near_h27 m1 e g.1 g.2.1 g.2.2.1 g.2.2.2.1 g.2.2.2.2)
def hansomref26_Near_P31 (m_ : Module) (m1 : Module) (e : Module) (p : Out × St) : Prop := p.1 = .exit 2 ∧ ∃ g : (Nat × Nat × Nat × Nat × Nat), Canon [] [1, 2] [[1], [2], [3, 15], [4, 15], [5, 15], [6, 15], [7, 15]] p.2 (hansomref26_Near_h52 m1 e g.1 g.2.1 g.2.2.1 g.2.2.2.1 g.2.2.2.2)
def hansomref26_Near_P81 (m_ : Module) (m1 : Module) (x2 : Module) (many8 : (A3 Int)) (d10 : Data) (i9 : Int) (e : Data) (p : Out × St) : Prop := p.1 = .exit 6 ∧ ∃ g : (Nat × Nat × Nat × Nat × Nat × Nat × Nat), Canon [] [1, 2, 8, 9, 11] [[1], [2], [8], [11], [170], [3, 15], [4, 15], [5, 15], [6, 15], [7, 15], [903, 11]] p.2 (hansomref26_Near_h92 m1 x2 many8 e i9 g.1 g.2.1 g.2.2.1 g.2.2.2.1 g.2.2.2.2.1 g.2.2.2.2.2.1 g.2.2.2.2.2.2)
def hansomref26_Near_P58 (m_ : Module) (m1 : Module) (many8 : (A3 Int)) (e : Module) (p : Out × St) : Prop := p.1 = .exit 4 ∧ ∃ g : (Nat × Nat × Nat × Nat × Nat), Canon [] [1, 2, 8] [[1], [2], [8], [3, 15], [4, 15], [5, 15], [6, 15], [7, 15]] p.2 (hansomref26_Near_h94 m1 e many8 g.1 g.2.1 g.2.2.1 g.2.2.2.1 g.2.2.2.2)
theorem hansomref26_Near_l8_ok (m_ : Module) (m1 : Module) (x2 : Module) (i3 : Int) (v_3_15 : Nat) (v_4_15 : Nat) (v_5_15 : Nat) (v_6_15 : Nat) (v_7_15 : Nat) (r : (Lp (Module × Int) Module)) (h : hansomref26_Near_l8 m1 x2 i3 = some r) : Runs L F4l8 (hansomref26_Near_h8 m1 x2 i3 v_3_15 v_4_15 v_5_15 v_6_15 v_7_15) (LQ [] [1, 2, 3] [[1], [2], [3, 15], [4, 15], [5, 15], [6, 15], [7, 15]] (fun (x : (Module × Int)) (g : (Nat × Nat × Nat × Nat × Nat)) => hansomref26_Near_h8 m1 x.1 x.2 g.1 g.2.1 g.2.2.1 g.2.2.2.1 g.2.2.2.2) (hansomref26_Near_P8 m_ m1) r) := by
 unfold hansomref26_Near_l8 at h
 refine Sq <| Sq <| Ro <| Rc 3 [vi i3, vp [1] 0 5, ⟨.d (.sl (List.map Ext.d m1.Exts)), []⟩] <| Rt (some 19) .lenL [] none [.d (.sl (List.map Ext.d m1.Exts))] (.i (m1.Exts.length : Int)) [] (cut_len _) <| Rc 2 [vb (decide (i3 < (m1.Exts.length : Int))), vb (decide (i3 < (m1.Exts.length : Int)))] ?_
 cases hb_1 : ((decide (i3 < (m1.Exts.length : Int))) : Bool) with
 | true =>
  replace h := ite_t hb_1 h
  refine Rc 3 [vi i3, vb (decide (i3 < 3)), vb (decide (i3 < 3))] <| Rk ?_
  cases hb_2 : ((decide (i3 < 3)) : Bool) with
  | true =>
   replace h := ite_t hb_2 h
   refine Ct <| Runs.skip <| kS_nrm <| Sq <| Runs.block <| Sq <| Ro <| Rc 3 [vp [1] 0 5, ⟨.d (.sl (List.map Ext.d m1.Exts)), []⟩, vi i3] ?_
   obtain ⟨z_1, hz_1, h⟩ := bind_s h
   refine Rt (some 30) (.iaddrS 3) [] none [.d (.sl (List.map Ext.d m1.Exts)), .i i3] (.elt (Ext.d z_1) 0) [] (cut_at hz_1 (fun _ => rfl)) <| Rc 2 [⟨.elt (Ext.d z_1) 0, []⟩, ⟨.d (.str z_1.Name), []⟩] ?_
   obtain ⟨r_2, hr_2, h⟩ := bind_s h
   have hc_2 := hansomref26_cut_L z_1.Name r_2 hr_2
   refine Rt (some 33) (.callf 10) [] none [.d (.str z_1.Name)] (.d (.str r_2)) [] (cc hc_2) <| Rc 3 [⟨.d (.agg [.str r_2, .int .i64 0, .int .u32 0]), []⟩, ⟨.ptr [4] 0 0, [([4], some (.cells [.d (.str []), .i 0, .u 0] 0))]⟩, ⟨.tup [], [([4], some (.cells [.d (.str r_2), .i 0, .u 0] 0))]⟩] <| Rk <| Sq <| Sq <| Ro <| Rc 3 [vp [1] 0 5, ⟨.d (.sl (List.map Ext.d m1.Exts)), []⟩, vi i3] ?_
   obtain ⟨z_2, hz_2, h⟩ := bind_s h
   refine Rt (some 38) (.iaddrS 3) [] none [.d (.sl (List.map Ext.d m1.Exts)), .i i3] (.elt (Ext.d z_2) 0) [] (cut_at hz_2 (fun _ => rfl)) <| Rc 4 [⟨.elt (Ext.d z_2) 1, []⟩, vi z_2.Com, vi (bitsOp .and .i64 z_2.Com 1), vb ((bitsOp .and .i64 z_2.Com 1) == 1)] <| Rk ?_
   cases hb_3 : (((bitsOp .and .i64 z_2.Com 1) == 1) : Bool) with
   | true =>
    replace h := ite_t hb_3 h
    refine Ct <| Ro <| Rc 3 [vp [1] 0 5, ⟨.d (.sl (List.map Ext.d m1.Exts)), []⟩, vi i3] ?_
    obtain ⟨z_3, hz_3, h⟩ := bind_s h
    refine Rt (some 46) (.iaddrS 3) [] none [.d (.sl (List.map Ext.d m1.Exts)), .i i3] (.elt (Ext.d z_3) 0) [] (cut_at hz_3 (fun _ => rfl)) <| Rc 8 [⟨.elt (Ext.d z_3) 1, []⟩, vi z_3.Com, vi (shrI .i64 z_3.Com 1), vi (bitsOp .and .i64 (shrI .i64 z_3.Com 1) 1), vi (IntKind.wrap .i64 (97 + (bitsOp .and .i64 (shrI .i64 z_3.Com 1) 1))), vp [1] 0 5, ⟨.d (.sl (List.map Ext.d m1.Exts)), []⟩, vi i3] ?_
    obtain ⟨z_4, hz_4, h⟩ := bind_s h
    refine Rt (some 55) (.iaddrS 3) [] none [.d (.sl (List.map Ext.d m1.Exts)), .i i3] (.elt (Ext.d z_4) 0) [] (cut_at hz_4 (fun _ => rfl)) <| Rc 7 [⟨.elt (Ext.d z_4) 2, []⟩, vu z_4.Len, vu (bitsOp .and .u32 z_4.Len 1023), vp [4] 0 1, ⟨.tup [], [([4], some (.cells [.d (.str r_2), .i (IntKind.wrap .i64 (97 + (bitsOp .and .i64 (shrI .i64 z_3.Com 1) 1))), .u 0] 0))]⟩, vp [4] 0 2, ⟨.tup [], [([4], some (.cells [.d (.str r_2), .i (IntKind.wrap .i64 (97 + (bitsOp .and .i64 (shrI .i64 z_3.Com 1) 1))), .u (bitsOp .and .u32 z_4.Len 1023)] 0))]⟩] <| Rk <| Ro <| Rc 4 [vp [2] 0 5, ⟨.ref [5, 15] v_5_15 0 (List.map Ext.d x2.Exts).length 3, []⟩, ⟨.d (.agg [.str r_2, .int .i64 (IntKind.wrap .i64 (97 + (bitsOp .and .i64 (shrI .i64 z_3.Com 1) 1))), .int .u32 (bitsOp .and .u32 z_4.Len 1023)]), []⟩, ⟨.ref [64] 0 0 (List.map Ext.d ([({ Name := r_2, Com := (IntKind.wrap .i64 (97 + (bitsOp .and .i64 (shrI .i64 z_3.Com 1) 1))), Len := (bitsOp .and .u32 z_4.Len 1023) } : Ext)] : List Ext)).length 3, [([64], some (.arr (List.map Ext.d ([({ Name := r_2, Com := (IntKind.wrap .i64 (97 + (bitsOp .and .i64 (shrI .i64 z_3.Com 1) 1))), Len := (bitsOp .and .u32 z_4.Len 1023) } : Ext)] : List Ext)) 0 false))]⟩] ?_
    obtain ⟨z_5, hz_5, h⟩ := bind_s h
    refine Rt (some 65) (.append 3 32 false) [] none [.ref [5, 15] v_5_15 0 (List.map Ext.d x2.Exts).length 3, .ref [64] 0 0 (List.map Ext.d ([({ Name := r_2, Com := (IntKind.wrap .i64 (97 + (bitsOp .and .i64 (shrI .i64 z_3.Com 1) 1))), Len := (bitsOp .and .u32 z_4.Len 1023) } : Ext)] : List Ext)).length 3] (.ref [5, 15] (v_5_15 + 1) 0 (List.map Ext.d z_5).length 3) [([5, 15], some (.arr (List.map Ext.d z_5) (v_5_15 + 1) false))] (cut_appR (e := Ext.d) (l := x2.Exts) (fz := false) (ws := []) (ap_ref (e := Ext.d) (l := ([({ Name := r_2, Com := (IntKind.wrap .i64 (97 + (bitsOp .and .i64 (shrI .i64 z_3.Com 1) 1))), Len := (bitsOp .and .u32 z_4.Len 1023) } : Ext)] : List Ext)) (fz := false) (by kernel_rfl) (by kernel_rfl) rfl) (fun _ => rfl) hz_5 (by kernel_rfl) (by kernel_rfl) rfl) <| Rc 2 [vp [2] 0 5, ⟨.tup [], [([2], some (.cells [.d (.str x2.Name), .d (.sl (List.map Comment.d x2.Notes)), .d (.sl (List.map D.str x2.Names)), .ref [3, 15] v_3_15 0 (List.map SegDef.d x2.Segs).length 8, .ref [4, 15] v_4_15 0 (List.map GrpDef.d x2.Groups).length 2, .ref [5, 15] (v_5_15 + 1) 0 (List.map Ext.d z_5).length 3, .ref [6, 15] v_6_15 0 (List.map Pub.d x2.Pubs).length 5, .ref [7, 15] v_7_15 0 (List.map Data.d x2.Datas).length 4, .b x2.Main, .b x2.Is, .i x2.Start.At, .i x2.Start.Loc, .b x2.Start.Self, .i x2.Start.Frame, .i x2.Start.FrameN, .i x2.Start.Target, .i x2.Start.N, .w x2.Start.Disp] 0))]⟩] ?_
    refine Rd <| kB_nrm <| kS_nrm <| Ro <| Rc 3 [vi i3, vi (IntKind.wrap .i64 (i3 + 1)), vi (IntKind.wrap .i64 (i3 + 1))] <| Rd ?_
    obtain rfl := sj h
    exact ⟨rfl, (v_3_15, v_4_15, (v_5_15 + 1), v_6_15, v_7_15), Cz⟩
   | false =>
    replace h := ite_f hb_3 h
    refine Cf <| Runs.skip <| kS_nrm <| Ro <| Rc 4 [vp [2] 0 5, ⟨.ref [5, 15] v_5_15 0 (List.map Ext.d x2.Exts).length 3, []⟩, ⟨.d (.agg [.str r_2, .int .i64 0, .int .u32 0]), []⟩, ⟨.ref [64] 0 0 (List.map Ext.d ([({ Name := r_2, Com := 0, Len := 0 } : Ext)] : List Ext)).length 3, [([64], some (.arr (List.map Ext.d ([({ Name := r_2, Com := 0, Len := 0 } : Ext)] : List Ext)) 0 false))]⟩] ?_
    obtain ⟨z_6, hz_6, h⟩ := bind_s h
    refine Rt (some 65) (.append 3 32 false) [] none [.ref [5, 15] v_5_15 0 (List.map Ext.d x2.Exts).length 3, .ref [64] 0 0 (List.map Ext.d ([({ Name := r_2, Com := 0, Len := 0 } : Ext)] : List Ext)).length 3] (.ref [5, 15] (v_5_15 + 1) 0 (List.map Ext.d z_6).length 3) [([5, 15], some (.arr (List.map Ext.d z_6) (v_5_15 + 1) false))] (cut_appR (e := Ext.d) (l := x2.Exts) (fz := false) (ws := []) (ap_ref (e := Ext.d) (l := ([({ Name := r_2, Com := 0, Len := 0 } : Ext)] : List Ext)) (fz := false) (by kernel_rfl) (by kernel_rfl) rfl) (fun _ => rfl) hz_6 (by kernel_rfl) (by kernel_rfl) rfl) <| Rc 2 [vp [2] 0 5, ⟨.tup [], [([2], some (.cells [.d (.str x2.Name), .d (.sl (List.map Comment.d x2.Notes)), .d (.sl (List.map D.str x2.Names)), .ref [3, 15] v_3_15 0 (List.map SegDef.d x2.Segs).length 8, .ref [4, 15] v_4_15 0 (List.map GrpDef.d x2.Groups).length 2, .ref [5, 15] (v_5_15 + 1) 0 (List.map Ext.d z_6).length 3, .ref [6, 15] v_6_15 0 (List.map Pub.d x2.Pubs).length 5, .ref [7, 15] v_7_15 0 (List.map Data.d x2.Datas).length 4, .b x2.Main, .b x2.Is, .i x2.Start.At, .i x2.Start.Loc, .b x2.Start.Self, .i x2.Start.Frame, .i x2.Start.FrameN, .i x2.Start.Target, .i x2.Start.N, .w x2.Start.Disp] 0))]⟩] <| Rd <| kB_nrm <| kS_nrm <| Ro <| Rc 3 [vi i3, vi (IntKind.wrap .i64 (i3 + 1)), vi (IntKind.wrap .i64 (i3 + 1))] <| Rd ?_
    obtain rfl := sj h
    exact ⟨rfl, (v_3_15, v_4_15, (v_5_15 + 1), v_6_15, v_7_15), Cz⟩
  | false =>
   replace h := ite_f hb_2 h
   refine Cf <| Runs.exit <| kS_exit ?_
   obtain rfl := sj h
   exact ⟨nofun, rfl, (v_3_15, v_4_15, v_5_15, v_6_15, v_7_15), Cz⟩
 | false =>
  replace h := ite_f hb_1 h
  refine Rc 3 [vn, vn, vb false] <| Rk <| Cf <| Runs.exit <| kS_exit ?_
  obtain rfl := sj h
  exact ⟨nofun, rfl, (v_3_15, v_4_15, v_5_15, v_6_15, v_7_15), Cz⟩
theorem hansomref26_Near_l31_ok (m_ : Module) (m1 : Module) (x2 : Module) (i5 : Int) (v_3_15 : Nat) (v_4_15 : Nat) (v_5_15 : Nat) (v_6_15 : Nat) (v_7_15 : Nat) (r : (Lp (Module × Int) Module)) (h : hansomref26_Near_l31 m1 x2 i5 = some r) : Runs L F4l31 (hansomref26_Near_h31 m1 x2 i5 v_3_15 v_4_15 v_5_15 v_6_15 v_7_15) (LQ [] [1, 2, 5] [[1], [2], [3, 15], [4, 15], [5, 15], [6, 15], [7, 15]] (fun (x : (Module × Int)) (g : (Nat × Nat × Nat × Nat × Nat)) => hansomref26_Near_h31 m1 x.1 x.2 g.1 g.2.1 g.2.2.1 g.2.2.2.1 g.2.2.2.2) (hansomref26_Near_P31 m_ m1) r) := by
 unfold hansomref26_Near_l31 at h
 refine Sq <| Sq <| Ro <| Rc 3 [vi i5, vp [1] 0 6, ⟨.d (.sl (List.map Pub.d m1.Pubs)), []⟩] <| Rt (some 70) .lenL [] none [.d (.sl (List.map Pub.d m1.Pubs))] (.i (m1.Pubs.length : Int)) [] (cut_len _) <| Rc 2 [vb (decide (i5 < (m1.Pubs.length : Int))), vb (decide (i5 < (m1.Pubs.length : Int)))] ?_
 cases hb_1 : ((decide (i5 < (m1.Pubs.length : Int))) : Bool) with
 | true =>
  replace h := ite_t hb_1 h
  refine Rc 3 [vi i5, vb (decide (i5 < 3)), vb (decide (i5 < 3))] <| Rk ?_
  cases hb_2 : ((decide (i5 < 3)) : Bool) with
  | true =>
   replace h := ite_t hb_2 h
   refine Ct <| Runs.skip <| kS_nrm <| Sq <| Runs.block <| Sq <| Ro <| Rc 3 [vp [1] 0 6, ⟨.d (.sl (List.map Pub.d m1.Pubs)), []⟩, vi i5] ?_
   obtain ⟨z_1, hz_1, h⟩ := bind_s h
   refine Rt (some 81) (.iaddrS 5) [] none [.d (.sl (List.map Pub.d m1.Pubs)), .i i5] (.elt (Pub.d z_1) 0) [] (cut_at hz_1 (fun _ => rfl)) <| Rc 3 [⟨.d (Pub.d z_1), []⟩, ⟨.ptr [6] 0 0, [([6], some (.cells [.i 0, .i 0, .w 0, .d (.str []), .w 0] 0))]⟩, ⟨.tup [], [([6], some (.cells [.i z_1.Group, .i z_1.Seg, .w z_1.Frame, .d (.str z_1.Name), .w z_1.Off] 0))]⟩] <| Rk <| Sq <| Ro <| Rc 5 [vp [6] 0 0, vi z_1.Group, vi (bitsOp .and .i64 z_1.Group 255), vp [2] 0 4, ⟨.ref [4, 15] v_4_15 0 (List.map GrpDef.d x2.Groups).length 2, []⟩] <| Rt (some 88) .lenL [] none [.ref [4, 15] v_4_15 0 (List.map GrpDef.d x2.Groups).length 2] (.i (x2.Groups.length : Int)) [] (cut_lenR (e := GrpDef.d) x2.Groups rfl) <| Rc 1 [vi (IntKind.wrap .i64 ((x2.Groups.length : Int) + 1))] ?_
   obtain ⟨z_2, hz_2, h⟩ := bind_s h
   refine Rt (some 90) (.bin .rem) [] none [.i (bitsOp .and .i64 z_1.Group 255), .i (IntKind.wrap .i64 ((x2.Groups.length : Int) + 1))] (.i z_2) [] (cut_rem hz_2) <| Rc 5 [vp [6] 0 1, vi z_1.Seg, vi (bitsOp .and .i64 z_1.Seg 255), vp [2] 0 3, ⟨.ref [3, 15] v_3_15 0 (List.map SegDef.d x2.Segs).length 8, []⟩] <| Rt (some 96) .lenL [] none [.ref [3, 15] v_3_15 0 (List.map SegDef.d x2.Segs).length 8] (.i (x2.Segs.length : Int)) [] (cut_lenR (e := SegDef.d) x2.Segs rfl) <| Rc 1 [vi (IntKind.wrap .i64 ((x2.Segs.length : Int) + 1))] ?_
   obtain ⟨z_3, hz_3, h⟩ := bind_s h
   refine Rt (some 98) (.bin .rem) [] none [.i (bitsOp .and .i64 z_1.Seg 255), .i (IntKind.wrap .i64 ((x2.Segs.length : Int) + 1))] (.i z_3) [] (cut_rem hz_3) <| Rc 2 [vp [6] 0 3, ⟨.d (.str z_1.Name), []⟩] ?_
   obtain ⟨r_2, hr_2, h⟩ := bind_s h
   have hc_2 := hansomref26_cut_L z_1.Name r_2 hr_2
   refine Rt (some 101) (.callf 10) [[7]] (some []) [.d (.str z_1.Name)] (.d (.str r_2)) [] (cc hc_2) <| Rc 5 [vp [6] 0 4, vw z_1.Off, ⟨.d (.agg [.int .i64 z_2, .int .i64 z_3, .int .u16 0, .str r_2, .int .u16 z_1.Off]), []⟩, ⟨.ptr [7] 0 0, [([7], some (.cells [.i 0, .i 0, .w 0, .d (.str []), .w 0] 0))]⟩, ⟨.tup [], [([7], some (.cells [.i z_2, .i z_3, .w 0, .d (.str r_2), .w z_1.Off] 0))]⟩] <| Rk <| Sq <| Sq <| Ro <| Rc 3 [vp [7] 0 1, vi z_3, vb (z_3 == 0)] <| Rk ?_
   cases hb_3 : ((z_3 == 0) : Bool) with
   | true =>
    replace h := ite_t hb_3 h
    refine Ct <| Ro <| Rc 4 [vp [6] 0 2, vw z_1.Frame, vp [7] 0 2, ⟨.tup [], [([7], some (.cells [.i z_2, .i z_3, .w z_1.Frame, .d (.str r_2), .w z_1.Off] 0))]⟩] <| Rk <| Ro <| Rc 4 [vp [2] 0 6, ⟨.ref [6, 15] v_6_15 0 (List.map Pub.d x2.Pubs).length 5, []⟩, ⟨.d (.agg [.int .i64 z_2, .int .i64 z_3, .int .u16 z_1.Frame, .str r_2, .int .u16 z_1.Off]), []⟩, ⟨.ref [114] 0 0 (List.map Pub.d ([({ z_1 with Group := z_2, Seg := z_3, Name := r_2 } : Pub)] : List Pub)).length 5, [([114], some (.arr (List.map Pub.d ([({ z_1 with Group := z_2, Seg := z_3, Name := r_2 } : Pub)] : List Pub)) 0 false))]⟩] ?_
    obtain ⟨z_4, hz_4, h⟩ := bind_s h
    refine Rt (some 115) (.append 5 48 false) [] none [.ref [6, 15] v_6_15 0 (List.map Pub.d x2.Pubs).length 5, .ref [114] 0 0 (List.map Pub.d ([({ z_1 with Group := z_2, Seg := z_3, Name := r_2 } : Pub)] : List Pub)).length 5] (.ref [6, 15] (v_6_15 + 1) 0 (List.map Pub.d z_4).length 5) [([6, 15], some (.arr (List.map Pub.d z_4) (v_6_15 + 1) false))] (cut_appR (e := Pub.d) (l := x2.Pubs) (fz := false) (ws := []) (ap_ref (e := Pub.d) (l := ([({ z_1 with Group := z_2, Seg := z_3, Name := r_2 } : Pub)] : List Pub)) (fz := false) (by kernel_rfl) (by kernel_rfl) rfl) (fun _ => rfl) hz_4 (by kernel_rfl) (by kernel_rfl) rfl) <| Rc 2 [vp [2] 0 6, ⟨.tup [], [([2], some (.cells [.d (.str x2.Name), .d (.sl (List.map Comment.d x2.Notes)), .d (.sl (List.map D.str x2.Names)), .ref [3, 15] v_3_15 0 (List.map SegDef.d x2.Segs).length 8, .ref [4, 15] v_4_15 0 (List.map GrpDef.d x2.Groups).length 2, .ref [5, 15] v_5_15 0 (List.map Ext.d x2.Exts).length 3, .ref [6, 15] (v_6_15 + 1) 0 (List.map Pub.d z_4).length 5, .ref [7, 15] v_7_15 0 (List.map Data.d x2.Datas).length 4, .b x2.Main, .b x2.Is, .i x2.Start.At, .i x2.Start.Loc, .b x2.Start.Self, .i x2.Start.Frame, .i x2.Start.FrameN, .i x2.Start.Target, .i x2.Start.N, .w x2.Start.Disp] 0))]⟩] <| Rd <| kB_nrm <| kS_nrm <| Ro <| Rc 3 [vi i5, vi (IntKind.wrap .i64 (i5 + 1)), vi (IntKind.wrap .i64 (i5 + 1))] ?_
    refine Rd ?_
    obtain rfl := sj h
    exact ⟨rfl, (v_3_15, v_4_15, v_5_15, (v_6_15 + 1), v_7_15), Cz⟩
   | false =>
    replace h := ite_f hb_3 h
    refine Cf <| Runs.skip <| kS_nrm <| Ro <| Rc 4 [vp [2] 0 6, ⟨.ref [6, 15] v_6_15 0 (List.map Pub.d x2.Pubs).length 5, []⟩, ⟨.d (.agg [.int .i64 z_2, .int .i64 z_3, .int .u16 0, .str r_2, .int .u16 z_1.Off]), []⟩, ⟨.ref [114] 0 0 (List.map Pub.d ([({ Group := z_2, Seg := z_3, Frame := 0, Name := r_2, Off := z_1.Off } : Pub)] : List Pub)).length 5, [([114], some (.arr (List.map Pub.d ([({ Group := z_2, Seg := z_3, Frame := 0, Name := r_2, Off := z_1.Off } : Pub)] : List Pub)) 0 false))]⟩] ?_
    obtain ⟨z_5, hz_5, h⟩ := bind_s h
    refine Rt (some 115) (.append 5 48 false) [] none [.ref [6, 15] v_6_15 0 (List.map Pub.d x2.Pubs).length 5, .ref [114] 0 0 (List.map Pub.d ([({ Group := z_2, Seg := z_3, Frame := 0, Name := r_2, Off := z_1.Off } : Pub)] : List Pub)).length 5] (.ref [6, 15] (v_6_15 + 1) 0 (List.map Pub.d z_5).length 5) [([6, 15], some (.arr (List.map Pub.d z_5) (v_6_15 + 1) false))] (cut_appR (e := Pub.d) (l := x2.Pubs) (fz := false) (ws := []) (ap_ref (e := Pub.d) (l := ([({ Group := z_2, Seg := z_3, Frame := 0, Name := r_2, Off := z_1.Off } : Pub)] : List Pub)) (fz := false) (by kernel_rfl) (by kernel_rfl) rfl) (fun _ => rfl) hz_5 (by kernel_rfl) (by kernel_rfl) rfl) <| Rc 2 [vp [2] 0 6, ⟨.tup [], [([2], some (.cells [.d (.str x2.Name), .d (.sl (List.map Comment.d x2.Notes)), .d (.sl (List.map D.str x2.Names)), .ref [3, 15] v_3_15 0 (List.map SegDef.d x2.Segs).length 8, .ref [4, 15] v_4_15 0 (List.map GrpDef.d x2.Groups).length 2, .ref [5, 15] v_5_15 0 (List.map Ext.d x2.Exts).length 3, .ref [6, 15] (v_6_15 + 1) 0 (List.map Pub.d z_5).length 5, .ref [7, 15] v_7_15 0 (List.map Data.d x2.Datas).length 4, .b x2.Main, .b x2.Is, .i x2.Start.At, .i x2.Start.Loc, .b x2.Start.Self, .i x2.Start.Frame, .i x2.Start.FrameN, .i x2.Start.Target, .i x2.Start.N, .w x2.Start.Disp] 0))]⟩] <| Rd <| kB_nrm <| kS_nrm <| Ro <| Rc 3 [vi i5, vi (IntKind.wrap .i64 (i5 + 1)), vi (IntKind.wrap .i64 (i5 + 1))] ?_
    refine Rd ?_
    obtain rfl := sj h
    exact ⟨rfl, (v_3_15, v_4_15, v_5_15, (v_6_15 + 1), v_7_15), Cz⟩
  | false =>
   replace h := ite_f hb_2 h
   refine Cf <| Runs.exit <| kS_exit ?_
   obtain rfl := sj h
   exact ⟨nofun, rfl, (v_3_15, v_4_15, v_5_15, v_6_15, v_7_15), Cz⟩
 | false =>
  replace h := ite_f hb_1 h
  refine Rc 3 [vn, vn, vb false] <| Rk <| Cf <| Runs.exit <| kS_exit ?_
  obtain rfl := sj h
  exact ⟨nofun, rfl, (v_3_15, v_4_15, v_5_15, v_6_15, v_7_15), Cz⟩
theorem hansomref26_Near_l81_ok (m_ : Module) (m1 : Module) (x2 : Module) (many8 : (A3 Int)) (d10 : Data) (y11 : Data) (i9 : Int) (k13 : Int) (v_170 : Nat) (v_3_15 : Nat) (v_4_15 : Nat) (v_5_15 : Nat) (v_6_15 : Nat) (v_7_15 : Nat) (v_903_11 : Nat) (r : (Lp (Data × Int) Data)) (h : hansomref26_Near_l81 m1 x2 many8 d10 y11 i9 k13 = some r) : Runs L F4l81 (hansomref26_Near_h81 m1 x2 many8 d10 y11 i9 k13 v_170 v_3_15 v_4_15 v_5_15 v_6_15 v_7_15 v_903_11) (LQ [] [1, 2, 8, 9, 10, 11, 13] [[1], [2], [8], [10], [11], [170], [3, 15], [4, 15], [5, 15], [6, 15], [7, 15], [903, 11]] (fun (x : (Data × Int)) (g : (Nat × Nat × Nat × Nat × Nat × Nat × Nat)) => hansomref26_Near_h81 m1 x2 many8 d10 x.1 i9 x.2 g.1 g.2.1 g.2.2.1 g.2.2.2.1 g.2.2.2.2.1 g.2.2.2.2.2.1 g.2.2.2.2.2.2) (hansomref26_Near_P81 m_ m1 x2 many8 d10 i9) r) := by
 unfold hansomref26_Near_l81 at h
 refine Sq <| Sq <| Ro <| Rc 3 [vi k13, vp [10] 0 3, ⟨.d (.sl (List.map Fixup.d d10.Fixups)), []⟩] <| Rt (some 189) .lenL [] none [.d (.sl (List.map Fixup.d d10.Fixups))] (.i (d10.Fixups.length : Int)) [] (cut_len _) <| Rc 2 [vb (decide (k13 < (d10.Fixups.length : Int))), vb (decide (k13 < (d10.Fixups.length : Int)))] ?_
 cases hb_3 : ((decide (k13 < (d10.Fixups.length : Int))) : Bool) with
 | true =>
  replace h := ite_t hb_3 h
  refine Rc 3 [vi k13, vb (decide (k13 < 3)), vb (decide (k13 < 3))] <| Rk ?_
  cases hb_4 : ((decide (k13 < 3)) : Bool) with
  | true =>
   replace h := ite_t hb_4 h
   refine Ct <| Runs.skip <| kS_nrm <| Sq <| Runs.block <| Ro <| Rc 5 [vp [11] 0 3, ⟨.ref [903, 11] v_903_11 0 (List.map Fixup.d y11.Fixups).length 8, []⟩, vp [10] 0 3, ⟨.d (.sl (List.map Fixup.d d10.Fixups)), []⟩, vi k13] ?_
   obtain ⟨z_7, hz_7, h⟩ := bind_s h
   refine Rt (some 202) (.iaddrS 8) [] none [.d (.sl (List.map Fixup.d d10.Fixups)), .i k13] (.elt (Fixup.d z_7) 0) [] (cut_at hz_7 (fun _ => rfl)) <| Rc 3 [⟨.d (Fixup.d z_7), []⟩, vp [11] 0 2, ⟨.ref [170] v_170 0 (mY y11.Bytes).length 1, []⟩] <| Rt (some 206) .lenL [] none [.ref [170] v_170 0 (mY y11.Bytes).length 1] (.i (y11.Bytes.length : Int)) [] (cut_lenR (e := (D.int .u8)) y11.Bytes rfl) <| Rc 1 [⟨.d (.agg [.int .i64 many8.a0, .int .i64 many8.a1, .int .i64 many8.a2]), []⟩] ?_
   obtain ⟨r_2, hr_2, h⟩ := bind_s h
   have hc_2 := hansomref25_Near_L z_7 (y11.Bytes.length : Int) many8 r_2 hr_2
   refine Rt (some 208) (.callf 11) [] (some []) [.d (Fixup.d z_7), .i (y11.Bytes.length : Int), .d (.agg [.int .i64 many8.a0, .int .i64 many8.a1, .int .i64 many8.a2])] (.d (Fixup.d r_2)) [] (cc hc_2) <| Rc 1 [⟨.ref [209] 0 0 (List.map Fixup.d ([r_2] : List Fixup)).length 8, [([209], some (.arr (List.map Fixup.d ([r_2] : List Fixup)) 0 false))]⟩] ?_
   obtain ⟨z_8, hz_8, h⟩ := bind_s h
   refine Rt (some 210) (.append 8 64 false) [] none [.ref [903, 11] v_903_11 0 (List.map Fixup.d y11.Fixups).length 8, .ref [209] 0 0 (List.map Fixup.d ([r_2] : List Fixup)).length 8] (.ref [903, 11] (v_903_11 + 1) 0 (List.map Fixup.d z_8).length 8) [([903, 11], some (.arr (List.map Fixup.d z_8) (v_903_11 + 1) false))] (cut_appR (e := Fixup.d) (l := y11.Fixups) (fz := false) (ws := []) (ap_ref (e := Fixup.d) (l := ([r_2] : List Fixup)) (fz := false) (by kernel_rfl) (by kernel_rfl) rfl) (fun _ => rfl) hz_8 (by kernel_rfl) (by kernel_rfl) rfl) <| Rc 2 [vp [11] 0 3, ⟨.tup [], [([11], some (.cells [.i y11.Seg, .w y11.Off, .ref [170] v_170 0 (mY y11.Bytes).length 1, .ref [903, 11] (v_903_11 + 1) 0 (List.map Fixup.d z_8).length 8] 0))]⟩] <| Rd <| kB_nrm <| kS_nrm <| Ro <| Rc 3 [vi k13, vi (IntKind.wrap .i64 (k13 + 1)), vi (IntKind.wrap .i64 (k13 + 1))] <| Rd ?_
   obtain rfl := sj h
   exact ⟨rfl, (v_170, v_3_15, v_4_15, v_5_15, v_6_15, v_7_15, (v_903_11 + 1)), Cz⟩
  | false =>
   replace h := ite_f hb_4 h
   refine Cf <| Runs.exit <| kS_exit ?_
   obtain rfl := sj h
   exact ⟨nofun, rfl, (v_170, v_3_15, v_4_15, v_5_15, v_6_15, v_7_15, v_903_11), Cz⟩
 | false =>
  replace h := ite_f hb_3 h
  refine Rc 3 [vn, vn, vb false] <| Rk <| Cf <| Runs.exit <| kS_exit ?_
  obtain rfl := sj h
  exact ⟨nofun, rfl, (v_170, v_3_15, v_4_15, v_5_15, v_6_15, v_7_15, v_903_11), Cz⟩
theorem hansomref26_Near_l58_ok (m_ : Module) (m1 : Module) (x2 : Module) (many8 : (A3 Int)) (i9 : Int) (v_3_15 : Nat) (v_4_15 : Nat) (v_5_15 : Nat) (v_6_15 : Nat) (v_7_15 : Nat) (r : (Lp (Module × Int) Module)) (h : hansomref26_Near_l58 m1 x2 many8 i9 = some r) : Runs L F4l58 (hansomref26_Near_h58 m1 x2 many8 i9 v_3_15 v_4_15 v_5_15 v_6_15 v_7_15) (LQ [] [1, 2, 8, 9] [[1], [2], [8], [3, 15], [4, 15], [5, 15], [6, 15], [7, 15]] (fun (x : (Module × Int)) (g : (Nat × Nat × Nat × Nat × Nat)) => hansomref26_Near_h58 m1 x.1 many8 x.2 g.1 g.2.1 g.2.2.1 g.2.2.2.1 g.2.2.2.2) (hansomref26_Near_P58 m_ m1 many8) r) := by
 unfold hansomref26_Near_l58 at h
 refine Sq <| Sq <| Ro <| Rc 3 [vi i9, vp [1] 0 7, ⟨.d (.sl (List.map Data.d m1.Datas)), []⟩] <| Rt (some 130) .lenL [] none [.d (.sl (List.map Data.d m1.Datas))] (.i (m1.Datas.length : Int)) [] (cut_len _) <| Rc 2 [vb (decide (i9 < (m1.Datas.length : Int))), vb (decide (i9 < (m1.Datas.length : Int)))] ?_
 cases hb_1 : ((decide (i9 < (m1.Datas.length : Int))) : Bool) with
 | true =>
  replace h := ite_t hb_1 h
  refine Rc 3 [vi i9, vb (decide (i9 < 4)), vb (decide (i9 < 4))] <| Rk ?_
  cases hb_2 : ((decide (i9 < 4)) : Bool) with
  | true =>
   replace h := ite_t hb_2 h
   refine Ct <| Runs.skip <| kS_nrm <| Sq <| Runs.block <| Sq <| Ro <| Rc 3 [vp [1] 0 7, ⟨.d (.sl (List.map Data.d m1.Datas)), []⟩, vi i9] ?_
   obtain ⟨z_1, hz_1, h⟩ := bind_s h
   refine Rt (some 141) (.iaddrS 4) [] none [.d (.sl (List.map Data.d m1.Datas)), .i i9] (.elt (Data.d z_1) 0) [] (cut_at hz_1 (fun _ => rfl)) <| Rc 3 [⟨.d (Data.d z_1), []⟩, ⟨.ptr [10] 0 0, [([10], some (.cells [.i 0, .w 0, .nils, .nils] 0))]⟩, ⟨.tup [], [([10], some (.cells [.i z_1.Seg, .w z_1.Off, .d (.sl (mY z_1.Bytes)), .d (.sl (List.map Fixup.d z_1.Fixups))] 0))]⟩] <| Rk <| Sq <| Ro <| Rc 5 [vp [10] 0 0, vi z_1.Seg, vi (bitsOp .and .i64 z_1.Seg 255), vp [2] 0 3, ⟨.ref [3, 15] v_3_15 0 (List.map SegDef.d x2.Segs).length 8, []⟩] <| Rt (some 148) .lenL [] none [.ref [3, 15] v_3_15 0 (List.map SegDef.d x2.Segs).length 8] (.i (x2.Segs.length : Int)) [] (cut_lenR (e := SegDef.d) x2.Segs rfl) ?_
   obtain ⟨z_2, hz_2, h⟩ := bind_s h
   refine Rt (some 149) (.bin .rem) [] none [.i (bitsOp .and .i64 z_1.Seg 255), .i (x2.Segs.length : Int)] (.i z_2) [] (cut_rem hz_2) <| Rc 4 [vi (IntKind.wrap .i64 (z_2 + 1)), ⟨.mix [.i (IntKind.wrap .i64 (z_2 + 1)), .w 0, .nils, .nils], []⟩, ⟨.ptr [11] 0 0, [([11], some (.cells [.i 0, .w 0, .nils, .nils] 0))]⟩, ⟨.tup [], [([11], some (.cells [.i (IntKind.wrap .i64 (z_2 + 1)), .w 0, .nils, .nils] 0))]⟩] <| Rk <| Runs.canon (hansomref26_Near_h71 m1 x2 many8 z_1 ([] : List Fixup) (IntKind.wrap .i64 (z_2 + 1)) 0 i9 v_3_15 v_4_15 v_5_15 v_6_15 v_7_15 0) (Canon.cons (ownB_nil (ver := 0) (v := 0) (cs := [.i (IntKind.wrap .i64 (z_2 + 1)), .w 0, .nils, .nils]) (cs' := [.i (IntKind.wrap .i64 (z_2 + 1)), .w 0, .nils, .ref [903, 11] 0 0 (List.map Fixup.d ([] : List Fixup)).length 8]) Fixup.d (by kernel_rfl) (by kernel_rfl) (by kernel_rfl) (by decide) (by kernel_rfl)) Cz) <| Sq <| Ro <| Rc 5 [vp [2] 0 3, ⟨.ref [3, 15] v_3_15 0 (List.map SegDef.d x2.Segs).length 8, []⟩, vp [11] 0 0, vi (IntKind.wrap .i64 (z_2 + 1)), vi (IntKind.wrap .i64 ((IntKind.wrap .i64 (z_2 + 1)) - 1))] ?_
   obtain ⟨z_3, hz_3, h⟩ := bind_s h
   refine Rt (some 157) (.iaddrS 8) [] none [.ref [3, 15] v_3_15 0 (List.map SegDef.d x2.Segs).length 8, .i (IntKind.wrap .i64 ((IntKind.wrap .i64 (z_2 + 1)) - 1))] (.eref [3, 15] v_3_15 (0 + ((IntKind.wrap .i64 ((IntKind.wrap .i64 (z_2 + 1)) - 1))).toNat) 0) [] (cut_atR (e := SegDef.d) (l := x2.Segs) hz_3 rfl) <| Rc 1 [⟨.eref [3, 15] v_3_15 (0 + ((IntKind.wrap .i64 ((IntKind.wrap .i64 (z_2 + 1)) - 1))).toNat) 4, []⟩] <| Rt (some 159) (.load none) [] none [.eref [3, 15] v_3_15 (0 + ((IntKind.wrap .i64 ((IntKind.wrap .i64 (z_2 + 1)) - 1))).toNat) 4] (.i z_3.Len) [] (cut_loadR (e := SegDef.d) (l := x2.Segs) (fz := false) (y := z_3) (by kernel_rfl) hz_3 (by kernel_rfl) (by kernel_rfl)) <| Rc 1 [vi z_3.Len] <| Rk <| Sq <| Ro <| Rc 5 [vp [10] 0 1, vw z_1.Off, vi z_3.Len, vi (IntKind.wrap .i64 (z_3.Len - 4)), vw (IntKind.wrap .u16 (IntKind.wrap .i64 (z_3.Len - 4)))] ?_
   obtain ⟨z_4, hz_4, h⟩ := bind_s h
   refine Rt (some 165) (.bin .rem) [] none [.w z_1.Off, .w (IntKind.wrap .u16 (IntKind.wrap .i64 (z_3.Len - 4)))] (.w z_4) [] (cut_rem hz_4) <| Rc 2 [vp [11] 0 1, ⟨.tup [], [([11], some (.cells [.i (IntKind.wrap .i64 (z_2 + 1)), .w z_4, .nils, .ref [903, 11] 0 0 (List.map Fixup.d ([] : List Fixup)).length 8] 0))]⟩] <| Rk <| Sq <| Ro <| Rc 8 [vp [10] 0 1, vw z_1.Off, vy (IntKind.wrap .u8 z_1.Off), ⟨.ref [170] 0 0 (mY ([(IntKind.wrap .u8 z_1.Off), 1, 2, 3] : List Int)).length 1, [([170], some (.arr (mY ([(IntKind.wrap .u8 z_1.Off), 1, 2, 3] : List Int)) 0 false))]⟩, vp [10] 0 2, ⟨.d (.sl (mY z_1.Bytes)), []⟩, vp [10] 0 2, ⟨.d (.sl (mY z_1.Bytes)), []⟩] <| Rt (some 175) .lenL [] none [.d (.sl (mY z_1.Bytes))] (.i (z_1.Bytes.length : Int)) [] (cut_len _) <| Rc 7 [vi z_3.Len, vi (IntKind.wrap .i64 (z_3.Len - 4)), vp [11] 0 1, vw z_4, vi (IntKind.wrap .i64 z_4), vi (IntKind.wrap .i64 ((IntKind.wrap .i64 (z_3.Len - 4)) - (IntKind.wrap .i64 z_4))), vi (mnI (z_1.Bytes.length : Int) (IntKind.wrap .i64 ((IntKind.wrap .i64 (z_3.Len - 4)) - (IntKind.wrap .i64 z_4))))] ?_
   obtain ⟨z_5, hz_5, h⟩ := bind_s h
   refine Rt (some 183) (.subsl 1 false true false) [] none [.d (.sl (mY z_1.Bytes)), .i (mnI (z_1.Bytes.length : Int) (IntKind.wrap .i64 ((IntKind.wrap .i64 (z_3.Len - 4)) - (IntKind.wrap .i64 z_4))))] (.d (.sl (mY z_5))) [] (cut_slFT hz_5 (fun _ => rfl)) ?_
   obtain ⟨z_6, hz_6, h⟩ := bind_s h
   refine Rt (some 184) (.append 1 1 false) [] none [.ref [170] 0 0 (mY ([(IntKind.wrap .u8 z_1.Off), 1, 2, 3] : List Int)).length 1, .d (.sl (mY z_5))] (.ref [170] 1 0 (mY z_6).length 1) [([170], some (.arr (mY z_6) 1 false))] (cut_appR (e := (D.int .u8)) (l := ([(IntKind.wrap .u8 z_1.Off), 1, 2, 3] : List Int)) (fz := false) (ws := []) (ap_data _) (fun _ => rfl) hz_6 (by kernel_rfl) (by kernel_rfl) rfl) <| Rc 2 [vp [11] 0 2, ⟨.tup [], [([11], some (.cells [.i (IntKind.wrap .i64 (z_2 + 1)), .w z_4, .ref [170] 1 0 (mY z_6).length 1, .ref [903, 11] 0 0 (List.map Fixup.d ([] : List Fixup)).length 8] 0))]⟩] <| Rk <| Sq <| Sq <| Ro <| Rc 1 [vi 0] <| Rk <| Runs.block ?_
   obtain ⟨e_3, he_3, h⟩ := bind_s h
   refine Runs.loop (fun x : (Data × Int) => hansomref26_Near_l81 m1 x2 many8 z_1 x.1 i9 x.2) (fun (x : (Data × Int)) (g : (Nat × Nat × Nat × Nat × Nat × Nat × Nat)) => hansomref26_Near_h81 m1 x2 many8 z_1 x.1 i9 x.2 g.1 g.2.1 g.2.2.1 g.2.2.2.1 g.2.2.2.2.1 g.2.2.2.2.2.1 g.2.2.2.2.2.2) (hansomref26_Near_P81 m_ m1 x2 many8 z_1 i9) (fun x g r hr => hansomref26_Near_l81_ok m_ m1 x2 many8 z_1 x.1 i9 x.2 g.1 g.2.1 g.2.2.1 g.2.2.2.1 g.2.2.2.2.1 g.2.2.2.2.2.1 g.2.2.2.2.2.2 r hr) (1, v_3_15, v_4_15, v_5_15, v_6_15, v_7_15, 0) he_3 Cz ?_
   rintro ⟨o, s⟩ hp
   obtain ⟨ho, g_3, hk_3⟩ := hp
   have ho' : o = .exit 6 := ho
   subst ho'
   refine kB_hit <| kS_nrm <| Runs.canon _ hk_3 <| Ro <| Rc 3 [vp [2] 0 7, ⟨.ref [7, 15] g_3.2.2.2.2.2.1 0 (List.map Data.d x2.Datas).length 4, []⟩, ⟨.mix [.i e_3.Seg, .w e_3.Off, .ref [170] g_3.1 0 (mY e_3.Bytes).length 1, .ref [903, 11] g_3.2.2.2.2.2.2 0 (List.map Fixup.d e_3.Fixups).length 8], []⟩] <| Rt (some 215) (.bslice (.agg [.int .i64 0, .int .u16 0, .sl [], .sl []]) 1 [0]) [] none [.mix [.i e_3.Seg, .w e_3.Off, .ref [170] g_3.1 0 (mY e_3.Bytes).length 1, .ref [903, 11] g_3.2.2.2.2.2.2 0 (List.map Fixup.d e_3.Fixups).length 8]] (.ref [215] 0 0 (List.map Data.d ([e_3] : List Data)).length 4) [([170], some (.arr (mY e_3.Bytes) g_3.1 true)), ([903, 11], some (.arr (List.map Fixup.d e_3.Fixups) g_3.2.2.2.2.2.2 true)), ([215], some (.arr (List.map Data.d ([e_3] : List Data)) 0 false))] (cut_bslice (e := Data.d) (l := ([e_3] : List Data)) (ws := [([170], some (.arr (mY e_3.Bytes) g_3.1 true)), ([903, 11], some (.arr (List.map Fixup.d e_3.Fixups) g_3.2.2.2.2.2.2 true))]) (ds := [.agg [.int .i64 e_3.Seg, .int .u16 e_3.Off, .sl (mY e_3.Bytes), .sl (List.map Fixup.d e_3.Fixups)]]) (snapsM_cons (ws := [([170], some (.arr (mY e_3.Bytes) g_3.1 true)), ([903, 11], some (.arr (List.map Fixup.d e_3.Fixups) g_3.2.2.2.2.2.2 true))]) (snap_mix (snaps_d (snaps_d (snaps_r (e := (D.int .u8)) (l := e_3.Bytes) (fz := false) (by kernel_rfl) (by kernel_rfl) (hl := rfl) (snaps_r (e := Fixup.d) (l := e_3.Fixups) (fz := false) (by kernel_rfl) (by kernel_rfl) (hl := rfl) snaps_nil))))) snapsM_nil) (by kernel_rfl) (by kernel_rfl) (by kernel_rfl) (by kernel_rfl)) ?_
   obtain ⟨z_7, hz_7, h⟩ := bind_s h
   refine Rt (some 216) (.append 4 64 false) [] none [.ref [7, 15] g_3.2.2.2.2.2.1 0 (List.map Data.d x2.Datas).length 4, .ref [215] 0 0 (List.map Data.d ([e_3] : List Data)).length 4] (.ref [7, 15] (g_3.2.2.2.2.2.1 + 1) 0 (List.map Data.d z_7).length 4) [([7, 15], some (.arr (List.map Data.d z_7) (g_3.2.2.2.2.2.1 + 1) false))] (cut_appR (e := Data.d) (l := x2.Datas) (fz := false) (ws := []) (ap_ref (e := Data.d) (l := ([e_3] : List Data)) (fz := false) (by kernel_rfl) (by kernel_rfl) rfl) (fun _ => rfl) hz_7 (by kernel_rfl) (by kernel_rfl) rfl) <| Rc 2 [vp [2] 0 7, ⟨.tup [], [([2], some (.cells [.d (.str x2.Name), .d (.sl (List.map Comment.d x2.Notes)), .d (.sl (List.map D.str x2.Names)), .ref [3, 15] g_3.2.1 0 (List.map SegDef.d x2.Segs).length 8, .ref [4, 15] g_3.2.2.1 0 (List.map GrpDef.d x2.Groups).length 2, .ref [5, 15] g_3.2.2.2.1 0 (List.map Ext.d x2.Exts).length 3, .ref [6, 15] g_3.2.2.2.2.1 0 (List.map Pub.d x2.Pubs).length 5, .ref [7, 15] (g_3.2.2.2.2.2.1 + 1) 0 (List.map Data.d z_7).length 4, .b x2.Main, .b x2.Is, .i x2.Start.At, .i x2.Start.Loc, .b x2.Start.Self, .i x2.Start.Frame, .i x2.Start.FrameN, .i x2.Start.Target, .i x2.Start.N, .w x2.Start.Disp] 0))]⟩] <| Rd <| kB_nrm <| kS_nrm <| Ro <| Rc 3 [vi i9, vi (IntKind.wrap .i64 (i9 + 1)), vi (IntKind.wrap .i64 (i9 + 1))] <| Rd ?_
   obtain rfl := sj h
   exact ⟨rfl, (g_3.2.1, g_3.2.2.1, g_3.2.2.2.1, g_3.2.2.2.2.1, (g_3.2.2.2.2.2.1 + 1)), Cz⟩
  | false =>
   replace h := ite_f hb_2 h
   refine Cf <| Runs.exit <| kS_exit ?_
   obtain rfl := sj h
   exact ⟨nofun, rfl, (v_3_15, v_4_15, v_5_15, v_6_15, v_7_15), Cz⟩
 | false =>
  replace h := ite_f hb_1 h
  refine Rc 3 [vn, vn, vb false] <| Rk <| Cf <| Runs.exit <| kS_exit ?_
  obtain rfl := sj h
  exact ⟨nofun, rfl, (v_3_15, v_4_15, v_5_15, v_6_15, v_7_15), Cz⟩
theorem hansomref26_Near_ok (m_ : Module) (r : Module) (h : hansomref26_Near m_ = some r) : Runs L F4.body ⟨tmOf [.d (Module.d m_)] 0, updW (fun _ => none) []⟩ (hansomref26_Near_Q m_ r) := by
 unfold hansomref26_Near at h
 refine Sq <| Ro <| Rc 2 [⟨.ptr [1] 0 0, [([1], some (.cells [.d (.str m_.Name), .d (.sl (List.map Comment.d m_.Notes)), .d (.sl (List.map D.str m_.Names)), .d (.sl (List.map SegDef.d m_.Segs)), .d (.sl (List.map GrpDef.d m_.Groups)), .d (.sl (List.map Ext.d m_.Exts)), .d (.sl (List.map Pub.d m_.Pubs)), .d (.sl (List.map Data.d m_.Datas)), .b m_.Main, .b m_.Is, .i m_.Start.At, .i m_.Start.Loc, .b m_.Start.Self, .i m_.Start.Frame, .i m_.Start.FrameN, .i m_.Start.Target, .i m_.Start.N, .w m_.Start.Disp] 0))]⟩, ⟨.ptr [2] 0 0, [([2], some (.cells [.d (.str []), .nils, .nils, .nils, .nils, .nils, .nils, .nils, .b false, .b false, .i 0, .i 0, .b false, .i 0, .i 0, .i 0, .i 0, .w 0] 0))]⟩] <| Rk <| Runs.canon (hansomref26_Near_h2 m_ ([] : List SegDef) ([] : List GrpDef) ([] : List Ext) ([] : List Pub) ([] : List Data) [] false false 0 0 false 0 0 0 0 0 0 0 0 0 0) (Canon.cons (ownB_nil (ver := 0) (v := 0) (cs := [.d (.str []), .nils, .nils, .nils, .nils, .nils, .nils, .nils, .b false, .b false, .i 0, .i 0, .b false, .i 0, .i 0, .i 0, .i 0, .w 0]) (cs' := [.d (.str []), .nils, .nils, .ref [903, 2] 0 0 (List.map SegDef.d ([] : List SegDef)).length 8, .nils, .nils, .nils, .nils, .b false, .b false, .i 0, .i 0, .b false, .i 0, .i 0, .i 0, .i 0, .w 0]) SegDef.d (by kernel_rfl) (by kernel_rfl) (by kernel_rfl) (by decide) (by kernel_rfl)) (Canon.cons (ownB_nil (ver := 0) (v := 0) (cs := [.d (.str []), .nils, .nils, .ref [903, 2] 0 0 (List.map SegDef.d ([] : List SegDef)).length 8, .nils, .nils, .nils, .nils, .b false, .b false, .i 0, .i 0, .b false, .i 0, .i 0, .i 0, .i 0, .w 0]) (cs' := [.d (.str []), .nils, .nils, .ref [903, 2] 0 0 (List.map SegDef.d ([] : List SegDef)).length 8, .ref [904, 2] 0 0 (List.map GrpDef.d ([] : List GrpDef)).length 2, .nils, .nils, .nils, .b false, .b false, .i 0, .i 0, .b false, .i 0, .i 0, .i 0, .i 0, .w 0]) GrpDef.d (by kernel_rfl) (by kernel_rfl) (by kernel_rfl) (by decide) (by kernel_rfl)) (Canon.cons (ownB_nil (ver := 0) (v := 0) (cs := [.d (.str []), .nils, .nils, .ref [903, 2] 0 0 (List.map SegDef.d ([] : List SegDef)).length 8, .ref [904, 2] 0 0 (List.map GrpDef.d ([] : List GrpDef)).length 2, .nils, .nils, .nils, .b false, .b false, .i 0, .i 0, .b false, .i 0, .i 0, .i 0, .i 0, .w 0]) (cs' := [.d (.str []), .nils, .nils, .ref [903, 2] 0 0 (List.map SegDef.d ([] : List SegDef)).length 8, .ref [904, 2] 0 0 (List.map GrpDef.d ([] : List GrpDef)).length 2, .ref [905, 2] 0 0 (List.map Ext.d ([] : List Ext)).length 3, .nils, .nils, .b false, .b false, .i 0, .i 0, .b false, .i 0, .i 0, .i 0, .i 0, .w 0]) Ext.d (by kernel_rfl) (by kernel_rfl) (by kernel_rfl) (by decide) (by kernel_rfl)) (Canon.cons (ownB_nil (ver := 0) (v := 0) (cs := [.d (.str []), .nils, .nils, .ref [903, 2] 0 0 (List.map SegDef.d ([] : List SegDef)).length 8, .ref [904, 2] 0 0 (List.map GrpDef.d ([] : List GrpDef)).length 2, .ref [905, 2] 0 0 (List.map Ext.d ([] : List Ext)).length 3, .nils, .nils, .b false, .b false, .i 0, .i 0, .b false, .i 0, .i 0, .i 0, .i 0, .w 0]) (cs' := [.d (.str []), .nils, .nils, .ref [903, 2] 0 0 (List.map SegDef.d ([] : List SegDef)).length 8, .ref [904, 2] 0 0 (List.map GrpDef.d ([] : List GrpDef)).length 2, .ref [905, 2] 0 0 (List.map Ext.d ([] : List Ext)).length 3, .ref [906, 2] 0 0 (List.map Pub.d ([] : List Pub)).length 5, .nils, .b false, .b false, .i 0, .i 0, .b false, .i 0, .i 0, .i 0, .i 0, .w 0]) Pub.d (by kernel_rfl) (by kernel_rfl) (by kernel_rfl) (by decide) (by kernel_rfl)) (Canon.cons (ownB_nil (ver := 0) (v := 0) (cs := [.d (.str []), .nils, .nils, .ref [903, 2] 0 0 (List.map SegDef.d ([] : List SegDef)).length 8, .ref [904, 2] 0 0 (List.map GrpDef.d ([] : List GrpDef)).length 2, .ref [905, 2] 0 0 (List.map Ext.d ([] : List Ext)).length 3, .ref [906, 2] 0 0 (List.map Pub.d ([] : List Pub)).length 5, .nils, .b false, .b false, .i 0, .i 0, .b false, .i 0, .i 0, .i 0, .i 0, .w 0]) (cs' := [.d (.str []), .nils, .nils, .ref [903, 2] 0 0 (List.map SegDef.d ([] : List SegDef)).length 8, .ref [904, 2] 0 0 (List.map GrpDef.d ([] : List GrpDef)).length 2, .ref [905, 2] 0 0 (List.map Ext.d ([] : List Ext)).length 3, .ref [906, 2] 0 0 (List.map Pub.d ([] : List Pub)).length 5, .ref [907, 2] 0 0 (List.map Data.d ([] : List Data)).length 4, .b false, .b false, .i 0, .i 0, .b false, .i 0, .i 0, .i 0, .i 0, .w 0]) Data.d (by kernel_rfl) (by kernel_rfl) (by kernel_rfl) (by decide) (by kernel_rfl)) Cz))))) ?_
 refine Sq <| Ro <| Rc 1 [⟨.d (Module.d m_), []⟩] ?_
 obtain ⟨r_1, hr_1, h⟩ := bind_s h
 have hc_1 := hansomref26_base_L m_ r_1 hr_1
 refine Rt (some 15) (.callf 9) [] none [.d (Module.d m_)] (.mix [.d (.str r_1.Name), .d (.sl (List.map Comment.d r_1.Notes)), .d (.sl (List.map D.str r_1.Names)), .ref [3, 15] 0 0 (List.map SegDef.d r_1.Segs).length 8, .ref [4, 15] 0 0 (List.map GrpDef.d r_1.Groups).length 2, .ref [5, 15] 0 0 (List.map Ext.d r_1.Exts).length 3, .ref [6, 15] 0 0 (List.map Pub.d r_1.Pubs).length 5, .ref [7, 15] 0 0 (List.map Data.d r_1.Datas).length 4, .b r_1.Main, .b r_1.Is, .i r_1.Start.At, .i r_1.Start.Loc, .b r_1.Start.Self, .i r_1.Start.Frame, .i r_1.Start.FrameN, .i r_1.Start.Target, .i r_1.Start.N, .w r_1.Start.Disp]) [([3, 15], some (.arr (List.map SegDef.d r_1.Segs) 0 false)), ([4, 15], some (.arr (List.map GrpDef.d r_1.Groups) 0 false)), ([5, 15], some (.arr (List.map Ext.d r_1.Exts) 0 false)), ([6, 15], some (.arr (List.map Pub.d r_1.Pubs) 0 false)), ([7, 15], some (.arr (List.map Data.d r_1.Datas) 0 false))] (cut_call (call_of (ws := []) (us := []) (by kernel_rfl) (gives_cons (ws := []) (give_same (by kernel_rfl)) gives_nil) hc_1 (by kernel_rfl) (by kernel_rfl))) <| Rc 1 [⟨.tup [], [([2], some (.cells [.d (.str r_1.Name), .d (.sl (List.map Comment.d r_1.Notes)), .d (.sl (List.map D.str r_1.Names)), .ref [3, 15] 0 0 (List.map SegDef.d r_1.Segs).length 8, .ref [4, 15] 0 0 (List.map GrpDef.d r_1.Groups).length 2, .ref [5, 15] 0 0 (List.map Ext.d r_1.Exts).length 3, .ref [6, 15] 0 0 (List.map Pub.d r_1.Pubs).length 5, .ref [7, 15] 0 0 (List.map Data.d r_1.Datas).length 4, .b r_1.Main, .b r_1.Is, .i r_1.Start.At, .i r_1.Start.Loc, .b r_1.Start.Self, .i r_1.Start.Frame, .i r_1.Start.FrameN, .i r_1.Start.Target, .i r_1.Start.N, .w r_1.Start.Disp] 0))]⟩] ?_
 refine Rk <| Sq <| Sq <| Ro <| Rc 1 [vi 0] <| Rk <| Runs.block ?_
 obtain ⟨e_1, he_1, h⟩ := bind_s h
 refine Runs.loop (fun x : (Module × Int) => hansomref26_Near_l8 m_ x.1 x.2) (fun (x : (Module × Int)) (g : (Nat × Nat × Nat × Nat × Nat)) => hansomref26_Near_h8 m_ x.1 x.2 g.1 g.2.1 g.2.2.1 g.2.2.2.1 g.2.2.2.2) (hansomref26_Near_P8 m_ m_) (fun x g r hr => hansomref26_Near_l8_ok m_ m_ x.1 x.2 g.1 g.2.1 g.2.2.1 g.2.2.2.1 g.2.2.2.2 r hr) (0, 0, 0, 0, 0) he_1 Cz ?_
 rintro ⟨o, s⟩ hp
 obtain ⟨ho, g_1, hk_1⟩ := hp
 have ho' : o = .exit 0 := ho
 subst ho'
 refine kB_hit <| kS_nrm <| Runs.canon _ hk_1 <| Sq <| Sq <| Ro <| Rc 1 [vi 0] <| Rk <| Runs.block ?_
 obtain ⟨e_2, he_2, h⟩ := bind_s h
 refine Runs.loop (fun x : (Module × Int) => hansomref26_Near_l31 m_ x.1 x.2) (fun (x : (Module × Int)) (g : (Nat × Nat × Nat × Nat × Nat)) => hansomref26_Near_h31 m_ x.1 x.2 g.1 g.2.1 g.2.2.1 g.2.2.2.1 g.2.2.2.2) (hansomref26_Near_P31 m_ m_) (fun x g r hr => hansomref26_Near_l31_ok m_ m_ x.1 x.2 g.1 g.2.1 g.2.2.1 g.2.2.2.1 g.2.2.2.2 r hr) (g_1.1, g_1.2.1, g_1.2.2.1, g_1.2.2.2.1, g_1.2.2.2.2) he_2 Cz ?_
 rintro ⟨o, s⟩ hp
 obtain ⟨ho, g_2, hk_2⟩ := hp
 have ho' : o = .exit 2 := ho
 subst ho'
 refine kB_hit <| kS_nrm <| Runs.canon _ hk_2 <| Sq <| Ro <| Rc 2 [vp [2] 0 3, ⟨.ref [3, 15] g_2.1 0 (List.map SegDef.d e_2.Segs).length 8, []⟩] <| Rt (some 119) .lenL [] none [.ref [3, 15] g_2.1 0 (List.map SegDef.d e_2.Segs).length 8] (.i (e_2.Segs.length : Int)) [] (cut_lenR (e := SegDef.d) e_2.Segs rfl) <| Rc 2 [vp [2] 0 4, ⟨.ref [4, 15] g_2.2.1 0 (List.map GrpDef.d e_2.Groups).length 2, []⟩] <| Rt (some 122) .lenL [] none [.ref [4, 15] g_2.2.1 0 (List.map GrpDef.d e_2.Groups).length 2] (.i (e_2.Groups.length : Int)) [] (cut_lenR (e := GrpDef.d) e_2.Groups rfl) <| Rc 2 [vp [2] 0 5, ⟨.ref [5, 15] g_2.2.2.1 0 (List.map Ext.d e_2.Exts).length 3, []⟩] <| Rt (some 125) .lenL [] none [.ref [5, 15] g_2.2.2.1 0 (List.map Ext.d e_2.Exts).length 3] (.i (e_2.Exts.length : Int)) [] (cut_lenR (e := Ext.d) e_2.Exts rfl) <| Rc 3 [⟨.d (.agg [.int .i64 (e_2.Segs.length : Int), .int .i64 (e_2.Groups.length : Int), .int .i64 (e_2.Exts.length : Int)]), []⟩, ⟨.ptr [8] 0 0, [([8], some (.cells [.i 0, .i 0, .i 0] 0))]⟩, ⟨.tup [], [([8], some (.cells [.i (e_2.Segs.length : Int), .i (e_2.Groups.length : Int), .i (e_2.Exts.length : Int)] 0))]⟩] <| Rk <| Sq <| Sq <| Ro <| Rc 1 [vi 0] <| Rk <| Runs.block ?_
 obtain ⟨e_3, he_3, h⟩ := bind_s h
 refine Runs.loop (fun x : (Module × Int) => hansomref26_Near_l58 m_ x.1 ({ a0 := (e_2.Segs.length : Int), a1 := (e_2.Groups.length : Int), a2 := (e_2.Exts.length : Int) } : (A3 Int)) x.2) (fun (x : (Module × Int)) (g : (Nat × Nat × Nat × Nat × Nat)) => hansomref26_Near_h58 m_ x.1 ({ a0 := (e_2.Segs.length : Int), a1 := (e_2.Groups.length : Int), a2 := (e_2.Exts.length : Int) } : (A3 Int)) x.2 g.1 g.2.1 g.2.2.1 g.2.2.2.1 g.2.2.2.2) (hansomref26_Near_P58 m_ m_ ({ a0 := (e_2.Segs.length : Int), a1 := (e_2.Groups.length : Int), a2 := (e_2.Exts.length : Int) } : (A3 Int))) (fun x g r hr => hansomref26_Near_l58_ok m_ m_ x.1 ({ a0 := (e_2.Segs.length : Int), a1 := (e_2.Groups.length : Int), a2 := (e_2.Exts.length : Int) } : (A3 Int)) x.2 g.1 g.2.1 g.2.2.1 g.2.2.2.1 g.2.2.2.2 r hr) (g_2.1, g_2.2.1, g_2.2.2.1, g_2.2.2.2.1, g_2.2.2.2.2) he_3 Cz ?_
 rintro ⟨o, s⟩ hp
 obtain ⟨ho, g_3, hk_3⟩ := hp
 have ho' : o = .exit 4 := ho
 subst ho'
 refine kB_hit <| kS_nrm <| Runs.canon _ hk_3 <| Sq <| Ro <| Rc 8 [vp [1] 0 8, vb m_.Main, vp [1] 0 9, vb m_.Is, vp [2] 0 8, ⟨.tup [], [([2], some (.cells [.d (.str e_3.Name), .d (.sl (List.map Comment.d e_3.Notes)), .d (.sl (List.map D.str e_3.Names)), .ref [3, 15] g_3.1 0 (List.map SegDef.d e_3.Segs).length 8, .ref [4, 15] g_3.2.1 0 (List.map GrpDef.d e_3.Groups).length 2, .ref [5, 15] g_3.2.2.1 0 (List.map Ext.d e_3.Exts).length 3, .ref [6, 15] g_3.2.2.2.1 0 (List.map Pub.d e_3.Pubs).length 5, .ref [7, 15] g_3.2.2.2.2 0 (List.map Data.d e_3.Datas).length 4, .b m_.Main, .b e_3.Is, .i e_3.Start.At, .i e_3.Start.Loc, .b e_3.Start.Self, .i e_3.Start.Frame, .i e_3.Start.FrameN, .i e_3.Start.Target, .i e_3.Start.N, .w e_3.Start.Disp] 0))]⟩, vp [2] 0 9, ⟨.tup [], [([2], some (.cells [.d (.str e_3.Name), .d (.sl (List.map Comment.d e_3.Notes)), .d (.sl (List.map D.str e_3.Names)), .ref [3, 15] g_3.1 0 (List.map SegDef.d e_3.Segs).length 8, .ref [4, 15] g_3.2.1 0 (List.map GrpDef.d e_3.Groups).length 2, .ref [5, 15] g_3.2.2.1 0 (List.map Ext.d e_3.Exts).length 3, .ref [6, 15] g_3.2.2.2.1 0 (List.map Pub.d e_3.Pubs).length 5, .ref [7, 15] g_3.2.2.2.2 0 (List.map Data.d e_3.Datas).length 4, .b m_.Main, .b m_.Is, .i e_3.Start.At, .i e_3.Start.Loc, .b e_3.Start.Self, .i e_3.Start.Frame, .i e_3.Start.FrameN, .i e_3.Start.Target, .i e_3.Start.N, .w e_3.Start.Disp] 0))]⟩] ?_
 refine Rk <| Sq <| Sq <| Ro <| Rc 2 [vp [2] 0 9, vb m_.Is] <| Rk ?_
 cases hb_1 : (m_.Is : Bool) with
 | true =>
  replace h := ite_t hb_1 h
  refine Ct <| Sq <| Ro <| Rc 3 [vp [1] 0 10, ⟨.d (Fixup.d m_.Start), []⟩, ⟨.d (.agg [.int .i64 (e_2.Segs.length : Int), .int .i64 (e_2.Groups.length : Int), .int .i64 (e_2.Exts.length : Int)]), []⟩] ?_
  obtain ⟨r_2, hr_2, h⟩ := bind_s h
  have hc_2 := hansomref25_Near_L m_.Start 4 ({ a0 := (e_2.Segs.length : Int), a1 := (e_2.Groups.length : Int), a2 := (e_2.Exts.length : Int) } : (A3 Int)) r_2 hr_2
  refine Rt (some 229) (.callf 11) [] none [.d (Fixup.d m_.Start), .i 4, .d (.agg [.int .i64 (e_2.Segs.length : Int), .int .i64 (e_2.Groups.length : Int), .int .i64 (e_2.Exts.length : Int)])] (.d (Fixup.d r_2)) [] (cc hc_2) <| Rc 2 [vp [2] 0 10, ⟨.tup [], [([2], some (.cells [.d (.str e_3.Name), .d (.sl (List.map Comment.d e_3.Notes)), .d (.sl (List.map D.str e_3.Names)), .ref [3, 15] g_3.1 0 (List.map SegDef.d e_3.Segs).length 8, .ref [4, 15] g_3.2.1 0 (List.map GrpDef.d e_3.Groups).length 2, .ref [5, 15] g_3.2.2.1 0 (List.map Ext.d e_3.Exts).length 3, .ref [6, 15] g_3.2.2.2.1 0 (List.map Pub.d e_3.Pubs).length 5, .ref [7, 15] g_3.2.2.2.2 0 (List.map Data.d e_3.Datas).length 4, .b m_.Main, .b true, .i r_2.At, .i r_2.Loc, .b r_2.Self, .i r_2.Frame, .i r_2.FrameN, .i r_2.Target, .i r_2.N, .w r_2.Disp] 0))]⟩] <| Rk <| Sq <| Ro <| Rc 9 [vp [2] 0 10, vp [2] 0 11, ⟨.tup [], [([2], some (.cells [.d (.str e_3.Name), .d (.sl (List.map Comment.d e_3.Notes)), .d (.sl (List.map D.str e_3.Names)), .ref [3, 15] g_3.1 0 (List.map SegDef.d e_3.Segs).length 8, .ref [4, 15] g_3.2.1 0 (List.map GrpDef.d e_3.Groups).length 2, .ref [5, 15] g_3.2.2.1 0 (List.map Ext.d e_3.Exts).length 3, .ref [6, 15] g_3.2.2.2.1 0 (List.map Pub.d e_3.Pubs).length 5, .ref [7, 15] g_3.2.2.2.2 0 (List.map Data.d e_3.Datas).length 4, .b m_.Main, .b true, .i r_2.At, .i 0, .b r_2.Self, .i r_2.Frame, .i r_2.FrameN, .i r_2.Target, .i r_2.N, .w r_2.Disp] 0))]⟩, vp [2] 0 10, vp [2] 0 10, ⟨.tup [], [([2], some (.cells [.d (.str e_3.Name), .d (.sl (List.map Comment.d e_3.Notes)), .d (.sl (List.map D.str e_3.Names)), .ref [3, 15] g_3.1 0 (List.map SegDef.d e_3.Segs).length 8, .ref [4, 15] g_3.2.1 0 (List.map GrpDef.d e_3.Groups).length 2, .ref [5, 15] g_3.2.2.1 0 (List.map Ext.d e_3.Exts).length 3, .ref [6, 15] g_3.2.2.2.1 0 (List.map Pub.d e_3.Pubs).length 5, .ref [7, 15] g_3.2.2.2.2 0 (List.map Data.d e_3.Datas).length 4, .b m_.Main, .b true, .i 0, .i 0, .b r_2.Self, .i r_2.Frame, .i r_2.FrameN, .i r_2.Target, .i r_2.N, .w r_2.Disp] 0))]⟩, vp [2] 0 10, vp [2] 0 12, ⟨.tup [], [([2], some (.cells [.d (.str e_3.Name), .d (.sl (List.map Comment.d e_3.Notes)), .d (.sl (List.map D.str e_3.Names)), .ref [3, 15] g_3.1 0 (List.map SegDef.d e_3.Segs).length 8, .ref [4, 15] g_3.2.1 0 (List.map GrpDef.d e_3.Groups).length 2, .ref [5, 15] g_3.2.2.1 0 (List.map Ext.d e_3.Exts).length 3, .ref [6, 15] g_3.2.2.2.1 0 (List.map Pub.d e_3.Pubs).length 5, .ref [7, 15] g_3.2.2.2.2 0 (List.map Data.d e_3.Datas).length 4, .b m_.Main, .b true, .i 0, .i 0, .b false, .i r_2.Frame, .i r_2.FrameN, .i r_2.Target, .i r_2.N, .w r_2.Disp] 0))]⟩] ?_
  refine Rk <| Sq <| Ro <| Rc 4 [vp [2] 0 10, vp [2] 0 13, vi r_2.Frame, vb (r_2.Frame == 4)] <| Rk ?_
  cases hb_2 : ((r_2.Frame == 4) : Bool) with
  | true =>
   replace h := ite_t hb_2 h
   refine Ct <| Ro <| Rc 3 [vp [2] 0 10, vp [2] 0 13, ⟨.tup [], [([2], some (.cells [.d (.str e_3.Name), .d (.sl (List.map Comment.d e_3.Notes)), .d (.sl (List.map D.str e_3.Names)), .ref [3, 15] g_3.1 0 (List.map SegDef.d e_3.Segs).length 8, .ref [4, 15] g_3.2.1 0 (List.map GrpDef.d e_3.Groups).length 2, .ref [5, 15] g_3.2.2.1 0 (List.map Ext.d e_3.Exts).length 3, .ref [6, 15] g_3.2.2.2.1 0 (List.map Pub.d e_3.Pubs).length 5, .ref [7, 15] g_3.2.2.2.2 0 (List.map Data.d e_3.Datas).length 4, .b m_.Main, .b true, .i 0, .i 0, .b false, .i 5, .i r_2.FrameN, .i r_2.Target, .i r_2.N, .w r_2.Disp] 0))]⟩] <| Rk <| Sq <| Ro <| Rc 2 [⟨.mix [.d (.str e_3.Name), .d (.sl (List.map Comment.d e_3.Notes)), .d (.sl (List.map D.str e_3.Names)), .ref [3, 15] g_3.1 0 (List.map SegDef.d e_3.Segs).length 8, .ref [4, 15] g_3.2.1 0 (List.map GrpDef.d e_3.Groups).length 2, .ref [5, 15] g_3.2.2.1 0 (List.map Ext.d e_3.Exts).length 3, .ref [6, 15] g_3.2.2.2.1 0 (List.map Pub.d e_3.Pubs).length 5, .ref [7, 15] g_3.2.2.2.2 0 (List.map Data.d e_3.Datas).length 4, .b m_.Main, .b true, .i 0, .i 0, .b false, .i 5, .i r_2.FrameN, .i r_2.Target, .i r_2.N, .w r_2.Disp], []⟩, ⟨.tup [], [([2], some (.cells [.d (.str e_3.Name), .d (.sl (List.map Comment.d e_3.Notes)), .d (.sl (List.map D.str e_3.Names)), .ref [3, 15] g_3.1 0 (List.map SegDef.d e_3.Segs).length 8, .ref [4, 15] g_3.2.1 0 (List.map GrpDef.d e_3.Groups).length 2, .ref [5, 15] g_3.2.2.1 0 (List.map Ext.d e_3.Exts).length 3, .ref [6, 15] g_3.2.2.2.1 0 (List.map Pub.d e_3.Pubs).length 5, .ref [7, 15] g_3.2.2.2.2 0 (List.map Data.d e_3.Datas).length 4, .b m_.Main, .b true, .i 0, .i 0, .b false, .i 5, .i r_2.FrameN, .i r_2.Target, .i r_2.N, .w r_2.Disp] 0))]⟩] ?_
   refine Rk <| Sq <| Runs.gcons (frzB_ref (e := Ext.d) (l := e_3.Exts) (id := [2]) (id' := [5, 15]) (v := g_3.2.2.1) (n := 3) (fz := false) (ver := 0) (cs := [.d (.str e_3.Name), .d (.sl (List.map Comment.d e_3.Notes)), .d (.sl (List.map D.str e_3.Names)), .ref [3, 15] g_3.1 0 (List.map SegDef.d e_3.Segs).length 8, .ref [4, 15] g_3.2.1 0 (List.map GrpDef.d e_3.Groups).length 2, .ref [5, 15] g_3.2.2.1 0 (List.map Ext.d e_3.Exts).length 3, .ref [6, 15] g_3.2.2.2.1 0 (List.map Pub.d e_3.Pubs).length 5, .ref [7, 15] g_3.2.2.2.2 0 (List.map Data.d e_3.Datas).length 4, .b m_.Main, .b true, .i 0, .i 0, .b false, .i 5, .i r_2.FrameN, .i r_2.Target, .i r_2.N, .w r_2.Disp]) (cs' := [.d (.str e_3.Name), .d (.sl (List.map Comment.d e_3.Notes)), .d (.sl (List.map D.str e_3.Names)), .ref [3, 15] g_3.1 0 (List.map SegDef.d e_3.Segs).length 8, .ref [4, 15] g_3.2.1 0 (List.map GrpDef.d e_3.Groups).length 2, .d (.sl (List.map Ext.d e_3.Exts)), .ref [6, 15] g_3.2.2.2.1 0 (List.map Pub.d e_3.Pubs).length 5, .ref [7, 15] g_3.2.2.2.2 0 (List.map Data.d e_3.Datas).length 4, .b m_.Main, .b true, .i 0, .i 0, .b false, .i 5, .i r_2.FrameN, .i r_2.Target, .i r_2.N, .w r_2.Disp]) (by kernel_rfl) (by kernel_rfl) (by kernel_rfl) (by decide) (by kernel_rfl) rfl) <| Runs.gnil <| kS_nrm ?_
   refine Runs.ret ?_
   obtain rfl := sj h
   exact ⟨Out.ret_ne, (fin_of (rs := [.mix [.d (.str e_3.Name), .d (.sl (List.map Comment.d e_3.Notes)), .d (.sl (List.map D.str e_3.Names)), .ref [3, 15] g_3.1 0 (List.map SegDef.d e_3.Segs).length 8, .ref [4, 15] g_3.2.1 0 (List.map GrpDef.d e_3.Groups).length 2, .d (.sl (List.map Ext.d e_3.Exts)), .ref [6, 15] g_3.2.2.2.1 0 (List.map Pub.d e_3.Pubs).length 5, .ref [7, 15] g_3.2.2.2.2 0 (List.map Data.d e_3.Datas).length 4, .b m_.Main, .b true, .i 0, .i 0, .b false, .i 5, .i r_2.FrameN, .i r_2.Target, .i r_2.N, .w r_2.Disp]]) (by kernel_rfl) (by kernel_rfl) (outs_mix (ocs_d (ocs_d (ocs_d (ocs_own (id := [3, 15]) (v := g_3.1) (fz := false) (es := List.map SegDef.d e_3.Segs) (by kernel_rfl) (by decide) rfl (ocs_own (id := [4, 15]) (v := g_3.2.1) (fz := false) (es := List.map GrpDef.d e_3.Groups) (by kernel_rfl) (by decide) rfl (ocs_d (ocs_own (id := [6, 15]) (v := g_3.2.2.2.1) (fz := false) (es := List.map Pub.d e_3.Pubs) (by kernel_rfl) (by decide) rfl (ocs_own (id := [7, 15]) (v := g_3.2.2.2.2) (fz := false) (es := List.map Data.d e_3.Datas) (by kernel_rfl) (by decide) rfl (ocs_d (ocs_d (ocs_d (ocs_d (ocs_d (ocs_d (ocs_d (ocs_d (ocs_d (ocs_d ocs_nil)))))))))))))))))) outs_nil) (gives_cons (give_same (by kernel_rfl)) gives_nil))⟩
  | false =>
   replace h := ite_f hb_2 h
   refine Cf <| Runs.skip <| kS_nrm <| Sq <| Ro <| Rc 2 [⟨.mix [.d (.str e_3.Name), .d (.sl (List.map Comment.d e_3.Notes)), .d (.sl (List.map D.str e_3.Names)), .ref [3, 15] g_3.1 0 (List.map SegDef.d e_3.Segs).length 8, .ref [4, 15] g_3.2.1 0 (List.map GrpDef.d e_3.Groups).length 2, .ref [5, 15] g_3.2.2.1 0 (List.map Ext.d e_3.Exts).length 3, .ref [6, 15] g_3.2.2.2.1 0 (List.map Pub.d e_3.Pubs).length 5, .ref [7, 15] g_3.2.2.2.2 0 (List.map Data.d e_3.Datas).length 4, .b m_.Main, .b true, .i 0, .i 0, .b false, .i r_2.Frame, .i r_2.FrameN, .i r_2.Target, .i r_2.N, .w r_2.Disp], []⟩, ⟨.tup [], [([2], some (.cells [.d (.str e_3.Name), .d (.sl (List.map Comment.d e_3.Notes)), .d (.sl (List.map D.str e_3.Names)), .ref [3, 15] g_3.1 0 (List.map SegDef.d e_3.Segs).length 8, .ref [4, 15] g_3.2.1 0 (List.map GrpDef.d e_3.Groups).length 2, .ref [5, 15] g_3.2.2.1 0 (List.map Ext.d e_3.Exts).length 3, .ref [6, 15] g_3.2.2.2.1 0 (List.map Pub.d e_3.Pubs).length 5, .ref [7, 15] g_3.2.2.2.2 0 (List.map Data.d e_3.Datas).length 4, .b m_.Main, .b true, .i 0, .i 0, .b false, .i r_2.Frame, .i r_2.FrameN, .i r_2.Target, .i r_2.N, .w r_2.Disp] 0))]⟩] <| Rk <| Sq <| Runs.gcons (frzB_ref (e := Ext.d) (l := e_3.Exts) (id := [2]) (id' := [5, 15]) (v := g_3.2.2.1) (n := 3) (fz := false) (ver := 0) (cs := [.d (.str e_3.Name), .d (.sl (List.map Comment.d e_3.Notes)), .d (.sl (List.map D.str e_3.Names)), .ref [3, 15] g_3.1 0 (List.map SegDef.d e_3.Segs).length 8, .ref [4, 15] g_3.2.1 0 (List.map GrpDef.d e_3.Groups).length 2, .ref [5, 15] g_3.2.2.1 0 (List.map Ext.d e_3.Exts).length 3, .ref [6, 15] g_3.2.2.2.1 0 (List.map Pub.d e_3.Pubs).length 5, .ref [7, 15] g_3.2.2.2.2 0 (List.map Data.d e_3.Datas).length 4, .b m_.Main, .b true, .i 0, .i 0, .b false, .i r_2.Frame, .i r_2.FrameN, .i r_2.Target, .i r_2.N, .w r_2.Disp]) (cs' := [.d (.str e_3.Name), .d (.sl (List.map Comment.d e_3.Notes)), .d (.sl (List.map D.str e_3.Names)), .ref [3, 15] g_3.1 0 (List.map SegDef.d e_3.Segs).length 8, .ref [4, 15] g_3.2.1 0 (List.map GrpDef.d e_3.Groups).length 2, .d (.sl (List.map Ext.d e_3.Exts)), .ref [6, 15] g_3.2.2.2.1 0 (List.map Pub.d e_3.Pubs).length 5, .ref [7, 15] g_3.2.2.2.2 0 (List.map Data.d e_3.Datas).length 4, .b m_.Main, .b true, .i 0, .i 0, .b false, .i r_2.Frame, .i r_2.FrameN, .i r_2.Target, .i r_2.N, .w r_2.Disp]) (by kernel_rfl) (by kernel_rfl) (by kernel_rfl) (by decide) (by kernel_rfl) rfl) ?_
   refine Runs.gnil <| kS_nrm <| Runs.ret ?_
   obtain rfl := sj h
   exact ⟨Out.ret_ne, (fin_of (rs := [.mix [.d (.str e_3.Name), .d (.sl (List.map Comment.d e_3.Notes)), .d (.sl (List.map D.str e_3.Names)), .ref [3, 15] g_3.1 0 (List.map SegDef.d e_3.Segs).length 8, .ref [4, 15] g_3.2.1 0 (List.map GrpDef.d e_3.Groups).length 2, .d (.sl (List.map Ext.d e_3.Exts)), .ref [6, 15] g_3.2.2.2.1 0 (List.map Pub.d e_3.Pubs).length 5, .ref [7, 15] g_3.2.2.2.2 0 (List.map Data.d e_3.Datas).length 4, .b m_.Main, .b true, .i 0, .i 0, .b false, .i r_2.Frame, .i r_2.FrameN, .i r_2.Target, .i r_2.N, .w r_2.Disp]]) (by kernel_rfl) (by kernel_rfl) (outs_mix (ocs_d (ocs_d (ocs_d (ocs_own (id := [3, 15]) (v := g_3.1) (fz := false) (es := List.map SegDef.d e_3.Segs) (by kernel_rfl) (by decide) rfl (ocs_own (id := [4, 15]) (v := g_3.2.1) (fz := false) (es := List.map GrpDef.d e_3.Groups) (by kernel_rfl) (by decide) rfl (ocs_d (ocs_own (id := [6, 15]) (v := g_3.2.2.2.1) (fz := false) (es := List.map Pub.d e_3.Pubs) (by kernel_rfl) (by decide) rfl (ocs_own (id := [7, 15]) (v := g_3.2.2.2.2) (fz := false) (es := List.map Data.d e_3.Datas) (by kernel_rfl) (by decide) rfl (ocs_d (ocs_d (ocs_d (ocs_d (ocs_d (ocs_d (ocs_d (ocs_d (ocs_d (ocs_d ocs_nil)))))))))))))))))) outs_nil) (gives_cons (give_same (by kernel_rfl)) gives_nil))⟩
 | false =>
  replace h := ite_f hb_1 h
  refine Cf <| Runs.skip <| kS_nrm <| Sq <| Ro <| Rc 2 [⟨.mix [.d (.str e_3.Name), .d (.sl (List.map Comment.d e_3.Notes)), .d (.sl (List.map D.str e_3.Names)), .ref [3, 15] g_3.1 0 (List.map SegDef.d e_3.Segs).length 8, .ref [4, 15] g_3.2.1 0 (List.map GrpDef.d e_3.Groups).length 2, .ref [5, 15] g_3.2.2.1 0 (List.map Ext.d e_3.Exts).length 3, .ref [6, 15] g_3.2.2.2.1 0 (List.map Pub.d e_3.Pubs).length 5, .ref [7, 15] g_3.2.2.2.2 0 (List.map Data.d e_3.Datas).length 4, .b m_.Main, .b false, .i e_3.Start.At, .i e_3.Start.Loc, .b e_3.Start.Self, .i e_3.Start.Frame, .i e_3.Start.FrameN, .i e_3.Start.Target, .i e_3.Start.N, .w e_3.Start.Disp], []⟩, ⟨.tup [], [([2], some (.cells [.d (.str e_3.Name), .d (.sl (List.map Comment.d e_3.Notes)), .d (.sl (List.map D.str e_3.Names)), .ref [3, 15] g_3.1 0 (List.map SegDef.d e_3.Segs).length 8, .ref [4, 15] g_3.2.1 0 (List.map GrpDef.d e_3.Groups).length 2, .ref [5, 15] g_3.2.2.1 0 (List.map Ext.d e_3.Exts).length 3, .ref [6, 15] g_3.2.2.2.1 0 (List.map Pub.d e_3.Pubs).length 5, .ref [7, 15] g_3.2.2.2.2 0 (List.map Data.d e_3.Datas).length 4, .b m_.Main, .b false, .i e_3.Start.At, .i e_3.Start.Loc, .b e_3.Start.Self, .i e_3.Start.Frame, .i e_3.Start.FrameN, .i e_3.Start.Target, .i e_3.Start.N, .w e_3.Start.Disp] 0))]⟩] <| Rk ?_
  refine Sq <| Runs.gcons (frzB_ref (e := Ext.d) (l := e_3.Exts) (id := [2]) (id' := [5, 15]) (v := g_3.2.2.1) (n := 3) (fz := false) (ver := 0) (cs := [.d (.str e_3.Name), .d (.sl (List.map Comment.d e_3.Notes)), .d (.sl (List.map D.str e_3.Names)), .ref [3, 15] g_3.1 0 (List.map SegDef.d e_3.Segs).length 8, .ref [4, 15] g_3.2.1 0 (List.map GrpDef.d e_3.Groups).length 2, .ref [5, 15] g_3.2.2.1 0 (List.map Ext.d e_3.Exts).length 3, .ref [6, 15] g_3.2.2.2.1 0 (List.map Pub.d e_3.Pubs).length 5, .ref [7, 15] g_3.2.2.2.2 0 (List.map Data.d e_3.Datas).length 4, .b m_.Main, .b false, .i e_3.Start.At, .i e_3.Start.Loc, .b e_3.Start.Self, .i e_3.Start.Frame, .i e_3.Start.FrameN, .i e_3.Start.Target, .i e_3.Start.N, .w e_3.Start.Disp]) (cs' := [.d (.str e_3.Name), .d (.sl (List.map Comment.d e_3.Notes)), .d (.sl (List.map D.str e_3.Names)), .ref [3, 15] g_3.1 0 (List.map SegDef.d e_3.Segs).length 8, .ref [4, 15] g_3.2.1 0 (List.map GrpDef.d e_3.Groups).length 2, .d (.sl (List.map Ext.d e_3.Exts)), .ref [6, 15] g_3.2.2.2.1 0 (List.map Pub.d e_3.Pubs).length 5, .ref [7, 15] g_3.2.2.2.2 0 (List.map Data.d e_3.Datas).length 4, .b m_.Main, .b false, .i e_3.Start.At, .i e_3.Start.Loc, .b e_3.Start.Self, .i e_3.Start.Frame, .i e_3.Start.FrameN, .i e_3.Start.Target, .i e_3.Start.N, .w e_3.Start.Disp]) (by kernel_rfl) (by kernel_rfl) (by kernel_rfl) (by decide) (by kernel_rfl) rfl) ?_
  refine Runs.gnil <| kS_nrm <| Runs.ret ?_
  obtain rfl := sj h
  exact ⟨Out.ret_ne, (fin_of (rs := [.mix [.d (.str e_3.Name), .d (.sl (List.map Comment.d e_3.Notes)), .d (.sl (List.map D.str e_3.Names)), .ref [3, 15] g_3.1 0 (List.map SegDef.d e_3.Segs).length 8, .ref [4, 15] g_3.2.1 0 (List.map GrpDef.d e_3.Groups).length 2, .d (.sl (List.map Ext.d e_3.Exts)), .ref [6, 15] g_3.2.2.2.1 0 (List.map Pub.d e_3.Pubs).length 5, .ref [7, 15] g_3.2.2.2.2 0 (List.map Data.d e_3.Datas).length 4, .b m_.Main, .b false, .i e_3.Start.At, .i e_3.Start.Loc, .b e_3.Start.Self, .i e_3.Start.Frame, .i e_3.Start.FrameN, .i e_3.Start.Target, .i e_3.Start.N, .w e_3.Start.Disp]]) (by kernel_rfl) (by kernel_rfl) (outs_mix (ocs_d (ocs_d (ocs_d (ocs_own (id := [3, 15]) (v := g_3.1) (fz := false) (es := List.map SegDef.d e_3.Segs) (by kernel_rfl) (by decide) rfl (ocs_own (id := [4, 15]) (v := g_3.2.1) (fz := false) (es := List.map GrpDef.d e_3.Groups) (by kernel_rfl) (by decide) rfl (ocs_d (ocs_own (id := [6, 15]) (v := g_3.2.2.2.1) (fz := false) (es := List.map Pub.d e_3.Pubs) (by kernel_rfl) (by decide) rfl (ocs_own (id := [7, 15]) (v := g_3.2.2.2.2) (fz := false) (es := List.map Data.d e_3.Datas) (by kernel_rfl) (by decide) rfl (ocs_d (ocs_d (ocs_d (ocs_d (ocs_d (ocs_d (ocs_d (ocs_d (ocs_d (ocs_d ocs_nil)))))))))))))))))) outs_nil) (gives_cons (give_same (by kernel_rfl)) gives_nil))⟩
theorem hansomref26_Near_L (m_ : Module) (r : Module) (h : hansomref26_Near m_ = some r) : L 4 [.d (Module.d m_)] = some (.mix [.d (.str r.Name), .d (.sl (List.map Comment.d r.Notes)), .d (.sl (List.map D.str r.Names)), .arr false 8 (List.map SegDef.d r.Segs), .arr false 2 (List.map GrpDef.d r.Groups), .d (.sl (List.map Ext.d r.Exts)), .arr false 5 (List.map Pub.d r.Pubs), .arr false 4 (List.map Data.d r.Datas), .b r.Main, .b r.Is, .i r.Start.At, .i r.Start.Loc, .b r.Start.Self, .i r.Start.Frame, .i r.Start.FrameN, .i r.Start.Target, .i r.Start.N, .w r.Start.Disp], [.d (Module.d m_)]) := by
 obtain ⟨p, ⟨hne, hf⟩, hr⟩ := hansomref26_Near_ok m_ r h
 obtain ⟨k, hk⟩ := run_of (F := F4) (args := [.d (Module.d m_)]) (ap := [.d (Module.d m_)]) (bx0 := updW (fun _ => none) []) rfl rfl (by kernel_rfl) ⟨p, ⟨hne, hf⟩, hr⟩
 exact lim_run (k := k) rfl hk
def omf_many_Q (m_ : Module) (r : Bool) (p : Out × St) : Prop := (∀ i, p.1 ≠ .exit i) ∧ finF F15 [.d (Module.d m_)] p.2 = some (.b r, [.d (Module.d m_)])
theorem omf_many_ok (m_ : Module) (r : Bool) (h : omf_many m_ = some r) : Runs L F15.body ⟨tmOf [.d (Module.d m_)] 0, updW (fun _ => none) []⟩ (omf_many_Q m_ r) := by
 unfold omf_many at h
 refine Sq <| Ro <| Rc 2 [⟨.ptr [1] 0 0, [([1], some (.cells [.d (.str m_.Name), .d (.sl (List.map Comment.d m_.Notes)), .d (.sl (List.map D.str m_.Names)), .d (.sl (List.map SegDef.d m_.Segs)), .d (.sl (List.map GrpDef.d m_.Groups)), .d (.sl (List.map Ext.d m_.Exts)), .d (.sl (List.map Pub.d m_.Pubs)), .d (.sl (List.map Data.d m_.Datas)), .b m_.Main, .b m_.Is, .i m_.Start.At, .i m_.Start.Loc, .b m_.Start.Self, .i m_.Start.Frame, .i m_.Start.FrameN, .i m_.Start.Target, .i m_.Start.N, .w m_.Start.Disp] 0))]⟩, vb false] <| Rk <| Sq <| Ro <| Rc 2 [vp [1] 0 3, ⟨.d (.sl (List.map SegDef.d m_.Segs)), []⟩] <| Rt (some 5) .lenL [] none [.d (.sl (List.map SegDef.d m_.Segs))] (.i (m_.Segs.length : Int)) [] (cut_len _) <| Rc 2 [vb (decide ((m_.Segs.length : Int) ≤ 64)), vb (decide ((m_.Segs.length : Int) ≤ 64))] ?_
 cases hb_1 : ((decide ((m_.Segs.length : Int) ≤ 64)) : Bool) with
 | true =>
  replace h := ite_t hb_1 h
  refine Rc 2 [vp [1] 0 4, ⟨.d (.sl (List.map GrpDef.d m_.Groups)), []⟩] <| Rt (some 10) .lenL [] none [.d (.sl (List.map GrpDef.d m_.Groups))] (.i (m_.Groups.length : Int)) [] (cut_len _) <| Rc 3 [vb (decide ((m_.Groups.length : Int) ≤ 64)), vb (decide ((m_.Groups.length : Int) ≤ 64)), vb (decide ((m_.Groups.length : Int) ≤ 64))] ?_
  cases hb_2 : ((decide ((m_.Groups.length : Int) ≤ 64)) : Bool) with
  | true =>
   replace h := ite_t hb_2 h
   refine Rc 2 [vp [1] 0 5, ⟨.d (.sl (List.map Ext.d m_.Exts)), []⟩] <| Rt (some 16) .lenL [] none [.d (.sl (List.map Ext.d m_.Exts))] (.i (m_.Exts.length : Int)) [] (cut_len _) <| Rc 3 [vb (decide ((m_.Exts.length : Int) ≤ 256)), vb (decide ((m_.Exts.length : Int) ≤ 256)), vb (decide ((m_.Exts.length : Int) ≤ 256))] ?_
   cases hb_3 : ((decide ((m_.Exts.length : Int) ≤ 256)) : Bool) with
   | true =>
    replace h := ite_t hb_3 h
    refine Rc 2 [vp [1] 0 6, ⟨.d (.sl (List.map Pub.d m_.Pubs)), []⟩] <| Rt (some 22) .lenL [] none [.d (.sl (List.map Pub.d m_.Pubs))] (.i (m_.Pubs.length : Int)) [] (cut_len _) <| Rc 3 [vb (decide ((m_.Pubs.length : Int) ≤ 256)), vb (decide ((m_.Pubs.length : Int) ≤ 256)), vb (decide ((m_.Pubs.length : Int) ≤ 256))] ?_
    cases hb_4 : ((decide ((m_.Pubs.length : Int) ≤ 256)) : Bool) with
    | true =>
     replace h := ite_t hb_4 h
     refine Rc 2 [vp [1] 0 2, ⟨.d (.sl (List.map D.str m_.Names)), []⟩] <| Rt (some 28) .lenL [] none [.d (.sl (List.map D.str m_.Names))] (.i (m_.Names.length : Int)) [] (cut_len _) <| Rc 3 [vb (decide ((m_.Names.length : Int) ≤ 256)), vb (decide ((m_.Names.length : Int) ≤ 256)), vb (decide ((m_.Names.length : Int) ≤ 256))] ?_
     cases hb_5 : ((decide ((m_.Names.length : Int) ≤ 256)) : Bool) with
     | true =>
      replace h := ite_t hb_5 h
      refine Rc 2 [vp [1] 0 7, ⟨.d (.sl (List.map Data.d m_.Datas)), []⟩] <| Rt (some 34) .lenL [] none [.d (.sl (List.map Data.d m_.Datas))] (.i (m_.Datas.length : Int)) [] (cut_len _) <| Rc 3 [vb (decide ((m_.Datas.length : Int) ≤ 512)), vb (decide ((m_.Datas.length : Int) ≤ 512)), vb (decide ((m_.Datas.length : Int) ≤ 512))] <| Rk <| Runs.ret ?_
      cases h
      exact Fq
     | false =>
      replace h := ite_f hb_5 h
      refine Rc 6 [vn, vn, vn, vn, vb false, vb false] <| Rk <| Runs.ret ?_
      cases h
      exact Fq
    | false =>
     replace h := ite_f hb_4 h
     refine Rc 12 [vn, vn, vn, vn, vb false, vb false, vn, vn, vn, vn, vb false, vb false] <| Rk <| Runs.ret ?_
     cases h
     exact Fq
   | false =>
    replace h := ite_f hb_3 h
    refine Rc 18 [vn, vn, vn, vn, vb false, vb false, vn, vn, vn, vn, vb false, vb false, vn, vn, vn, vn, vb false, vb false] <| Rk <| Runs.ret ?_
    cases h
    exact Fq
  | false =>
   replace h := ite_f hb_2 h
   refine Rc 24 [vn, vn, vn, vn, vb false, vb false, vn, vn, vn, vn, vb false, vb false, vn, vn, vn, vn, vb false, vb false, vn, vn, vn, vn, vb false, vb false] <| Rk <| Runs.ret ?_
   cases h
   exact Fq
 | false =>
  replace h := ite_f hb_1 h
  refine Rc 30 [vn, vn, vn, vn, vb false, vb false, vn, vn, vn, vn, vb false, vb false, vn, vn, vn, vn, vb false, vb false, vn, vn, vn, vn, vb false, vb false, vn, vn, vn, vn, vb false, vb false] <| Rk <| Runs.ret ?_
  cases h
  exact Fq
theorem omf_many_L (m_ : Module) (r : Bool) (h : omf_many m_ = some r) : L 15 [.d (Module.d m_)] = some (.b r, [.d (Module.d m_)]) := by
 obtain ⟨p, ⟨hne, hf⟩, hr⟩ := omf_many_ok m_ r h
 obtain ⟨k, hk⟩ := run_of (F := F15) (args := [.d (Module.d m_)]) (ap := [.d (Module.d m_)]) (bx0 := updW (fun _ => none) []) rfl rfl (by kernel_rfl) ⟨p, ⟨hne, hf⟩, hr⟩
 exact lim_run (k := k) rfl hk
def segs_May_h18 (s1 : SegDef) : St := ⟨tab [(1, .ptr [1] 0 0)], tabB [([1], some (.cells [.i s1.Align, .i s1.Combine, .w s1.Frame, .y s1.Offset, .i s1.Len, .i s1.Name, .i s1.Class, .i s1.Overlay] 0))]⟩
def segs_May_h26 (s1 : SegDef) : St := ⟨tab [(1, .ptr [1] 0 0)], tabB [([1], some (.cells [.i s1.Align, .i s1.Combine, .w s1.Frame, .y s1.Offset, .i s1.Len, .i s1.Name, .i s1.Class, .i s1.Overlay] 0))]⟩
def segs_May_h30 (t60 : (A3 Int)) (t61 : Int) : St := ⟨tab [(60, .d (.agg [.int .i64 t60.a0, .int .i64 t60.a1, .int .i64 t60.a2])), (61, .i t61)], tabB []⟩
def segs_May_h49  : St := ⟨tab [], tabB []⟩
def segs_May_Q (s_ : SegDef) (r : Bool) (p : Out × St) : Prop := (∀ i, p.1 ≠ .exit i) ∧ finF F16 [.d (SegDef.d s_)] p.2 = some (.b r, [.d (SegDef.d s_)])
def segs_May_P30 (s_ : SegDef) (t60 : (A3 Int)) (e : (Bool ⊕ Unit)) (p : Out × St) : Prop := match e with
 | .inl x => p.1 = .ret ∧ finF F16 [.d (SegDef.d s_)] p.2 = some (.b x, [.d (SegDef.d s_)])
 | .inr x => p.1 = .exit 0 ∧ ∃ g : Unit, Canon [] [] [] p.2 (segs_May_h49)
theorem segs_May_l30_ok (s_ : SegDef) (t60 : (A3 Int)) (t61 : Int) (r : (Lp Int (Bool ⊕ Unit))) (h : segs_May_l30 t60 t61 = some r) : Runs L F16l30 (segs_May_h30 t60 t61) (LQ [] [60, 61] [] (fun (x : Int) (g : Unit) => segs_May_h30 t60 x) (segs_May_P30 s_ t60) r) := by
 unfold segs_May_l30 at h
 refine Sq <| Ro <| Rc 1 [vb (decide (t61 < 3))] <| Rk <| Sq ?_
 cases hb_12 : ((decide (t61 < 3)) : Bool) with
 | true =>
  replace h := ite_t hb_12 h
  refine Ct <| Runs.skip <| kS_nrm <| Sq <| Runs.block <| Sq <| Ro ?_
  obtain ⟨z_1, hz_1, h⟩ := bind_s h
  refine Rt (some 63) (.indexA 3 1 none) [] none [.d (.agg [.int .i64 t60.a0, .int .i64 t60.a1, .int .i64 t60.a2]), .i t61] (.i z_1) [] (cut_ixA (e := (D.int .i64)) (l := t60.l) hz_1 rfl) <| Rc 1 [vi z_1] <| Rk <| Sq <| Ro <| Rc 3 [vi z_1, vb (decide (z_1 < 0)), vb (decide (z_1 < 0))] ?_
  cases hb_13 : ((decide (z_1 < 0)) : Bool) with
  | true =>
   replace h := ite_t hb_13 h
   refine Rc 3 [vn, vn, vb true] <| Rk <| Ct <| Sq <| Ro <| Rc 1 [vb false] <| Rk <| Runs.ret <| kB_ret <| kS_ret ?_
   obtain rfl := sj h
   exact ⟨nofun, rfl, (by kernel_rfl)⟩
  | false =>
   replace h := ite_f hb_13 h
   refine Rc 3 [vi z_1, vb (decide (z_1 > 32767)), vb (decide (z_1 > 32767))] <| Rk ?_
   cases hb_14 : ((decide (z_1 > 32767)) : Bool) with
   | true =>
    replace h := ite_t hb_14 h
    refine Ct <| Sq <| Ro <| Rc 1 [vb false] <| Rk <| Runs.ret <| kB_ret <| kS_ret ?_
    obtain rfl := sj h
    exact ⟨nofun, rfl, (by kernel_rfl)⟩
   | false =>
    replace h := ite_f hb_14 h
    refine Cf <| Runs.skip <| kB_nrm <| kS_nrm <| Ro <| Rc 2 [vi (IntKind.wrap .i64 (t61 + 1)), vi (IntKind.wrap .i64 (t61 + 1))] <| Rd ?_
    obtain rfl := sj h
    exact ⟨rfl, (), Cz⟩
 | false =>
  replace h := ite_f hb_12 h
  refine Cf <| Runs.exit <| kS_exit ?_
  obtain rfl := sj h
  exact ⟨nofun, rfl, (), Cz⟩
theorem segs_May_j26_ok (s_ : SegDef) (s1 : SegDef) (r : Bool) (h : segs_May_j26 s1 = some r) : Runs L F16b26 (segs_May_h26 s1) (segs_May_Q s_ r) := by
 unfold segs_May_j26 at h
 refine Sq <| Sq <| Ro <| Rc 8 [vp [1] 0 5, vi s1.Name, vp [1] 0 6, vi s1.Class, vp [1] 0 7, vi s1.Overlay, ⟨.d (.agg [.int .i64 s1.Name, .int .i64 s1.Class, .int .i64 s1.Overlay]), []⟩, vi 0] <| Rk <| Runs.block ?_
 obtain ⟨e_1, he_1, h⟩ := bind_s h
 refine Runs.loop (fun x : Int => segs_May_l30 ({ a0 := s1.Name, a1 := s1.Class, a2 := s1.Overlay } : (A3 Int)) x) (fun (x : Int) (g : Unit) => segs_May_h30 ({ a0 := s1.Name, a1 := s1.Class, a2 := s1.Overlay } : (A3 Int)) x) (segs_May_P30 s_ ({ a0 := s1.Name, a1 := s1.Class, a2 := s1.Overlay } : (A3 Int))) (fun x g r hr => segs_May_l30_ok s_ ({ a0 := s1.Name, a1 := s1.Class, a2 := s1.Overlay } : (A3 Int)) x  r hr) () he_1 Cz ?_
 rintro ⟨o, s⟩ hp
 cases e_1 with
 | inl e_2 =>
  obtain ⟨ho, hf⟩ := hp
  have ho' : o = .ret := ho
  subst ho'
  refine kB_ret <| kS_ret ?_
  obtain rfl := sj h
  exact ⟨Out.ret_ne, hf⟩
 | inr e_3 =>
  obtain ⟨ho, g_1, hk_1⟩ := hp
  have ho' : o = .exit 0 := ho
  subst ho'
  refine kB_hit <| kS_nrm <| Runs.canon _ hk_1 <| Sq <| Ro <| Rc 1 [vb true] <| Rk <| Runs.ret ?_
  cases h
  exact Fq
theorem segs_May_j18_ok (s_ : SegDef) (s1 : SegDef) (r : Bool) (h : segs_May_j18 s1 = some r) : Runs L F16b18 (segs_May_h18 s1) (segs_May_Q s_ r) := by
 unfold segs_May_j18 at h
 refine Sq <| Sq <| Ro <| Rc 4 [vp [1] 0 0, vi s1.Align, vb (s1.Align != 0), vb (s1.Align != 0)] ?_
 cases hb_9 : ((s1.Align != 0) : Bool) with
 | true =>
  replace h := ite_t hb_9 h
  refine Rc 4 [vp [1] 0 2, vw s1.Frame, vb (s1.Frame != 0), vb (s1.Frame != 0)] ?_
  cases hb_10 : ((s1.Frame != 0) : Bool) with
  | true =>
   replace h := ite_t hb_10 h
   refine Rc 5 [vn, vn, vn, vb true, vb true] <| Rk <| Ct <| Sq <| Ro <| Rc 1 [vb false] <| Rk <| Runs.ret <| kS_ret ?_
   cases h
   exact Fq
  | false =>
   replace h := ite_f hb_10 h
   refine Rc 5 [vp [1] 0 3, vy s1.Offset, vb (s1.Offset != 0), vb (s1.Offset != 0), vb (s1.Offset != 0)] <| Rk ?_
   cases hb_11 : ((s1.Offset != 0) : Bool) with
   | true =>
    replace h := ite_t hb_11 h
    refine Ct <| Sq <| Ro <| Rc 1 [vb false] <| Rk <| Runs.ret <| kS_ret ?_
    cases h
    exact Fq
   | false =>
    replace h := ite_f hb_11 h
    refine Cf <| Runs.skip <| kS_nrm <| Runs.canon (segs_May_h26 s1) Cz ?_
    exact segs_May_j26_ok s_ s1 r h
 | false =>
  replace h := ite_f hb_9 h
  refine Rc 9 [vn, vn, vn, vn, vn, vn, vn, vn, vb false] <| Rk <| Cf <| Runs.skip <| kS_nrm <| Runs.canon (segs_May_h26 s1) Cz ?_
  exact segs_May_j26_ok s_ s1 r h
theorem segs_May_ok (s_ : SegDef) (r : Bool) (h : segs_May s_ = some r) : Runs L F16.body ⟨tmOf [.d (SegDef.d s_)] 0, updW (fun _ => none) []⟩ (segs_May_Q s_ r) := by
 unfold segs_May at h
 refine Sq <| Ro <| Rc 2 [⟨.ptr [1] 0 0, [([1], some (.cells [.i s_.Align, .i s_.Combine, .w s_.Frame, .y s_.Offset, .i s_.Len, .i s_.Name, .i s_.Class, .i s_.Overlay] 0))]⟩, vb false] <| Rk <| Sq <| Sq <| Ro <| Rc 4 [vp [1] 0 0, vi s_.Align, vb (decide (s_.Align < 0)), vb (decide (s_.Align < 0))] ?_
 cases hb_1 : ((decide (s_.Align < 0)) : Bool) with
 | true =>
  replace h := ite_t hb_1 h
  refine Rc 14 [vn, vn, vn, vb true, vb true, vn, vn, vn, vb true, vb true, vn, vn, vn, vb true] <| Rk <| Ct <| Sq <| Ro <| Rc 1 [vb false] <| Rk <| Runs.ret <| kS_ret ?_
  cases h
  exact Fq
 | false =>
  replace h := ite_f hb_1 h
  refine Rc 5 [vp [1] 0 0, vi s_.Align, vb (decide (s_.Align > 4)), vb (decide (s_.Align > 4)), vb (decide (s_.Align > 4))] ?_
  cases hb_2 : ((decide (s_.Align > 4)) : Bool) with
  | true =>
   replace h := ite_t hb_2 h
   refine Rc 9 [vn, vn, vn, vb true, vb true, vn, vn, vn, vb true] <| Rk <| Ct <| Sq <| Ro <| Rc 1 [vb false] <| Rk <| Runs.ret <| kS_ret ?_
   cases h
   exact Fq
  | false =>
   replace h := ite_f hb_2 h
   refine Rc 5 [vp [1] 0 4, vi s_.Len, vb (decide (s_.Len < 0)), vb (decide (s_.Len < 0)), vb (decide (s_.Len < 0))] ?_
   cases hb_3 : ((decide (s_.Len < 0)) : Bool) with
   | true =>
    replace h := ite_t hb_3 h
    refine Rc 4 [vn, vn, vn, vb true] <| Rk <| Ct <| Sq <| Ro <| Rc 1 [vb false] <| Rk <| Runs.ret <| kS_ret ?_
    cases h
    exact Fq
   | false =>
    replace h := ite_f hb_3 h
    refine Rc 4 [vp [1] 0 4, vi s_.Len, vb (decide (s_.Len > 65536)), vb (decide (s_.Len > 65536))] <| Rk ?_
    cases hb_4 : ((decide (s_.Len > 65536)) : Bool) with
    | true =>
     replace h := ite_t hb_4 h
     refine Ct <| Sq <| Ro <| Rc 1 [vb false] <| Rk <| Runs.ret <| kS_ret ?_
     cases h
     exact Fq
    | false =>
     replace h := ite_f hb_4 h
     refine Cf <| Runs.skip <| kS_nrm <| Sq <| Sq <| Ro <| Rc 4 [vp [1] 0 1, vi s_.Combine, vb (s_.Combine != 0), vb (s_.Combine != 0)] ?_
     cases hb_5 : ((s_.Combine != 0) : Bool) with
     | true =>
      replace h := ite_t hb_5 h
      refine Rc 5 [vp [1] 0 1, vi s_.Combine, vb (s_.Combine != 2), vb (s_.Combine != 2), vb (s_.Combine != 2)] ?_
      cases hb_6 : ((s_.Combine != 2) : Bool) with
      | true =>
       replace h := ite_t hb_6 h
       refine Rc 5 [vp [1] 0 1, vi s_.Combine, vb (s_.Combine != 5), vb (s_.Combine != 5), vb (s_.Combine != 5)] ?_
       cases hb_7 : ((s_.Combine != 5) : Bool) with
       | true =>
        replace h := ite_t hb_7 h
        refine Rc 4 [vp [1] 0 1, vi s_.Combine, vb (s_.Combine != 6), vb (s_.Combine != 6)] <| Rk ?_
        cases hb_8 : ((s_.Combine != 6) : Bool) with
        | true =>
         replace h := ite_t hb_8 h
         refine Ct <| Sq <| Ro <| Rc 1 [vb false] <| Rk <| Runs.ret <| kS_ret ?_
         cases h
         exact Fq
        | false =>
         replace h := ite_f hb_8 h
         refine Cf <| Runs.skip <| kS_nrm <| Runs.canon (segs_May_h18 s_) Cz ?_
         exact segs_May_j18_ok s_ s_ r h
       | false =>
        replace h := ite_f hb_7 h
        refine Rc 4 [vn, vn, vn, vb false] <| Rk <| Cf <| Runs.skip <| kS_nrm <| Runs.canon (segs_May_h18 s_) Cz ?_
        exact segs_May_j18_ok s_ s_ r h
      | false =>
       replace h := ite_f hb_6 h
       refine Rc 9 [vn, vn, vn, vb false, vb false, vn, vn, vn, vb false] <| Rk <| Cf <| Runs.skip <| kS_nrm <| Runs.canon (segs_May_h18 s_) Cz ?_
       exact segs_May_j18_ok s_ s_ r h
     | false =>
      replace h := ite_f hb_5 h
      refine Rc 14 [vn, vn, vn, vb false, vb false, vn, vn, vn, vb false, vb false, vn, vn, vn, vb false] <| Rk <| Cf <| Runs.skip <| kS_nrm <| Runs.canon (segs_May_h18 s_) Cz ?_
      exact segs_May_j18_ok s_ s_ r h
theorem segs_May_L (s_ : SegDef) (r : Bool) (h : segs_May s_ = some r) : L 16 [.d (SegDef.d s_)] = some (.b r, [.d (SegDef.d s_)]) := by
 obtain ⟨p, ⟨hne, hf⟩, hr⟩ := segs_May_ok s_ r h
 obtain ⟨k, hk⟩ := run_of (F := F16) (args := [.d (SegDef.d s_)]) (ap := [.d (SegDef.d s_)]) (bx0 := updW (fun _ => none) []) rfl rfl (by kernel_rfl) ⟨p, ⟨hne, hf⟩, hr⟩
 exact lim_run (k := k) rfl hk
def omf_named_Q (m_ : Module) (n_ : Int) (r : Bool) (p : Out × St) : Prop := (∀ i, p.1 ≠ .exit i) ∧ finF F17 [.d (Module.d m_), .i n_] p.2 = some (.b r, [.d (Module.d m_), .i n_])
theorem omf_named_ok (m_ : Module) (n_ : Int) (r : Bool) (h : omf_named m_ n_ = some r) : Runs L F17.body ⟨tmOf [.d (Module.d m_), .i n_] 0, updW (fun _ => none) []⟩ (omf_named_Q m_ n_ r) := by
 unfold omf_named at h
 refine Sq <| Ro <| Rc 2 [⟨.ptr [2] 0 0, [([2], some (.cells [.d (.str m_.Name), .d (.sl (List.map Comment.d m_.Notes)), .d (.sl (List.map D.str m_.Names)), .d (.sl (List.map SegDef.d m_.Segs)), .d (.sl (List.map GrpDef.d m_.Groups)), .d (.sl (List.map Ext.d m_.Exts)), .d (.sl (List.map Pub.d m_.Pubs)), .d (.sl (List.map Data.d m_.Datas)), .b m_.Main, .b m_.Is, .i m_.Start.At, .i m_.Start.Loc, .b m_.Start.Self, .i m_.Start.Frame, .i m_.Start.FrameN, .i m_.Start.Target, .i m_.Start.N, .w m_.Start.Disp] 0))]⟩, vb false] <| Rk <| Sq <| Ro <| Rc 3 [vi n_, vb (decide (n_ ≥ 0)), vb (decide (n_ ≥ 0))] ?_
 cases hb_1 : ((decide (n_ ≥ 0)) : Bool) with
 | true =>
  replace h := ite_t hb_1 h
  refine Rc 3 [vi n_, vp [2] 0 2, ⟨.d (.sl (List.map D.str m_.Names)), []⟩] <| Rt (some 11) .lenL [] none [.d (.sl (List.map D.str m_.Names))] (.i (m_.Names.length : Int)) [] (cut_len _) <| Rc 3 [vb (decide (n_ ≤ (m_.Names.length : Int))), vb (decide (n_ ≤ (m_.Names.length : Int))), vb (decide (n_ ≤ (m_.Names.length : Int)))] <| Rk <| Runs.ret ?_
  cases h
  exact Fq
 | false =>
  replace h := ite_f hb_1 h
  refine Rc 7 [vn, vn, vn, vn, vn, vb false, vb false] <| Rk <| Runs.ret ?_
  cases h
  exact Fq
theorem omf_named_L (m_ : Module) (n_ : Int) (r : Bool) (h : omf_named m_ n_ = some r) : L 17 [.d (Module.d m_), .i n_] = some (.b r, [.d (Module.d m_), .i n_]) := by
 obtain ⟨p, ⟨hne, hf⟩, hr⟩ := omf_named_ok m_ n_ r h
 obtain ⟨k, hk⟩ := run_of (F := F17) (args := [.d (Module.d m_), .i n_]) (ap := [.d (Module.d m_), .i n_]) (bx0 := updW (fun _ => none) []) rfl rfl (by kernel_rfl) ⟨p, ⟨hne, hf⟩, hr⟩
 exact lim_run (k := k) rfl hk
def omf_in_Q (n_ : Int) (many_ : Int) (r : Bool) (p : Out × St) : Prop := (∀ i, p.1 ≠ .exit i) ∧ finF F18 [.i n_, .i many_] p.2 = some (.b r, [.i n_, .i many_])
theorem omf_in_ok (n_ : Int) (many_ : Int) (r : Bool) (h : omf_in n_ many_ = some r) : Runs L F18.body ⟨tmOf [.i n_, .i many_] 0, updW (fun _ => none) []⟩ (omf_in_Q n_ many_ r) := by
 unfold omf_in at h
 refine Sq <| Ro <| Rc 1 [vb false] <| Rk <| Sq <| Ro <| Rc 3 [vi n_, vb (decide (n_ ≥ 1)), vb (decide (n_ ≥ 1))] ?_
 cases hb_1 : ((decide (n_ ≥ 1)) : Bool) with
 | true =>
  replace h := ite_t hb_1 h
  refine Rc 5 [vi n_, vi many_, vb (decide (n_ ≤ many_)), vb (decide (n_ ≤ many_)), vb (decide (n_ ≤ many_))] <| Rk <| Runs.ret ?_
  cases h
  exact Fq
 | false =>
  replace h := ite_f hb_1 h
  refine Rc 5 [vn, vn, vn, vb false, vb false] <| Rk <| Runs.ret ?_
  cases h
  exact Fq
theorem omf_in_L (n_ : Int) (many_ : Int) (r : Bool) (h : omf_in n_ many_ = some r) : L 18 [.i n_, .i many_] = some (.b r, [.i n_, .i many_]) := by
 obtain ⟨p, ⟨hne, hf⟩, hr⟩ := omf_in_ok n_ many_ r h
 obtain ⟨k, hk⟩ := run_of (F := F18) (args := [.i n_, .i many_]) (ap := [.i n_, .i many_]) (bx0 := updW (fun _ => none) []) rfl rfl (by kernel_rfl) ⟨p, ⟨hne, hf⟩, hr⟩
 exact lim_run (k := k) rfl hk
def omf_way_Q (m_ : Module) (by_ : Int) (n_ : Int) (r : Bool) (p : Out × St) : Prop := (∀ i, p.1 ≠ .exit i) ∧ finF F67 [.d (Module.d m_), .i by_, .i n_] p.2 = some (.b r, [.d (Module.d m_), .i by_, .i n_])
theorem omf_way_ok (m_ : Module) (by_ : Int) (n_ : Int) (r : Bool) (h : omf_way m_ by_ n_ = some r) : Runs L F67.body ⟨tmOf [.d (Module.d m_), .i by_, .i n_] 0, updW (fun _ => none) []⟩ (omf_way_Q m_ by_ n_ r) := by
 unfold omf_way at h
 refine Sq <| Ro <| Rc 2 [⟨.ptr [3] 0 0, [([3], some (.cells [.d (.str m_.Name), .d (.sl (List.map Comment.d m_.Notes)), .d (.sl (List.map D.str m_.Names)), .d (.sl (List.map SegDef.d m_.Segs)), .d (.sl (List.map GrpDef.d m_.Groups)), .d (.sl (List.map Ext.d m_.Exts)), .d (.sl (List.map Pub.d m_.Pubs)), .d (.sl (List.map Data.d m_.Datas)), .b m_.Main, .b m_.Is, .i m_.Start.At, .i m_.Start.Loc, .b m_.Start.Self, .i m_.Start.Frame, .i m_.Start.FrameN, .i m_.Start.Target, .i m_.Start.N, .w m_.Start.Disp] 0))]⟩, vb false] <| Rk <| Sq <| Sq <| Ro <| Rc 1 [vi by_] <| Rk <| Runs.block <| Sq <| Ro <| Rc 2 [vb (by_ == 0), vb (by_ == 0)] <| Rk ?_
 cases hb_1 : ((by_ == 0) : Bool) with
 | true =>
  replace h := ite_t hb_1 h
  refine Ct <| Sq <| Ro <| Rc 3 [vi n_, vp [3] 0 3, ⟨.d (.sl (List.map SegDef.d m_.Segs)), []⟩] <| Rt (some 13) .lenL [] none [.d (.sl (List.map SegDef.d m_.Segs))] (.i (m_.Segs.length : Int)) [] (cut_len _) ?_
  obtain ⟨r_1, hr_1, h⟩ := bind_s h
  have hc_1 := omf_in_L n_ (m_.Segs.length : Int) r_1 hr_1
  refine Rt (some 14) (.callf 18) [] none [.i n_, .i (m_.Segs.length : Int)] (.b r_1) [] (cc hc_1) <| Rc 1 [vb r_1] <| Rk <| Runs.ret <| kB_ret <| kS_ret ?_
  cases h
  exact Fq
 | false =>
  replace h := ite_f hb_1 h
  refine Cf <| Sq <| Ro <| Rc 2 [vb (by_ == 1), vb (by_ == 1)] <| Rk ?_
  cases hb_2 : ((by_ == 1) : Bool) with
  | true =>
   replace h := ite_t hb_2 h
   refine Ct <| Sq <| Ro <| Rc 3 [vi n_, vp [3] 0 4, ⟨.d (.sl (List.map GrpDef.d m_.Groups)), []⟩] <| Rt (some 20) .lenL [] none [.d (.sl (List.map GrpDef.d m_.Groups))] (.i (m_.Groups.length : Int)) [] (cut_len _) ?_
   obtain ⟨r_2, hr_2, h⟩ := bind_s h
   have hc_2 := omf_in_L n_ (m_.Groups.length : Int) r_2 hr_2
   refine Rt (some 21) (.callf 18) [] none [.i n_, .i (m_.Groups.length : Int)] (.b r_2) [] (cc hc_2) <| Rc 1 [vb r_2] <| Rk <| Runs.ret <| kB_ret <| kS_ret ?_
   cases h
   exact Fq
  | false =>
   replace h := ite_f hb_2 h
   refine Cf <| Sq <| Ro <| Rc 2 [vb (by_ == 2), vb (by_ == 2)] <| Rk ?_
   cases hb_3 : ((by_ == 2) : Bool) with
   | true =>
    replace h := ite_t hb_3 h
    refine Ct <| Sq <| Ro <| Rc 3 [vi n_, vp [3] 0 5, ⟨.d (.sl (List.map Ext.d m_.Exts)), []⟩] <| Rt (some 27) .lenL [] none [.d (.sl (List.map Ext.d m_.Exts))] (.i (m_.Exts.length : Int)) [] (cut_len _) ?_
    obtain ⟨r_3, hr_3, h⟩ := bind_s h
    have hc_3 := omf_in_L n_ (m_.Exts.length : Int) r_3 hr_3
    refine Rt (some 28) (.callf 18) [] none [.i n_, .i (m_.Exts.length : Int)] (.b r_3) [] (cc hc_3) <| Rc 1 [vb r_3] <| Rk <| Runs.ret <| kB_ret <| kS_ret ?_
    cases h
    exact Fq
   | false =>
    replace h := ite_f hb_3 h
    refine Cf <| Runs.skip <| kB_nrm <| kS_nrm <| Sq <| Ro <| Rc 1 [vb true] <| Rk <| Runs.ret ?_
    cases h
    exact Fq
theorem omf_way_L (m_ : Module) (by_ : Int) (n_ : Int) (r : Bool) (h : omf_way m_ by_ n_ = some r) : L 67 [.d (Module.d m_), .i by_, .i n_] = some (.b r, [.d (Module.d m_), .i by_, .i n_]) := by
 obtain ⟨p, ⟨hne, hf⟩, hr⟩ := omf_way_ok m_ by_ n_ r h
 obtain ⟨k, hk⟩ := run_of (F := F67) (args := [.d (Module.d m_), .i by_, .i n_]) (ap := [.d (Module.d m_), .i by_, .i n_]) (bx0 := updW (fun _ => none) []) rfl rfl (by kernel_rfl) ⟨p, ⟨hne, hf⟩, hr⟩
 exact lim_run (k := k) rfl hk
def omf_fixes_h6 (m2 : Module) (t7 : (List Fixup)) (t8 : Int) (t9 : Int) : St := ⟨tab [(2, .ptr [2] 0 0), (7, .d (.sl (List.map Fixup.d t7))), (8, .i t8), (9, .i t9)], tabB [([2], some (.cells [.d (.str m2.Name), .d (.sl (List.map Comment.d m2.Notes)), .d (.sl (List.map D.str m2.Names)), .d (.sl (List.map SegDef.d m2.Segs)), .d (.sl (List.map GrpDef.d m2.Groups)), .d (.sl (List.map Ext.d m2.Exts)), .d (.sl (List.map Pub.d m2.Pubs)), .d (.sl (List.map Data.d m2.Datas)), .b m2.Main, .b m2.Is, .i m2.Start.At, .i m2.Start.Loc, .b m2.Start.Self, .i m2.Start.Frame, .i m2.Start.FrameN, .i m2.Start.Target, .i m2.Start.N, .w m2.Start.Disp] 0))]⟩
def omf_fixes_h25  : St := ⟨tab [], tabB []⟩
def omf_fixes_Q (m_ : Module) (l_ : (List Fixup)) (r : Bool) (p : Out × St) : Prop := (∀ i, p.1 ≠ .exit i) ∧ finF F37 [.d (Module.d m_), .d (.sl (List.map Fixup.d l_))] p.2 = some (.b r, [.d (Module.d m_), .d (.sl (List.map Fixup.d l_))])
def omf_fixes_P6 (m_ : Module) (l_ : (List Fixup)) (m2 : Module) (t7 : (List Fixup)) (t8 : Int) (e : (Bool ⊕ Unit)) (p : Out × St) : Prop := match e with
 | .inl x => p.1 = .ret ∧ finF F37 [.d (Module.d m_), .d (.sl (List.map Fixup.d l_))] p.2 = some (.b x, [.d (Module.d m_), .d (.sl (List.map Fixup.d l_))])
 | .inr x => p.1 = .exit 0 ∧ ∃ g : Unit, Canon [] [] [] p.2 (omf_fixes_h25)
theorem omf_fixes_l6_ok (m_ : Module) (l_ : (List Fixup)) (m2 : Module) (t7 : (List Fixup)) (t8 : Int) (t9 : Int) (r : (Lp Int (Bool ⊕ Unit))) (h : omf_fixes_l6 m2 t7 t8 t9 = some r) : Runs L F37l6 (omf_fixes_h6 m2 t7 t8 t9) (LQ [] [2, 7, 8, 9] [[2]] (fun (x : Int) (g : Unit) => omf_fixes_h6 m2 t7 t8 x) (omf_fixes_P6 m_ l_ m2 t7 t8) r) := by
 unfold omf_fixes_l6 at h
 refine Sq <| Ro <| Rc 1 [vb (decide (t9 < t8))] <| Rk <| Sq ?_
 cases hb_1 : ((decide (t9 < t8)) : Bool) with
 | true =>
  replace h := ite_t hb_1 h
  refine Ct <| Runs.skip <| kS_nrm <| Sq <| Runs.block <| Sq <| Ro ?_
  obtain ⟨z_1, hz_1, h⟩ := bind_s h
  refine Rt (some 11) (.iaddrS 8) [] none [.d (.sl (List.map Fixup.d t7)), .i t9] (.elt (Fixup.d z_1) 0) [] (cut_at hz_1 (fun _ => rfl)) <| Rc 3 [⟨.d (Fixup.d z_1), []⟩, ⟨.ptr [6] 0 0, [([6], some (.cells [.i 0, .i 0, .b false, .i 0, .i 0, .i 0, .i 0, .w 0] 0))]⟩, ⟨.tup [], [([6], some (.cells [.i z_1.At, .i z_1.Loc, .b z_1.Self, .i z_1.Frame, .i z_1.FrameN, .i z_1.Target, .i z_1.N, .w z_1.Disp] 0))]⟩] <| Rk <| Sq <| Ro <| Rc 5 [⟨.d (Module.d m2), []⟩, vp [6] 0 3, vi z_1.Frame, vp [6] 0 4, vi z_1.FrameN] ?_
  obtain ⟨r_1, hr_1, h⟩ := bind_s h
  have hc_1 := omf_way_L m2 z_1.Frame z_1.FrameN r_1 hr_1
  refine Rt (some 18) (.callf 67) [] none [.d (Module.d m2), .i z_1.Frame, .i z_1.FrameN] (.b r_1) [] (cc hc_1) <| Rc 2 [vb (!r_1), vb (!r_1)] ?_
  cases hb_2 : ((!r_1) : Bool) with
  | true =>
   replace h := ite_t hb_2 h
   refine Rc 8 [vn, vn, vn, vn, vn, vn, vn, vb true] <| Rk <| Ct <| Sq <| Ro <| Rc 1 [vb false] <| Rk <| Runs.ret <| kB_ret <| kS_ret ?_
   obtain rfl := sj h
   exact ⟨nofun, rfl, (by kernel_rfl)⟩
  | false =>
   replace h := ite_f hb_2 h
   refine Rc 5 [⟨.d (Module.d m2), []⟩, vp [6] 0 5, vi z_1.Target, vp [6] 0 6, vi z_1.N] ?_
   obtain ⟨r_2, hr_2, h⟩ := bind_s h
   have hc_2 := omf_way_L m2 z_1.Target z_1.N r_2 hr_2
   refine Rt (some 26) (.callf 67) [] none [.d (Module.d m2), .i z_1.Target, .i z_1.N] (.b r_2) [] (cc hc_2) <| Rc 2 [vb (!r_2), vb (!r_2)] <| Rk ?_
   cases hb_3 : ((!r_2) : Bool) with
   | true =>
    replace h := ite_t hb_3 h
    refine Ct <| Sq <| Ro <| Rc 1 [vb false] <| Rk <| Runs.ret <| kB_ret <| kS_ret ?_
    obtain rfl := sj h
    exact ⟨nofun, rfl, (by kernel_rfl)⟩
   | false =>
    replace h := ite_f hb_3 h
    refine Cf <| Runs.skip <| kB_nrm <| kS_nrm <| Ro <| Rc 2 [vi (IntKind.wrap .i64 (t9 + 1)), vi (IntKind.wrap .i64 (t9 + 1))] <| Rd ?_
    obtain rfl := sj h
    exact ⟨rfl, (), Cz⟩
 | false =>
  replace h := ite_f hb_1 h
  refine Cf <| Runs.exit <| kS_exit ?_
  obtain rfl := sj h
  exact ⟨nofun, rfl, (), Cz⟩
theorem omf_fixes_ok (m_ : Module) (l_ : (List Fixup)) (r : Bool) (h : omf_fixes m_ l_ = some r) : Runs L F37.body ⟨tmOf [.d (Module.d m_), .d (.sl (List.map Fixup.d l_))] 0, updW (fun _ => none) []⟩ (omf_fixes_Q m_ l_ r) := by
 unfold omf_fixes at h
 refine Sq <| Ro <| Rc 2 [⟨.ptr [2] 0 0, [([2], some (.cells [.d (.str m_.Name), .d (.sl (List.map Comment.d m_.Notes)), .d (.sl (List.map D.str m_.Names)), .d (.sl (List.map SegDef.d m_.Segs)), .d (.sl (List.map GrpDef.d m_.Groups)), .d (.sl (List.map Ext.d m_.Exts)), .d (.sl (List.map Pub.d m_.Pubs)), .d (.sl (List.map Data.d m_.Datas)), .b m_.Main, .b m_.Is, .i m_.Start.At, .i m_.Start.Loc, .b m_.Start.Self, .i m_.Start.Frame, .i m_.Start.FrameN, .i m_.Start.Target, .i m_.Start.N, .w m_.Start.Disp] 0))]⟩, vb false] <| Rk <| Sq <| Sq <| Ro <| Rc 1 [⟨.d (.sl (List.map Fixup.d l_)), []⟩] <| Rt (some 8) .lenL [] none [.d (.sl (List.map Fixup.d l_))] (.i (l_.length : Int)) [] (cut_len _) <| Rc 1 [vi 0] <| Rk <| Runs.block ?_
 obtain ⟨e_1, he_1, h⟩ := bind_s h
 refine Runs.loop (fun x : Int => omf_fixes_l6 m_ l_ (l_.length : Int) x) (fun (x : Int) (g : Unit) => omf_fixes_h6 m_ l_ (l_.length : Int) x) (omf_fixes_P6 m_ l_ m_ l_ (l_.length : Int)) (fun x g r hr => omf_fixes_l6_ok m_ l_ m_ l_ (l_.length : Int) x  r hr) () he_1 Cz ?_
 rintro ⟨o, s⟩ hp
 cases e_1 with
 | inl e_2 =>
  obtain ⟨ho, hf⟩ := hp
  have ho' : o = .ret := ho
  subst ho'
  refine kB_ret <| kS_ret ?_
  obtain rfl := sj h
  exact ⟨Out.ret_ne, hf⟩
 | inr e_3 =>
  obtain ⟨ho, g_1, hk_1⟩ := hp
  have ho' : o = .exit 0 := ho
  subst ho'
  refine kB_hit <| kS_nrm <| Runs.canon _ hk_1 <| Sq <| Ro <| Rc 1 [vb true] <| Rk <| Runs.ret ?_
  cases h
  exact Fq
theorem omf_fixes_L (m_ : Module) (l_ : (List Fixup)) (r : Bool) (h : omf_fixes m_ l_ = some r) : L 37 [.d (Module.d m_), .d (.sl (List.map Fixup.d l_))] = some (.b r, [.d (Module.d m_), .d (.sl (List.map Fixup.d l_))]) := by
 obtain ⟨p, ⟨hne, hf⟩, hr⟩ := omf_fixes_ok m_ l_ r h
 obtain ⟨k, hk⟩ := run_of (F := F37) (args := [.d (Module.d m_), .d (.sl (List.map Fixup.d l_))]) (ap := [.d (Module.d m_), .d (.sl (List.map Fixup.d l_))]) (bx0 := updW (fun _ => none) []) rfl rfl (by kernel_rfl) ⟨p, ⟨hne, hf⟩, hr⟩
 exact lim_run (k := k) rfl hk
def fixup_Size_Q (loc_ : Int) (r : Int) (p : Out × St) : Prop := (∀ i, p.1 ≠ .exit i) ∧ finF F68 [.i loc_] p.2 = some (.i r, [.i loc_])
theorem fixup_Size_ok (loc_ : Int) (r : Int) (h : fixup_Size loc_ = some r) : Runs L F68.body ⟨tmOf [.i loc_] 0, updW (fun _ => none) []⟩ (fixup_Size_Q loc_ r) := by
 unfold fixup_Size at h
 refine Sq <| Ro <| Rc 1 [vi 0] <| Rk <| Sq <| Sq <| Ro <| Rc 1 [vi loc_] <| Rk <| Runs.block <| Sq <| Sq <| Ro <| Rc 2 [vb (loc_ == 0), vb (loc_ == 0)] <| Rk ?_
 cases hb_1 : ((loc_ == 0) : Bool) with
 | true =>
  replace h := ite_t hb_1 h
  refine Ct <| Runs.skip <| kS_nrm <| Ct <| Sq <| Ro <| Rc 1 [vi 1] <| Rk <| Runs.ret <| kB_ret <| kS_ret ?_
  cases h
  exact Fq
 | false =>
  replace h := ite_f hb_1 h
  refine Cf <| Ro <| Rc 2 [vb (loc_ == 4), vb (loc_ == 4)] <| Rk ?_
  cases hb_2 : ((loc_ == 4) : Bool) with
  | true =>
   replace h := ite_t hb_2 h
   refine Ct <| Sq <| Ro <| Rc 1 [vi 1] <| Rk <| Runs.ret <| kB_ret <| kS_ret ?_
   cases h
   exact Fq
  | false =>
   replace h := ite_f hb_2 h
   refine Cf <| Sq <| Ro <| Rc 2 [vb (loc_ == 3), vb (loc_ == 3)] <| Rk ?_
   cases hb_3 : ((loc_ == 3) : Bool) with
   | true =>
    replace h := ite_t hb_3 h
    refine Ct <| Sq <| Ro <| Rc 1 [vi 4] <| Rk <| Runs.ret <| kB_ret <| kS_ret ?_
    cases h
    exact Fq
   | false =>
    replace h := ite_f hb_3 h
    refine Cf <| Runs.skip <| kB_nrm <| kS_nrm <| Sq <| Ro <| Rc 1 [vi 2] <| Rk <| Runs.ret ?_
    cases h
    exact Fq
theorem fixup_Size_L (loc_ : Int) (r : Int) (h : fixup_Size loc_ = some r) : L 68 [.i loc_] = some (.i r, [.i loc_]) := by
 obtain ⟨p, ⟨hne, hf⟩, hr⟩ := fixup_Size_ok loc_ r h
 obtain ⟨k, hk⟩ := run_of (F := F68) (args := [.i loc_]) (ap := [.i loc_]) (bx0 := updW (fun _ => none) []) rfl rfl (by kernel_rfl) ⟨p, ⟨hne, hf⟩, hr⟩
 exact lim_run (k := k) rfl hk
def fixup_by_Q (n_ : Int) (r : Bool) (p : Out × St) : Prop := (∀ i, p.1 ≠ .exit i) ∧ finF F69 [.i n_] p.2 = some (.b r, [.i n_])
theorem fixup_by_ok (n_ : Int) (r : Bool) (h : fixup_by n_ = some r) : Runs L F69.body ⟨tmOf [.i n_] 0, updW (fun _ => none) []⟩ (fixup_by_Q n_ r) := by
 unfold fixup_by at h
 refine Sq <| Ro <| Rc 1 [vb false] <| Rk <| Sq <| Ro <| Rc 3 [vi n_, vb (decide (n_ ≥ 0)), vb (decide (n_ ≥ 0))] ?_
 cases hb_1 : ((decide (n_ ≥ 0)) : Bool) with
 | true =>
  replace h := ite_t hb_1 h
  refine Rc 4 [vi n_, vb (decide (n_ ≤ 2)), vb (decide (n_ ≤ 2)), vb (decide (n_ ≤ 2))] <| Rk <| Runs.ret ?_
  cases h
  exact Fq
 | false =>
  replace h := ite_f hb_1 h
  refine Rc 4 [vn, vn, vb false, vb false] <| Rk <| Runs.ret ?_
  cases h
  exact Fq
theorem fixup_by_L (n_ : Int) (r : Bool) (h : fixup_by n_ = some r) : L 69 [.i n_] = some (.b r, [.i n_]) := by
 obtain ⟨p, ⟨hne, hf⟩, hr⟩ := fixup_by_ok n_ r h
 obtain ⟨k, hk⟩ := run_of (F := F69) (args := [.i n_]) (ap := [.i n_]) (bx0 := updW (fun _ => none) []) rfl rfl (by kernel_rfl) ⟨p, ⟨hne, hf⟩, hr⟩
 exact lim_run (k := k) rfl hk
def fixup_May_h18 (f2 : Fixup) : St := ⟨tab [(2, .ptr [2] 0 0)], tabB [([2], some (.cells [.i f2.At, .i f2.Loc, .b f2.Self, .i f2.Frame, .i f2.FrameN, .i f2.Target, .i f2.N, .w f2.Disp] 0))]⟩
def fixup_May_Q (f_ : Fixup) (n_ : Int) (r : Bool) (p : Out × St) : Prop := (∀ i, p.1 ≠ .exit i) ∧ finF F38 [.d (Fixup.d f_), .i n_] p.2 = some (.b r, [.d (Fixup.d f_), .i n_])
theorem fixup_May_j18_ok (f_ : Fixup) (n_ : Int) (f2 : Fixup) (r : Bool) (h : fixup_May_j18 f2 = some r) : Runs L F38b18 (fixup_May_h18 f2) (fixup_May_Q f_ n_ r) := by
 unfold fixup_May_j18 at h
 refine Sq <| Sq <| Ro <| Rc 2 [vp [2] 0 5, vi f2.Target] ?_
 obtain ⟨r_2, hr_2, h⟩ := bind_s h
 have hc_2 := fixup_by_L f2.Target r_2 hr_2
 refine Rt (some 52) (.callf 69) [] none [.i f2.Target] (.b r_2) [] (cc hc_2) <| Rc 2 [vb (!r_2), vb (!r_2)] ?_
 cases hb_10 : ((!r_2) : Bool) with
 | true =>
  replace h := ite_t hb_10 h
  refine Rc 9 [vn, vn, vn, vb true, vb true, vn, vn, vn, vb true] <| Rk <| Ct <| Sq <| Ro <| Rc 1 [vb false] <| Rk <| Runs.ret <| kS_ret ?_
  cases h
  exact Fq
 | false =>
  replace h := ite_f hb_10 h
  refine Rc 5 [vp [2] 0 6, vi f2.N, vb (decide (f2.N < 1)), vb (decide (f2.N < 1)), vb (decide (f2.N < 1))] ?_
  cases hb_11 : ((decide (f2.N < 1)) : Bool) with
  | true =>
   replace h := ite_t hb_11 h
   refine Rc 4 [vn, vn, vn, vb true] <| Rk <| Ct <| Sq <| Ro <| Rc 1 [vb false] <| Rk <| Runs.ret <| kS_ret ?_
   cases h
   exact Fq
  | false =>
   replace h := ite_f hb_11 h
   refine Rc 4 [vp [2] 0 6, vi f2.N, vb (decide (f2.N > 32767)), vb (decide (f2.N > 32767))] <| Rk ?_
   cases hb_12 : ((decide (f2.N > 32767)) : Bool) with
   | true =>
    replace h := ite_t hb_12 h
    refine Ct <| Sq <| Ro <| Rc 1 [vb false] <| Rk <| Runs.ret <| kS_ret ?_
    cases h
    exact Fq
   | false =>
    replace h := ite_f hb_12 h
    refine Cf <| Runs.skip <| kS_nrm <| Sq <| Sq <| Ro <| Rc 2 [vp [2] 0 3, vi f2.Frame] ?_
    obtain ⟨r_3, hr_3, h⟩ := bind_s h
    have hc_3 := fixup_by_L f2.Frame r_3 hr_3
    refine Rt (some 66) (.callf 69) [] none [.i f2.Frame] (.b r_3) [] (cc hc_3) <| Rk ?_
    cases hb_13 : (r_3 : Bool) with
    | true =>
     replace h := ite_t hb_13 h
     refine Ct <| Sq <| Ro <| Rc 4 [vp [2] 0 4, vi f2.FrameN, vb (decide (f2.FrameN ≥ 1)), vb (decide (f2.FrameN ≥ 1))] ?_
     cases hb_14 : ((decide (f2.FrameN ≥ 1)) : Bool) with
     | true =>
      replace h := ite_t hb_14 h
      refine Rc 5 [vp [2] 0 4, vi f2.FrameN, vb (decide (f2.FrameN ≤ 32767)), vb (decide (f2.FrameN ≤ 32767)), vb (decide (f2.FrameN ≤ 32767))] <| Rk <| Runs.ret <| kS_ret ?_
      cases h
      exact Fq
     | false =>
      replace h := ite_f hb_14 h
      refine Rc 5 [vn, vn, vn, vb false, vb false] <| Rk <| Runs.ret <| kS_ret ?_
      cases h
      exact Fq
    | false =>
     replace h := ite_f hb_13 h
     refine Cf <| Runs.skip <| kS_nrm <| Sq <| Ro <| Rc 4 [vp [2] 0 3, vi f2.Frame, vb (f2.Frame == 4), vb (f2.Frame == 4)] ?_
     cases hb_15 : ((f2.Frame == 4) : Bool) with
     | true =>
      replace h := ite_t hb_15 h
      refine Rc 10 [vn, vn, vn, vb true, vb true, vp [2] 0 4, vi f2.FrameN, vb (f2.FrameN == 0), vb (f2.FrameN == 0), vb (f2.FrameN == 0)] <| Rk <| Runs.ret ?_
      cases h
      exact Fq
     | false =>
      replace h := ite_f hb_15 h
      refine Rc 5 [vp [2] 0 3, vi f2.Frame, vb (f2.Frame == 5), vb (f2.Frame == 5), vb (f2.Frame == 5)] ?_
      cases hb_16 : ((f2.Frame == 5) : Bool) with
      | true =>
       replace h := ite_t hb_16 h
       refine Rc 5 [vp [2] 0 4, vi f2.FrameN, vb (f2.FrameN == 0), vb (f2.FrameN == 0), vb (f2.FrameN == 0)] <| Rk <| Runs.ret ?_
       cases h
       exact Fq
      | false =>
       replace h := ite_f hb_16 h
       refine Rc 5 [vn, vn, vn, vb false, vb false] <| Rk <| Runs.ret ?_
       cases h
       exact Fq
theorem fixup_May_ok (f_ : Fixup) (n_ : Int) (r : Bool) (h : fixup_May f_ n_ = some r) : Runs L F38.body ⟨tmOf [.d (Fixup.d f_), .i n_] 0, updW (fun _ => none) []⟩ (fixup_May_Q f_ n_ r) := by
 unfold fixup_May at h
 refine Sq <| Ro <| Rc 2 [⟨.ptr [2] 0 0, [([2], some (.cells [.i f_.At, .i f_.Loc, .b f_.Self, .i f_.Frame, .i f_.FrameN, .i f_.Target, .i f_.N, .w f_.Disp] 0))]⟩, vb false] <| Rk <| Sq <| Sq <| Ro <| Rc 4 [vp [2] 0 1, vi f_.Loc, vb (decide (f_.Loc < 0)), vb (decide (f_.Loc < 0))] ?_
 cases hb_1 : ((decide (f_.Loc < 0)) : Bool) with
 | true =>
  replace h := ite_t hb_1 h
  refine Rc 24 [vn, vn, vn, vb true, vb true, vn, vn, vn, vb true, vb true, vn, vn, vn, vb true, vb true, vn, vn, vn, vn, vn, vn, vn, vn, vb true] <| Rk <| Ct <| Sq <| Ro <| Rc 1 [vb false] <| Rk <| Runs.ret <| kS_ret ?_
  cases h
  exact Fq
 | false =>
  replace h := ite_f hb_1 h
  refine Rc 5 [vp [2] 0 1, vi f_.Loc, vb (decide (f_.Loc > 4)), vb (decide (f_.Loc > 4)), vb (decide (f_.Loc > 4))] ?_
  cases hb_2 : ((decide (f_.Loc > 4)) : Bool) with
  | true =>
   replace h := ite_t hb_2 h
   refine Rc 19 [vn, vn, vn, vb true, vb true, vn, vn, vn, vb true, vb true, vn, vn, vn, vn, vn, vn, vn, vn, vb true] <| Rk <| Ct <| Sq <| Ro <| Rc 1 [vb false] <| Rk <| Runs.ret <| kS_ret ?_
   cases h
   exact Fq
  | false =>
   replace h := ite_f hb_2 h
   refine Rc 5 [vp [2] 0 0, vi f_.At, vb (decide (f_.At < 0)), vb (decide (f_.At < 0)), vb (decide (f_.At < 0))] ?_
   cases hb_3 : ((decide (f_.At < 0)) : Bool) with
   | true =>
    replace h := ite_t hb_3 h
    refine Rc 14 [vn, vn, vn, vb true, vb true, vn, vn, vn, vn, vn, vn, vn, vn, vb true] <| Rk <| Ct <| Sq <| Ro <| Rc 1 [vb false] <| Rk <| Runs.ret <| kS_ret ?_
    cases h
    exact Fq
   | false =>
    replace h := ite_f hb_3 h
    refine Rc 5 [vp [2] 0 0, vi f_.At, vb (decide (f_.At ≥ 1024)), vb (decide (f_.At ≥ 1024)), vb (decide (f_.At ≥ 1024))] ?_
    cases hb_4 : ((decide (f_.At ≥ 1024)) : Bool) with
    | true =>
     replace h := ite_t hb_4 h
     refine Rc 9 [vn, vn, vn, vn, vn, vn, vn, vn, vb true] <| Rk <| Ct <| Sq <| Ro <| Rc 1 [vb false] <| Rk <| Runs.ret <| kS_ret ?_
     cases h
     exact Fq
    | false =>
     replace h := ite_f hb_4 h
     refine Rc 5 [vp [2] 0 0, vi f_.At, vi n_, vp [2] 0 1, vi f_.Loc] ?_
     obtain ⟨r_1, hr_1, h⟩ := bind_s h
     have hc_1 := fixup_Size_L f_.Loc r_1 hr_1
     refine Rt (some 29) (.callf 68) [] (some []) [.i f_.Loc] (.i r_1) [] (cc hc_1) <| Rc 3 [vi (IntKind.wrap .i64 (n_ - r_1)), vb (decide (f_.At > (IntKind.wrap .i64 (n_ - r_1)))), vb (decide (f_.At > (IntKind.wrap .i64 (n_ - r_1))))] <| Rk ?_
     cases hb_5 : ((decide (f_.At > (IntKind.wrap .i64 (n_ - r_1)))) : Bool) with
     | true =>
      replace h := ite_t hb_5 h
      refine Ct <| Sq <| Ro <| Rc 1 [vb false] <| Rk <| Runs.ret <| kS_ret ?_
      cases h
      exact Fq
     | false =>
      replace h := ite_f hb_5 h
      refine Cf <| Runs.skip <| kS_nrm <| Sq <| Sq <| Ro <| Rc 3 [vp [2] 0 2, vb f_.Self, vb f_.Self] ?_
      cases hb_6 : (f_.Self : Bool) with
      | true =>
       replace h := ite_t hb_6 h
       refine Rc 4 [vp [2] 0 1, vi f_.Loc, vb (f_.Loc == 2), vb (f_.Loc == 2)] ?_
       cases hb_7 : ((f_.Loc == 2) : Bool) with
       | true =>
        replace h := ite_t hb_7 h
        refine Rc 10 [vn, vn, vn, vb true, vb true, vn, vn, vn, vb true, vb true] <| Rk <| Ct <| Sq <| Ro <| Rc 1 [vb false] <| Rk <| Runs.ret <| kS_ret ?_
        cases h
        exact Fq
       | false =>
        replace h := ite_f hb_7 h
        refine Rc 5 [vp [2] 0 1, vi f_.Loc, vb (f_.Loc == 3), vb (f_.Loc == 3), vb (f_.Loc == 3)] ?_
        cases hb_8 : ((f_.Loc == 3) : Bool) with
        | true =>
         replace h := ite_t hb_8 h
         refine Rc 5 [vn, vn, vn, vb true, vb true] <| Rk <| Ct <| Sq <| Ro <| Rc 1 [vb false] <| Rk <| Runs.ret <| kS_ret ?_
         cases h
         exact Fq
        | false =>
         replace h := ite_f hb_8 h
         refine Rc 5 [vp [2] 0 1, vi f_.Loc, vb (f_.Loc == 4), vb (f_.Loc == 4), vb (f_.Loc == 4)] <| Rk ?_
         cases hb_9 : ((f_.Loc == 4) : Bool) with
         | true =>
          replace h := ite_t hb_9 h
          refine Ct <| Sq <| Ro <| Rc 1 [vb false] <| Rk <| Runs.ret <| kS_ret ?_
          cases h
          exact Fq
         | false =>
          replace h := ite_f hb_9 h
          refine Cf <| Runs.skip <| kS_nrm <| Runs.canon (fixup_May_h18 ({ f_ with Self := true } : Fixup)) Cz ?_
          exact fixup_May_j18_ok f_ n_ ({ f_ with Self := true } : Fixup) r h
      | false =>
       replace h := ite_f hb_6 h
       refine Rc 14 [vn, vn, vn, vn, vn, vn, vn, vn, vn, vn, vn, vn, vn, vb false] <| Rk <| Cf <| Runs.skip <| kS_nrm <| Runs.canon (fixup_May_h18 ({ f_ with Self := false } : Fixup)) Cz ?_
       exact fixup_May_j18_ok f_ n_ ({ f_ with Self := false } : Fixup) r h
theorem fixup_May_L (f_ : Fixup) (n_ : Int) (r : Bool) (h : fixup_May f_ n_ = some r) : L 38 [.d (Fixup.d f_), .i n_] = some (.b r, [.d (Fixup.d f_), .i n_]) := by
 obtain ⟨p, ⟨hne, hf⟩, hr⟩ := fixup_May_ok f_ n_ r h
 obtain ⟨k, hk⟩ := run_of (F := F38) (args := [.d (Fixup.d f_), .i n_]) (ap := [.d (Fixup.d f_), .i n_]) (bx0 := updW (fun _ => none) []) rfl rfl (by kernel_rfl) ⟨p, ⟨hne, hf⟩, hr⟩
 exact lim_run (k := k) rfl hk
def omf_rest_h6 (m1 : Module) (t8 : (List Data)) (t9 : Int) (t10 : Int) : St := ⟨tab [(1, .ptr [1] 0 0), (8, .d (.sl (List.map Data.d t8))), (9, .i t9), (10, .i t10)], tabB [([1], some (.cells [.d (.str m1.Name), .d (.sl (List.map Comment.d m1.Notes)), .d (.sl (List.map D.str m1.Names)), .d (.sl (List.map SegDef.d m1.Segs)), .d (.sl (List.map GrpDef.d m1.Groups)), .d (.sl (List.map Ext.d m1.Exts)), .d (.sl (List.map Pub.d m1.Pubs)), .d (.sl (List.map Data.d m1.Datas)), .b m1.Main, .b m1.Is, .i m1.Start.At, .i m1.Start.Loc, .b m1.Start.Self, .i m1.Start.Frame, .i m1.Start.FrameN, .i m1.Start.Target, .i m1.Start.N, .w m1.Start.Disp] 0))]⟩
def omf_rest_h36 (m1 : Module) (d4 : Data) (t8 : (List Data)) (t9 : Int) (t10 : Int) (t45 : (List Fixup)) (t46 : Int) (t47 : Int) : St := ⟨tab [(1, .ptr [1] 0 0), (4, .ptr [4] 0 0), (8, .d (.sl (List.map Data.d t8))), (9, .i t9), (10, .i t10), (45, .d (.sl (List.map Fixup.d t45))), (46, .i t46), (47, .i t47)], tabB [([1], some (.cells [.d (.str m1.Name), .d (.sl (List.map Comment.d m1.Notes)), .d (.sl (List.map D.str m1.Names)), .d (.sl (List.map SegDef.d m1.Segs)), .d (.sl (List.map GrpDef.d m1.Groups)), .d (.sl (List.map Ext.d m1.Exts)), .d (.sl (List.map Pub.d m1.Pubs)), .d (.sl (List.map Data.d m1.Datas)), .b m1.Main, .b m1.Is, .i m1.Start.At, .i m1.Start.Loc, .b m1.Start.Self, .i m1.Start.Frame, .i m1.Start.FrameN, .i m1.Start.Target, .i m1.Start.N, .w m1.Start.Disp] 0)), ([4], some (.cells [.i d4.Seg, .w d4.Off, .d (.sl (mY d4.Bytes)), .d (.sl (List.map Fixup.d d4.Fixups))] 0))]⟩
def omf_rest_h55 (m1 : Module) (t8 : (List Data)) (t9 : Int) (t10 : Int) : St := ⟨tab [(1, .ptr [1] 0 0), (8, .d (.sl (List.map Data.d t8))), (9, .i t9), (10, .i t10)], tabB [([1], some (.cells [.d (.str m1.Name), .d (.sl (List.map Comment.d m1.Notes)), .d (.sl (List.map D.str m1.Names)), .d (.sl (List.map SegDef.d m1.Segs)), .d (.sl (List.map GrpDef.d m1.Groups)), .d (.sl (List.map Ext.d m1.Exts)), .d (.sl (List.map Pub.d m1.Pubs)), .d (.sl (List.map Data.d m1.Datas)), .b m1.Main, .b m1.Is, .i m1.Start.At, .i m1.Start.Loc, .b m1.Start.Self, .i m1.Start.Frame, .i m1.Start.FrameN, .i m1.Start.Target, .i m1.Start.N, .w m1.Start.Disp] 0))]⟩
def omf_rest_h56 (m1 : Module) : St := ⟨tab [(1, .ptr [1] 0 0)], tabB [([1], some (.cells [.d (.str m1.Name), .d (.sl (List.map Comment.d m1.Notes)), .d (.sl (List.map D.str m1.Names)), .d (.sl (List.map SegDef.d m1.Segs)), .d (.sl (List.map GrpDef.d m1.Groups)), .d (.sl (List.map Ext.d m1.Exts)), .d (.sl (List.map Pub.d m1.Pubs)), .d (.sl (List.map Data.d m1.Datas)), .b m1.Main, .b m1.Is, .i m1.Start.At, .i m1.Start.Loc, .b m1.Start.Self, .i m1.Start.Frame, .i m1.Start.FrameN, .i m1.Start.Target, .i m1.Start.N, .w m1.Start.Disp] 0))]⟩
def omf_rest_h60 (m1 : Module) (t59 : Bool) : St := ⟨tab [(1, .ptr [1] 0 0), (59, .b t59)], tabB [([1], some (.cells [.d (.str m1.Name), .d (.sl (List.map Comment.d m1.Notes)), .d (.sl (List.map D.str m1.Names)), .d (.sl (List.map SegDef.d m1.Segs)), .d (.sl (List.map GrpDef.d m1.Groups)), .d (.sl (List.map Ext.d m1.Exts)), .d (.sl (List.map Pub.d m1.Pubs)), .d (.sl (List.map Data.d m1.Datas)), .b m1.Main, .b m1.Is, .i m1.Start.At, .i m1.Start.Loc, .b m1.Start.Self, .i m1.Start.Frame, .i m1.Start.FrameN, .i m1.Start.Target, .i m1.Start.N, .w m1.Start.Disp] 0))]⟩
def omf_rest_Q (m_ : Module) (r : Int) (p : Out × St) : Prop := (∀ i, p.1 ≠ .exit i) ∧ finF F19 [.d (Module.d m_)] p.2 = some (.i r, [.d (Module.d m_)])
def omf_rest_P36 (m_ : Module) (m1 : Module) (d4 : Data) (t8 : (List Data)) (t9 : Int) (t10 : Int) (t45 : (List Fixup)) (t46 : Int) (e : (Int ⊕ Unit)) (p : Out × St) : Prop := match e with
 | .inl x => p.1 = .ret ∧ finF F19 [.d (Module.d m_)] p.2 = some (.i x, [.d (Module.d m_)])
 | .inr x => p.1 = .exit 2 ∧ ∃ g : Unit, Canon [] [1, 8, 9, 10] [[1]] p.2 (omf_rest_h55 m1 t8 t9 t10)
def omf_rest_P6 (m_ : Module) (m1 : Module) (t8 : (List Data)) (t9 : Int) (e : (Int ⊕ Unit)) (p : Out × St) : Prop := match e with
 | .inl x => p.1 = .ret ∧ finF F19 [.d (Module.d m_)] p.2 = some (.i x, [.d (Module.d m_)])
 | .inr x => p.1 = .exit 0 ∧ ∃ g : Unit, Canon [] [1] [[1]] p.2 (omf_rest_h56 m1)
theorem omf_rest_l36_ok (m_ : Module) (m1 : Module) (d4 : Data) (t8 : (List Data)) (t9 : Int) (t10 : Int) (t45 : (List Fixup)) (t46 : Int) (t47 : Int) (r : (Lp Int (Int ⊕ Unit))) (h : omf_rest_l36 m1 d4 t8 t9 t10 t45 t46 t47 = some r) : Runs L F19l36 (omf_rest_h36 m1 d4 t8 t9 t10 t45 t46 t47) (LQ [] [1, 4, 8, 9, 10, 45, 46, 47] [[1], [4]] (fun (x : Int) (g : Unit) => omf_rest_h36 m1 d4 t8 t9 t10 t45 t46 x) (omf_rest_P36 m_ m1 d4 t8 t9 t10 t45 t46) r) := by
 unfold omf_rest_l36 at h
 refine Sq <| Ro <| Rc 1 [vb (decide (t47 < t46))] <| Rk <| Sq ?_
 cases hb_5 : ((decide (t47 < t46)) : Bool) with
 | true =>
  replace h := ite_t hb_5 h
  refine Ct <| Runs.skip <| kS_nrm <| Sq <| Runs.block <| Sq <| Ro ?_
  obtain ⟨z_3, hz_3, h⟩ := bind_s h
  refine Rt (some 49) (.iaddrS 8) [] none [.d (.sl (List.map Fixup.d t45)), .i t47] (.elt (Fixup.d z_3) 0) [] (cut_at hz_3 (fun _ => rfl)) <| Rc 3 [⟨.d (Fixup.d z_3), []⟩, ⟨.ptr [6] 0 0, [([6], some (.cells [.i 0, .i 0, .b false, .i 0, .i 0, .i 0, .i 0, .w 0] 0))]⟩, ⟨.tup [], [([6], some (.cells [.i z_3.At, .i z_3.Loc, .b z_3.Self, .i z_3.Frame, .i z_3.FrameN, .i z_3.Target, .i z_3.N, .w z_3.Disp] 0))]⟩] <| Rk <| Sq <| Ro <| Rc 3 [⟨.d (Fixup.d z_3), []⟩, vp [4] 0 2, ⟨.d (.sl (mY d4.Bytes)), []⟩] <| Rt (some 54) .lenL [] none [.d (.sl (mY d4.Bytes))] (.i (d4.Bytes.length : Int)) [] (cut_len _) ?_
  obtain ⟨r_3, hr_3, h⟩ := bind_s h
  have hc_3 := fixup_May_L z_3 (d4.Bytes.length : Int) r_3 hr_3
  refine Rt (some 55) (.callf 38) [] none [.d (Fixup.d z_3), .i (d4.Bytes.length : Int)] (.b r_3) [] (cc hc_3) <| Rc 1 [vb (!r_3)] <| Rk ?_
  cases hb_6 : ((!r_3) : Bool) with
  | true =>
   replace h := ite_t hb_6 h
   refine Ct <| Sq <| Ro <| Rc 1 [vi 3] <| Rk <| Runs.ret <| kB_ret <| kS_ret ?_
   obtain rfl := sj h
   exact ⟨nofun, rfl, (by kernel_rfl)⟩
  | false =>
   replace h := ite_f hb_6 h
   refine Cf <| Runs.skip <| kB_nrm <| kS_nrm <| Ro <| Rc 2 [vi (IntKind.wrap .i64 (t47 + 1)), vi (IntKind.wrap .i64 (t47 + 1))] <| Rd ?_
   obtain rfl := sj h
   exact ⟨rfl, (), Cz⟩
 | false =>
  replace h := ite_f hb_5 h
  refine Cf <| Runs.exit <| kS_exit ?_
  obtain rfl := sj h
  exact ⟨nofun, rfl, (), Cz⟩
theorem omf_rest_l6_ok (m_ : Module) (m1 : Module) (t8 : (List Data)) (t9 : Int) (t10 : Int) (r : (Lp Int (Int ⊕ Unit))) (h : omf_rest_l6 m1 t8 t9 t10 = some r) : Runs L F19l6 (omf_rest_h6 m1 t8 t9 t10) (LQ [] [1, 8, 9, 10] [[1]] (fun (x : Int) (g : Unit) => omf_rest_h6 m1 t8 t9 x) (omf_rest_P6 m_ m1 t8 t9) r) := by
 unfold omf_rest_l6 at h
 refine Sq <| Ro <| Rc 1 [vb (decide (t10 < t9))] <| Rk <| Sq ?_
 cases hb_1 : ((decide (t10 < t9)) : Bool) with
 | true =>
  replace h := ite_t hb_1 h
  refine Ct <| Runs.skip <| kS_nrm <| Sq <| Runs.block <| Sq <| Ro ?_
  obtain ⟨z_1, hz_1, h⟩ := bind_s h
  refine Rt (some 12) (.iaddrS 4) [] none [.d (.sl (List.map Data.d t8)), .i t10] (.elt (Data.d z_1) 0) [] (cut_at hz_1 (fun _ => rfl)) <| Rc 3 [⟨.d (Data.d z_1), []⟩, ⟨.ptr [4] 0 0, [([4], some (.cells [.i 0, .w 0, .nils, .nils] 0))]⟩, ⟨.tup [], [([4], some (.cells [.i z_1.Seg, .w z_1.Off, .d (.sl (mY z_1.Bytes)), .d (.sl (List.map Fixup.d z_1.Fixups))] 0))]⟩] <| Rk <| Sq <| Sq <| Ro <| Rc 4 [vp [4] 0 0, vi z_1.Seg, vp [1] 0 3, ⟨.d (.sl (List.map SegDef.d m1.Segs)), []⟩] <| Rt (some 18) .lenL [] none [.d (.sl (List.map SegDef.d m1.Segs))] (.i (m1.Segs.length : Int)) [] (cut_len _) ?_
  obtain ⟨r_1, hr_1, h⟩ := bind_s h
  have hc_1 := omf_in_L z_1.Seg (m1.Segs.length : Int) r_1 hr_1
  refine Rt (some 19) (.callf 18) [] none [.i z_1.Seg, .i (m1.Segs.length : Int)] (.b r_1) [] (cc hc_1) <| Rc 2 [vb (!r_1), vb (!r_1)] ?_
  cases hb_2 : ((!r_1) : Bool) with
  | true =>
   replace h := ite_t hb_2 h
   refine Rc 6 [vn, vn, vn, vn, vn, vb true] <| Rk <| Ct <| Sq <| Ro <| Rc 1 [vi 5] <| Rk <| Runs.ret <| kS_ret <| kB_ret <| kS_ret ?_
   obtain rfl := sj h
   exact ⟨nofun, rfl, (by kernel_rfl)⟩
  | false =>
   replace h := ite_f hb_2 h
   refine Rc 3 [⟨.d (Module.d m1), []⟩, vp [4] 0 3, ⟨.d (.sl (List.map Fixup.d z_1.Fixups)), []⟩] ?_
   obtain ⟨r_2, hr_2, h⟩ := bind_s h
   have hc_2 := omf_fixes_L m1 z_1.Fixups r_2 hr_2
   refine Rt (some 25) (.callf 37) [] none [.d (Module.d m1), .d (.sl (List.map Fixup.d z_1.Fixups))] (.b r_2) [] (cc hc_2) <| Rc 2 [vb (!r_2), vb (!r_2)] <| Rk ?_
   cases hb_3 : ((!r_2) : Bool) with
   | true =>
    replace h := ite_t hb_3 h
    refine Ct <| Sq <| Ro <| Rc 1 [vi 5] <| Rk <| Runs.ret <| kS_ret <| kB_ret <| kS_ret ?_
    obtain rfl := sj h
    exact ⟨nofun, rfl, (by kernel_rfl)⟩
   | false =>
    replace h := ite_f hb_3 h
    refine Cf <| Runs.skip <| kS_nrm <| Sq <| Sq <| Ro <| Rc 5 [vp [4] 0 1, vw z_1.Off, vi (IntKind.wrap .i64 z_1.Off), vp [4] 0 2, ⟨.d (.sl (mY z_1.Bytes)), []⟩] <| Rt (some 33) .lenL [] none [.d (.sl (mY z_1.Bytes))] (.i (z_1.Bytes.length : Int)) [] (cut_len _) <| Rc 6 [vi (IntKind.wrap .i64 ((IntKind.wrap .i64 z_1.Off) + (z_1.Bytes.length : Int))), vp [1] 0 3, ⟨.d (.sl (List.map SegDef.d m1.Segs)), []⟩, vp [4] 0 0, vi z_1.Seg, vi (IntKind.wrap .i64 (z_1.Seg - 1))] ?_
    obtain ⟨z_2, hz_2, h⟩ := bind_s h
    refine Rt (some 40) (.iaddrS 8) [] none [.d (.sl (List.map SegDef.d m1.Segs)), .i (IntKind.wrap .i64 (z_1.Seg - 1))] (.elt (SegDef.d z_2) 0) [] (cut_at hz_2 (fun _ => rfl)) <| Rc 3 [⟨.elt (SegDef.d z_2) 4, []⟩, vi z_2.Len, vb (decide ((IntKind.wrap .i64 ((IntKind.wrap .i64 z_1.Off) + (z_1.Bytes.length : Int))) > z_2.Len))] <| Rk ?_
    cases hb_4 : ((decide ((IntKind.wrap .i64 ((IntKind.wrap .i64 z_1.Off) + (z_1.Bytes.length : Int))) > z_2.Len)) : Bool) with
    | true =>
     replace h := ite_t hb_4 h
     refine Ct <| Sq <| Ro <| Rc 1 [vi 3] <| Rk <| Runs.ret <| kS_ret <| kB_ret <| kS_ret ?_
     obtain rfl := sj h
     exact ⟨nofun, rfl, (by kernel_rfl)⟩
    | false =>
     replace h := ite_f hb_4 h
     refine Cf <| Runs.skip <| kS_nrm <| Sq <| Ro <| Rc 2 [vp [4] 0 3, ⟨.d (.sl (List.map Fixup.d z_1.Fixups)), []⟩] <| Rt (some 46) .lenL [] none [.d (.sl (List.map Fixup.d z_1.Fixups))] (.i (z_1.Fixups.length : Int)) [] (cut_len _) <| Rc 1 [vi 0] <| Rk <| Runs.block ?_
     obtain ⟨e_1, he_1, h⟩ := bind_s h
     refine Runs.loop (fun x : Int => omf_rest_l36 m1 z_1 t8 t9 t10 z_1.Fixups (z_1.Fixups.length : Int) x) (fun (x : Int) (g : Unit) => omf_rest_h36 m1 z_1 t8 t9 t10 z_1.Fixups (z_1.Fixups.length : Int) x) (omf_rest_P36 m_ m1 z_1 t8 t9 t10 z_1.Fixups (z_1.Fixups.length : Int)) (fun x g r hr => omf_rest_l36_ok m_ m1 z_1 t8 t9 t10 z_1.Fixups (z_1.Fixups.length : Int) x  r hr) () he_1 Cz ?_
     rintro ⟨o, s⟩ hp
     cases e_1 with
     | inl e_2 =>
      obtain ⟨ho, hf⟩ := hp
      have ho' : o = .ret := ho
      subst ho'
      refine kB_ret <| kB_ret <| kS_ret ?_
      obtain rfl := sj h
      exact ⟨nofun, rfl, hf⟩
     | inr e_3 =>
      obtain ⟨ho, g_1, hk_1⟩ := hp
      have ho' : o = .exit 2 := ho
      subst ho'
      refine kB_hit <| kB_nrm <| kS_nrm <| Runs.canon _ hk_1 <| Ro <| Rc 2 [vi (IntKind.wrap .i64 (t10 + 1)), vi (IntKind.wrap .i64 (t10 + 1))] <| Rd ?_
      obtain rfl := sj h
      exact ⟨rfl, (), Cz⟩
 | false =>
  replace h := ite_f hb_1 h
  refine Cf <| Runs.exit <| kS_exit ?_
  obtain rfl := sj h
  exact ⟨nofun, rfl, (), Cz⟩
theorem omf_rest_j60_ok (m_ : Module) (m1 : Module) (t59 : Bool) (r : Int) (h : omf_rest_j60 m1 t59 = some r) : Runs L F19b60 (omf_rest_h60 m1 t59) (kB 4 (kS L F19c83 (omf_rest_Q m_ r))) := by
 unfold omf_rest_j60 at h
 cases hb_2 : (t59 : Bool) with
 | true =>
  replace h := ite_t hb_2 h
  refine Ct <| Sq <| Ro <| Rc 1 [vi 3] <| Rk <| Runs.ret <| kB_ret <| kS_ret ?_
  cases h
  exact Fq
 | false =>
  replace h := ite_f hb_2 h
  refine Cf <| Sq <| Ro <| Rc 4 [vp [1] 0 9, vb m1.Is, vb (!m1.Is), vb (!m1.Is)] <| Rk ?_
  cases hb_3 : ((!m1.Is) : Bool) with
  | true =>
   replace h := ite_t hb_3 h
   refine Ct <| Sq <| Ro <| Rc 1 [vi 0] <| Rk <| Runs.ret <| kB_ret <| kS_ret ?_
   cases h
   exact Fq
  | false =>
   replace h := ite_f hb_3 h
   refine Cf <| Sq <| Ro <| Rc 4 [⟨.d (Module.d m1), []⟩, vp [1] 0 10, ⟨.d (Fixup.d m1.Start), []⟩, ⟨.ref [77] 0 0 (List.map Fixup.d ([m1.Start] : List Fixup)).length 8, [([77], some (.arr (List.map Fixup.d ([m1.Start] : List Fixup)) 0 false))]⟩] ?_
   obtain ⟨r_1, hr_1, h⟩ := bind_s h
   have hc_1 := omf_fixes_L m1 ([m1.Start] : List Fixup) r_1 hr_1
   refine Rt (some 78) (.callf 37) [] none [.d (Module.d m1), .ref [77] 0 0 (List.map Fixup.d ([m1.Start] : List Fixup)).length 8] (.b r_1) [([77], some (.arr (List.map Fixup.d ([m1.Start] : List Fixup)) 0 true))] (cut_call (call_of (ws := [([77], some (.arr (List.map Fixup.d ([m1.Start] : List Fixup)) 0 true))]) (us := [([77], some (.arr (List.map Fixup.d ([m1.Start] : List Fixup)) 0 true))]) (by kernel_rfl) (gives_cons (ws := []) (give_same (by kernel_rfl)) (gives_cons (ws := [([77], some (.arr (List.map Fixup.d ([m1.Start] : List Fixup)) 0 true))]) (give_ref (e := Fixup.d) (l := ([m1.Start] : List Fixup)) (fz := false) (by kernel_rfl) (by kernel_rfl) rfl) gives_nil)) hc_1 (by kernel_rfl) (by kernel_rfl))) <| Rc 2 [vb (!r_1), vb (!r_1)] <| Rk ?_
   cases hb_4 : ((!r_1) : Bool) with
   | true =>
    replace h := ite_t hb_4 h
    refine Ct <| Sq <| Ro <| Rc 1 [vi 5] <| Rk <| Runs.ret <| kB_ret <| kS_ret ?_
    cases h
    exact Fq
   | false =>
    replace h := ite_f hb_4 h
    refine Cf <| Sq <| Ro <| Rc 5 [vp [1] 0 10, vp [1] 0 11, vi m1.Start.Loc, vb (m1.Start.Loc != 0), vb (m1.Start.Loc != 0)] ?_
    cases hb_5 : ((m1.Start.Loc != 0) : Bool) with
    | true =>
     replace h := ite_t hb_5 h
     refine Rc 23 [vn, vn, vn, vn, vb true, vb true, vn, vn, vn, vb true, vb true, vn, vn, vn, vn, vb true, vb true, vn, vn, vn, vn, vb true, vb true] <| Rk <| Ct <| Sq <| Ro <| Rc 1 [vi 3] <| Rk <| Runs.ret <| kB_ret <| kS_ret ?_
     cases h
     exact Fq
    | false =>
     replace h := ite_f hb_5 h
     refine Rc 6 [vp [1] 0 10, vp [1] 0 10, vi m1.Start.At, vb (m1.Start.At != 0), vb (m1.Start.At != 0), vb (m1.Start.At != 0)] ?_
     cases hb_6 : ((m1.Start.At != 0) : Bool) with
     | true =>
      replace h := ite_t hb_6 h
      refine Rc 17 [vn, vn, vn, vb true, vb true, vn, vn, vn, vn, vb true, vb true, vn, vn, vn, vn, vb true, vb true] <| Rk <| Ct <| Sq <| Ro <| Rc 1 [vi 3] <| Rk <| Runs.ret <| kB_ret <| kS_ret ?_
      cases h
      exact Fq
     | false =>
      replace h := ite_f hb_6 h
      refine Rc 5 [vp [1] 0 10, vp [1] 0 12, vb m1.Start.Self, vb m1.Start.Self, vb m1.Start.Self] ?_
      cases hb_7 : (m1.Start.Self : Bool) with
      | true =>
       replace h := ite_t hb_7 h
       refine Rc 12 [vn, vn, vn, vn, vb true, vb true, vn, vn, vn, vn, vb true, vb true] <| Rk <| Ct <| Sq <| Ro <| Rc 1 [vi 3] <| Rk <| Runs.ret <| kB_ret <| kS_ret ?_
       cases h
       exact Fq
      | false =>
       replace h := ite_f hb_7 h
       refine Rc 6 [vp [1] 0 10, vp [1] 0 13, vi m1.Start.Frame, vb (m1.Start.Frame == 4), vb (m1.Start.Frame == 4), vb (m1.Start.Frame == 4)] ?_
       cases hb_8 : ((m1.Start.Frame == 4) : Bool) with
       | true =>
        replace h := ite_t hb_8 h
        refine Rc 6 [vn, vn, vn, vn, vb true, vb true] <| Rk <| Ct <| Sq <| Ro <| Rc 1 [vi 3] <| Rk <| Runs.ret <| kB_ret <| kS_ret ?_
        cases h
        exact Fq
       | false =>
        replace h := ite_f hb_8 h
        refine Rc 2 [vp [1] 0 10, ⟨.d (Fixup.d m1.Start), []⟩] ?_
        obtain ⟨r_2, hr_2, h⟩ := bind_s h
        have hc_2 := fixup_May_L m1.Start 1 r_2 hr_2
        refine Rt (some 105) (.callf 38) [] none [.d (Fixup.d m1.Start), .i 1] (.b r_2) [] (cc hc_2) <| Rc 3 [vb (!r_2), vb (!r_2), vb (!r_2)] <| Rk ?_
        cases hb_9 : ((!r_2) : Bool) with
        | true =>
         replace h := ite_t hb_9 h
         refine Ct <| Sq <| Ro <| Rc 1 [vi 3] <| Rk <| Runs.ret <| kB_ret <| kS_ret ?_
         cases h
         exact Fq
        | false =>
         replace h := ite_f hb_9 h
         refine Cf <| Runs.skip <| kB_nrm <| kS_nrm <| Sq <| Ro <| Rc 1 [vi 0] <| Rk <| Runs.ret ?_
         cases h
         exact Fq
theorem omf_rest_ok (m_ : Module) (r : Int) (h : omf_rest m_ = some r) : Runs L F19.body ⟨tmOf [.d (Module.d m_)] 0, updW (fun _ => none) []⟩ (omf_rest_Q m_ r) := by
 unfold omf_rest at h
 refine Sq <| Ro <| Rc 2 [⟨.ptr [1] 0 0, [([1], some (.cells [.d (.str m_.Name), .d (.sl (List.map Comment.d m_.Notes)), .d (.sl (List.map D.str m_.Names)), .d (.sl (List.map SegDef.d m_.Segs)), .d (.sl (List.map GrpDef.d m_.Groups)), .d (.sl (List.map Ext.d m_.Exts)), .d (.sl (List.map Pub.d m_.Pubs)), .d (.sl (List.map Data.d m_.Datas)), .b m_.Main, .b m_.Is, .i m_.Start.At, .i m_.Start.Loc, .b m_.Start.Self, .i m_.Start.Frame, .i m_.Start.FrameN, .i m_.Start.Target, .i m_.Start.N, .w m_.Start.Disp] 0))]⟩, vi 0] <| Rk <| Sq <| Sq <| Ro <| Rc 2 [vp [1] 0 7, ⟨.d (.sl (List.map Data.d m_.Datas)), []⟩] <| Rt (some 9) .lenL [] none [.d (.sl (List.map Data.d m_.Datas))] (.i (m_.Datas.length : Int)) [] (cut_len _) <| Rc 1 [vi 0] <| Rk <| Runs.block ?_
 obtain ⟨e_1, he_1, h⟩ := bind_s h
 refine Runs.loop (fun x : Int => omf_rest_l6 m_ m_.Datas (m_.Datas.length : Int) x) (fun (x : Int) (g : Unit) => omf_rest_h6 m_ m_.Datas (m_.Datas.length : Int) x) (omf_rest_P6 m_ m_ m_.Datas (m_.Datas.length : Int)) (fun x g r hr => omf_rest_l6_ok m_ m_ m_.Datas (m_.Datas.length : Int) x  r hr) () he_1 Cz ?_
 rintro ⟨o, s⟩ hp
 cases e_1 with
 | inl e_2 =>
  obtain ⟨ho, hf⟩ := hp
  have ho' : o = .ret := ho
  subst ho'
  refine kB_ret <| kS_ret ?_
  obtain rfl := sj h
  exact ⟨Out.ret_ne, hf⟩
 | inr e_3 =>
  obtain ⟨ho, g_1, hk_1⟩ := hp
  have ho' : o = .exit 0 := ho
  subst ho'
  refine kB_hit <| kS_nrm <| Runs.canon _ hk_1 <| Sq <| Runs.block <| Sq <| Ro <| Rc 4 [vp [1] 0 9, vb m_.Is, vb (!m_.Is), vb (!m_.Is)] ?_
  cases hb_1 : ((!m_.Is) : Bool) with
  | true =>
   replace h := ite_t hb_1 h
   refine Rc 6 [vp [1] 0 10, ⟨.d (Fixup.d m_.Start), []⟩, ⟨.d (.agg [.int .i64 0, .int .i64 0, .bool false, .int .i64 0, .int .i64 0, .int .i64 0, .int .i64 0, .int .u16 0]), []⟩, vb (!(m_.Start.At == 0 && (m_.Start.Loc == 0 && (m_.Start.Self == false && (m_.Start.Frame == 0 && (m_.Start.FrameN == 0 && (m_.Start.Target == 0 && (m_.Start.N == 0 && (m_.Start.Disp == 0 && true))))))))), vb (!(m_.Start.At == 0 && (m_.Start.Loc == 0 && (m_.Start.Self == false && (m_.Start.Frame == 0 && (m_.Start.FrameN == 0 && (m_.Start.Target == 0 && (m_.Start.N == 0 && (m_.Start.Disp == 0 && true))))))))), vb (!(m_.Start.At == 0 && (m_.Start.Loc == 0 && (m_.Start.Self == false && (m_.Start.Frame == 0 && (m_.Start.FrameN == 0 && (m_.Start.Target == 0 && (m_.Start.N == 0 && (m_.Start.Disp == 0 && true)))))))))] <| Rk <| Runs.canon (omf_rest_h60 m_ (!(m_.Start.At == 0 && (m_.Start.Loc == 0 && (m_.Start.Self == false && (m_.Start.Frame == 0 && (m_.Start.FrameN == 0 && (m_.Start.Target == 0 && (m_.Start.N == 0 && (m_.Start.Disp == 0 && true)))))))))) Cz ?_
   exact omf_rest_j60_ok m_ m_ (!(m_.Start.At == 0 && (m_.Start.Loc == 0 && (m_.Start.Self == false && (m_.Start.Frame == 0 && (m_.Start.FrameN == 0 && (m_.Start.Target == 0 && (m_.Start.N == 0 && (m_.Start.Disp == 0 && true))))))))) r h
  | false =>
   replace h := ite_f hb_1 h
   refine Rc 6 [vn, vn, vn, vn, vb false, vb false] <| Rk <| Runs.canon (omf_rest_h60 m_ false) Cz ?_
   exact omf_rest_j60_ok m_ m_ false r h
theorem omf_rest_L (m_ : Module) (r : Int) (h : omf_rest m_ = some r) : L 19 [.d (Module.d m_)] = some (.i r, [.d (Module.d m_)]) := by
 obtain ⟨p, ⟨hne, hf⟩, hr⟩ := omf_rest_ok m_ r h
 obtain ⟨k, hk⟩ := run_of (F := F19) (args := [.d (Module.d m_)]) (ap := [.d (Module.d m_)]) (bx0 := updW (fun _ => none) []) rfl rfl (by kernel_rfl) ⟨p, ⟨hne, hf⟩, hr⟩
 exact lim_run (k := k) rfl hk
def omf_Check_h14 (m1 : Module) (t15 : (List SegDef)) (t16 : Int) (t17 : Int) : St := ⟨tab [(1, .ptr [1] 0 0), (15, .d (.sl (List.map SegDef.d t15))), (16, .i t16), (17, .i t17)], tabB [([1], some (.cells [.d (.str m1.Name), .d (.sl (List.map Comment.d m1.Notes)), .d (.sl (List.map D.str m1.Names)), .d (.sl (List.map SegDef.d m1.Segs)), .d (.sl (List.map GrpDef.d m1.Groups)), .d (.sl (List.map Ext.d m1.Exts)), .d (.sl (List.map Pub.d m1.Pubs)), .d (.sl (List.map Data.d m1.Datas)), .b m1.Main, .b m1.Is, .i m1.Start.At, .i m1.Start.Loc, .b m1.Start.Self, .i m1.Start.Frame, .i m1.Start.FrameN, .i m1.Start.Target, .i m1.Start.N, .w m1.Start.Disp] 0))]⟩
def omf_Check_h41 (m1 : Module) : St := ⟨tab [(1, .ptr [1] 0 0)], tabB [([1], some (.cells [.d (.str m1.Name), .d (.sl (List.map Comment.d m1.Notes)), .d (.sl (List.map D.str m1.Names)), .d (.sl (List.map SegDef.d m1.Segs)), .d (.sl (List.map GrpDef.d m1.Groups)), .d (.sl (List.map Ext.d m1.Exts)), .d (.sl (List.map Pub.d m1.Pubs)), .d (.sl (List.map Data.d m1.Datas)), .b m1.Main, .b m1.Is, .i m1.Start.At, .i m1.Start.Loc, .b m1.Start.Self, .i m1.Start.Frame, .i m1.Start.FrameN, .i m1.Start.Target, .i m1.Start.N, .w m1.Start.Disp] 0))]⟩
def omf_Check_h45 (m1 : Module) (t45 : (List GrpDef)) (t46 : Int) (t47 : Int) : St := ⟨tab [(1, .ptr [1] 0 0), (45, .d (.sl (List.map GrpDef.d t45))), (46, .i t46), (47, .i t47)], tabB [([1], some (.cells [.d (.str m1.Name), .d (.sl (List.map Comment.d m1.Notes)), .d (.sl (List.map D.str m1.Names)), .d (.sl (List.map SegDef.d m1.Segs)), .d (.sl (List.map GrpDef.d m1.Groups)), .d (.sl (List.map Ext.d m1.Exts)), .d (.sl (List.map Pub.d m1.Pubs)), .d (.sl (List.map Data.d m1.Datas)), .b m1.Main, .b m1.Is, .i m1.Start.At, .i m1.Start.Loc, .b m1.Start.Self, .i m1.Start.Frame, .i m1.Start.FrameN, .i m1.Start.Target, .i m1.Start.N, .w m1.Start.Disp] 0))]⟩
def omf_Check_h67 (m1 : Module) (t45 : (List GrpDef)) (t46 : Int) (t47 : Int) (t57 : (List Int)) (t58 : Int) (t59 : Int) : St := ⟨tab [(1, .ptr [1] 0 0), (45, .d (.sl (List.map GrpDef.d t45))), (46, .i t46), (47, .i t47), (57, .d (.sl (List.map (D.int .i64) t57))), (58, .i t58), (59, .i t59)], tabB [([1], some (.cells [.d (.str m1.Name), .d (.sl (List.map Comment.d m1.Notes)), .d (.sl (List.map D.str m1.Names)), .d (.sl (List.map SegDef.d m1.Segs)), .d (.sl (List.map GrpDef.d m1.Groups)), .d (.sl (List.map Ext.d m1.Exts)), .d (.sl (List.map Pub.d m1.Pubs)), .d (.sl (List.map Data.d m1.Datas)), .b m1.Main, .b m1.Is, .i m1.Start.At, .i m1.Start.Loc, .b m1.Start.Self, .i m1.Start.Frame, .i m1.Start.FrameN, .i m1.Start.Target, .i m1.Start.N, .w m1.Start.Disp] 0))]⟩
def omf_Check_h86 (m1 : Module) (t45 : (List GrpDef)) (t46 : Int) (t47 : Int) : St := ⟨tab [(1, .ptr [1] 0 0), (45, .d (.sl (List.map GrpDef.d t45))), (46, .i t46), (47, .i t47)], tabB [([1], some (.cells [.d (.str m1.Name), .d (.sl (List.map Comment.d m1.Notes)), .d (.sl (List.map D.str m1.Names)), .d (.sl (List.map SegDef.d m1.Segs)), .d (.sl (List.map GrpDef.d m1.Groups)), .d (.sl (List.map Ext.d m1.Exts)), .d (.sl (List.map Pub.d m1.Pubs)), .d (.sl (List.map Data.d m1.Datas)), .b m1.Main, .b m1.Is, .i m1.Start.At, .i m1.Start.Loc, .b m1.Start.Self, .i m1.Start.Frame, .i m1.Start.FrameN, .i m1.Start.Target, .i m1.Start.N, .w m1.Start.Disp] 0))]⟩
def omf_Check_h87 (m1 : Module) : St := ⟨tab [(1, .ptr [1] 0 0)], tabB [([1], some (.cells [.d (.str m1.Name), .d (.sl (List.map Comment.d m1.Notes)), .d (.sl (List.map D.str m1.Names)), .d (.sl (List.map SegDef.d m1.Segs)), .d (.sl (List.map GrpDef.d m1.Groups)), .d (.sl (List.map Ext.d m1.Exts)), .d (.sl (List.map Pub.d m1.Pubs)), .d (.sl (List.map Data.d m1.Datas)), .b m1.Main, .b m1.Is, .i m1.Start.At, .i m1.Start.Loc, .b m1.Start.Self, .i m1.Start.Frame, .i m1.Start.FrameN, .i m1.Start.Target, .i m1.Start.N, .w m1.Start.Disp] 0))]⟩
def omf_Check_h91 (m1 : Module) (t72 : (List Pub)) (t73 : Int) (t74 : Int) : St := ⟨tab [(1, .ptr [1] 0 0), (72, .d (.sl (List.map Pub.d t72))), (73, .i t73), (74, .i t74)], tabB [([1], some (.cells [.d (.str m1.Name), .d (.sl (List.map Comment.d m1.Notes)), .d (.sl (List.map D.str m1.Names)), .d (.sl (List.map SegDef.d m1.Segs)), .d (.sl (List.map GrpDef.d m1.Groups)), .d (.sl (List.map Ext.d m1.Exts)), .d (.sl (List.map Pub.d m1.Pubs)), .d (.sl (List.map Data.d m1.Datas)), .b m1.Main, .b m1.Is, .i m1.Start.At, .i m1.Start.Loc, .b m1.Start.Self, .i m1.Start.Frame, .i m1.Start.FrameN, .i m1.Start.Target, .i m1.Start.N, .w m1.Start.Disp] 0))]⟩
def omf_Check_h110 (m1 : Module) : St := ⟨tab [(1, .ptr [1] 0 0)], tabB [([1], some (.cells [.d (.str m1.Name), .d (.sl (List.map Comment.d m1.Notes)), .d (.sl (List.map D.str m1.Names)), .d (.sl (List.map SegDef.d m1.Segs)), .d (.sl (List.map GrpDef.d m1.Groups)), .d (.sl (List.map Ext.d m1.Exts)), .d (.sl (List.map Pub.d m1.Pubs)), .d (.sl (List.map Data.d m1.Datas)), .b m1.Main, .b m1.Is, .i m1.Start.At, .i m1.Start.Loc, .b m1.Start.Self, .i m1.Start.Frame, .i m1.Start.FrameN, .i m1.Start.Target, .i m1.Start.N, .w m1.Start.Disp] 0))]⟩
def omf_Check_Q (m_ : Module) (r : Int) (p : Out × St) : Prop := (∀ i, p.1 ≠ .exit i) ∧ finF F7 [.d (Module.d m_)] p.2 = some (.i r, [.d (Module.d m_)])
def omf_Check_P14 (m_ : Module) (m1 : Module) (t15 : (List SegDef)) (t16 : Int) (e : (Int ⊕ Unit)) (p : Out × St) : Prop := match e with
 | .inl x => p.1 = .ret ∧ finF F7 [.d (Module.d m_)] p.2 = some (.i x, [.d (Module.d m_)])
 | .inr x => p.1 = .exit 0 ∧ ∃ g : Unit, Canon [] [1] [[1]] p.2 (omf_Check_h41 m1)
def omf_Check_P67 (m_ : Module) (m1 : Module) (t45 : (List GrpDef)) (t46 : Int) (t47 : Int) (t57 : (List Int)) (t58 : Int) (e : (Int ⊕ Unit)) (p : Out × St) : Prop := match e with
 | .inl x => p.1 = .ret ∧ finF F7 [.d (Module.d m_)] p.2 = some (.i x, [.d (Module.d m_)])
 | .inr x => p.1 = .exit 4 ∧ ∃ g : Unit, Canon [] [1, 45, 46, 47] [[1]] p.2 (omf_Check_h86 m1 t45 t46 t47)
def omf_Check_P45 (m_ : Module) (m1 : Module) (t45 : (List GrpDef)) (t46 : Int) (e : (Int ⊕ Unit)) (p : Out × St) : Prop := match e with
 | .inl x => p.1 = .ret ∧ finF F7 [.d (Module.d m_)] p.2 = some (.i x, [.d (Module.d m_)])
 | .inr x => p.1 = .exit 2 ∧ ∃ g : Unit, Canon [] [1] [[1]] p.2 (omf_Check_h87 m1)
def omf_Check_P91 (m_ : Module) (m1 : Module) (t72 : (List Pub)) (t73 : Int) (e : (Int ⊕ Unit)) (p : Out × St) : Prop := match e with
 | .inl x => p.1 = .ret ∧ finF F7 [.d (Module.d m_)] p.2 = some (.i x, [.d (Module.d m_)])
 | .inr x => p.1 = .exit 6 ∧ ∃ g : Unit, Canon [] [1] [[1]] p.2 (omf_Check_h110 m1)
theorem omf_Check_l14_ok (m_ : Module) (m1 : Module) (t15 : (List SegDef)) (t16 : Int) (t17 : Int) (r : (Lp Int (Int ⊕ Unit))) (h : omf_Check_l14 m1 t15 t16 t17 = some r) : Runs L F7l14 (omf_Check_h14 m1 t15 t16 t17) (LQ [] [1, 15, 16, 17] [[1]] (fun (x : Int) (g : Unit) => omf_Check_h14 m1 t15 t16 x) (omf_Check_P14 m_ m1 t15 t16) r) := by
 unfold omf_Check_l14 at h
 refine Sq <| Ro <| Rc 1 [vb (decide (t17 < t16))] <| Rk <| Sq ?_
 cases hb_2 : ((decide (t17 < t16)) : Bool) with
 | true =>
  replace h := ite_t hb_2 h
  refine Ct <| Runs.skip <| kS_nrm <| Sq <| Runs.block <| Sq <| Ro ?_
  obtain ⟨z_1, hz_1, h⟩ := bind_s h
  refine Rt (some 19) (.iaddrS 8) [] none [.d (.sl (List.map SegDef.d t15)), .i t17] (.elt (SegDef.d z_1) 0) [] (cut_at hz_1 (fun _ => rfl)) <| Rc 3 [⟨.d (SegDef.d z_1), []⟩, ⟨.ptr [4] 0 0, [([4], some (.cells [.i 0, .i 0, .w 0, .y 0, .i 0, .i 0, .i 0, .i 0] 0))]⟩, ⟨.tup [], [([4], some (.cells [.i z_1.Align, .i z_1.Combine, .w z_1.Frame, .y z_1.Offset, .i z_1.Len, .i z_1.Name, .i z_1.Class, .i z_1.Overlay] 0))]⟩] <| Rk <| Sq <| Sq <| Ro <| Rc 1 [⟨.d (SegDef.d z_1), []⟩] ?_
  obtain ⟨r_2, hr_2, h⟩ := bind_s h
  have hc_2 := segs_May_L z_1 r_2 hr_2
  refine Rt (some 22) (.callf 16) [] none [.d (SegDef.d z_1)] (.b r_2) [] (cc hc_2) <| Rc 1 [vb (!r_2)] <| Rk ?_
  cases hb_3 : ((!r_2) : Bool) with
  | true =>
   replace h := ite_t hb_3 h
   refine Ct <| Sq <| Ro <| Rc 1 [vi 3] <| Rk <| Runs.ret <| kS_ret <| kB_ret <| kS_ret ?_
   obtain rfl := sj h
   exact ⟨nofun, rfl, (by kernel_rfl)⟩
  | false =>
   replace h := ite_f hb_3 h
   refine Cf <| Runs.skip <| kS_nrm <| Sq <| Ro <| Rc 3 [⟨.d (Module.d m1), []⟩, vp [4] 0 5, vi z_1.Name] ?_
   obtain ⟨r_3, hr_3, h⟩ := bind_s h
   have hc_3 := omf_named_L m1 z_1.Name r_3 hr_3
   refine Rt (some 27) (.callf 17) [] none [.d (Module.d m1), .i z_1.Name] (.b r_3) [] (cc hc_3) <| Rc 2 [vb (!r_3), vb (!r_3)] ?_
   cases hb_4 : ((!r_3) : Bool) with
   | true =>
    replace h := ite_t hb_4 h
    refine Rc 13 [vn, vn, vn, vn, vn, vb true, vb true, vn, vn, vn, vn, vn, vb true] <| Rk <| Ct <| Sq <| Ro <| Rc 1 [vi 5] <| Rk <| Runs.ret <| kB_ret <| kS_ret ?_
    obtain rfl := sj h
    exact ⟨nofun, rfl, (by kernel_rfl)⟩
   | false =>
    replace h := ite_f hb_4 h
    refine Rc 3 [⟨.d (Module.d m1), []⟩, vp [4] 0 6, vi z_1.Class] ?_
    obtain ⟨r_4, hr_4, h⟩ := bind_s h
    have hc_4 := omf_named_L m1 z_1.Class r_4 hr_4
    refine Rt (some 33) (.callf 17) [] none [.d (Module.d m1), .i z_1.Class] (.b r_4) [] (cc hc_4) <| Rc 3 [vb (!r_4), vb (!r_4), vb (!r_4)] ?_
    cases hb_5 : ((!r_4) : Bool) with
    | true =>
     replace h := ite_t hb_5 h
     refine Rc 6 [vn, vn, vn, vn, vn, vb true] <| Rk <| Ct <| Sq <| Ro <| Rc 1 [vi 5] <| Rk <| Runs.ret <| kB_ret <| kS_ret ?_
     obtain rfl := sj h
     exact ⟨nofun, rfl, (by kernel_rfl)⟩
    | false =>
     replace h := ite_f hb_5 h
     refine Rc 3 [⟨.d (Module.d m1), []⟩, vp [4] 0 7, vi z_1.Overlay] ?_
     obtain ⟨r_5, hr_5, h⟩ := bind_s h
     have hc_5 := omf_named_L m1 z_1.Overlay r_5 hr_5
     refine Rt (some 40) (.callf 17) [] none [.d (Module.d m1), .i z_1.Overlay] (.b r_5) [] (cc hc_5) <| Rc 2 [vb (!r_5), vb (!r_5)] <| Rk ?_
     cases hb_6 : ((!r_5) : Bool) with
     | true =>
      replace h := ite_t hb_6 h
      refine Ct <| Sq <| Ro <| Rc 1 [vi 5] <| Rk <| Runs.ret <| kB_ret <| kS_ret ?_
      obtain rfl := sj h
      exact ⟨nofun, rfl, (by kernel_rfl)⟩
     | false =>
      replace h := ite_f hb_6 h
      refine Cf <| Runs.skip <| kB_nrm <| kS_nrm <| Ro <| Rc 2 [vi (IntKind.wrap .i64 (t17 + 1)), vi (IntKind.wrap .i64 (t17 + 1))] <| Rd ?_
      obtain rfl := sj h
      exact ⟨rfl, (), Cz⟩
 | false =>
  replace h := ite_f hb_2 h
  refine Cf <| Runs.exit <| kS_exit ?_
  obtain rfl := sj h
  exact ⟨nofun, rfl, (), Cz⟩
theorem omf_Check_l67_ok (m_ : Module) (m1 : Module) (t45 : (List GrpDef)) (t46 : Int) (t47 : Int) (t57 : (List Int)) (t58 : Int) (t59 : Int) (r : (Lp Int (Int ⊕ Unit))) (h : omf_Check_l67 m1 t45 t46 t47 t57 t58 t59 = some r) : Runs L F7l67 (omf_Check_h67 m1 t45 t46 t47 t57 t58 t59) (LQ [] [1, 45, 46, 47, 57, 58, 59] [[1]] (fun (x : Int) (g : Unit) => omf_Check_h67 m1 t45 t46 t47 t57 t58 x) (omf_Check_P67 m_ m1 t45 t46 t47 t57 t58) r) := by
 unfold omf_Check_l67 at h
 refine Sq <| Ro <| Rc 1 [vb (decide (t59 < t58))] <| Rk <| Sq ?_
 cases hb_4 : ((decide (t59 < t58)) : Bool) with
 | true =>
  replace h := ite_t hb_4 h
  refine Ct <| Runs.skip <| kS_nrm <| Sq <| Runs.block <| Sq <| Ro ?_
  obtain ⟨z_2, hz_2, h⟩ := bind_s h
  refine Rt (some 61) (.iaddrS 1) [] none [.d (.sl (List.map (D.int .i64) t57)), .i t59] (.elt (.int .i64 z_2) 0) [] (cut_at hz_2 (fun _ => rfl)) <| Rc 2 [vi z_2, vi z_2] <| Rk <| Sq <| Ro <| Rc 3 [vi z_2, vp [1] 0 3, ⟨.d (.sl (List.map SegDef.d m1.Segs)), []⟩] <| Rt (some 66) .lenL [] none [.d (.sl (List.map SegDef.d m1.Segs))] (.i (m1.Segs.length : Int)) [] (cut_len _) ?_
  obtain ⟨r_3, hr_3, h⟩ := bind_s h
  have hc_3 := omf_in_L z_2 (m1.Segs.length : Int) r_3 hr_3
  refine Rt (some 67) (.callf 18) [] none [.i z_2, .i (m1.Segs.length : Int)] (.b r_3) [] (cc hc_3) <| Rc 1 [vb (!r_3)] <| Rk ?_
  cases hb_5 : ((!r_3) : Bool) with
  | true =>
   replace h := ite_t hb_5 h
   refine Ct <| Sq <| Ro <| Rc 1 [vi 5] <| Rk <| Runs.ret <| kB_ret <| kS_ret ?_
   obtain rfl := sj h
   exact ⟨nofun, rfl, (by kernel_rfl)⟩
  | false =>
   replace h := ite_f hb_5 h
   refine Cf <| Runs.skip <| kB_nrm <| kS_nrm <| Ro <| Rc 2 [vi (IntKind.wrap .i64 (t59 + 1)), vi (IntKind.wrap .i64 (t59 + 1))] <| Rd ?_
   obtain rfl := sj h
   exact ⟨rfl, (), Cz⟩
 | false =>
  replace h := ite_f hb_4 h
  refine Cf <| Runs.exit <| kS_exit ?_
  obtain rfl := sj h
  exact ⟨nofun, rfl, (), Cz⟩
theorem omf_Check_l45_ok (m_ : Module) (m1 : Module) (t45 : (List GrpDef)) (t46 : Int) (t47 : Int) (r : (Lp Int (Int ⊕ Unit))) (h : omf_Check_l45 m1 t45 t46 t47 = some r) : Runs L F7l45 (omf_Check_h45 m1 t45 t46 t47) (LQ [] [1, 45, 46, 47] [[1]] (fun (x : Int) (g : Unit) => omf_Check_h45 m1 t45 t46 x) (omf_Check_P45 m_ m1 t45 t46) r) := by
 unfold omf_Check_l45 at h
 refine Sq <| Ro <| Rc 1 [vb (decide (t47 < t46))] <| Rk <| Sq ?_
 cases hb_2 : ((decide (t47 < t46)) : Bool) with
 | true =>
  replace h := ite_t hb_2 h
  refine Ct <| Runs.skip <| kS_nrm <| Sq <| Runs.block <| Sq <| Ro ?_
  obtain ⟨z_1, hz_1, h⟩ := bind_s h
  refine Rt (some 49) (.iaddrS 2) [] none [.d (.sl (List.map GrpDef.d t45)), .i t47] (.elt (GrpDef.d z_1) 0) [] (cut_at hz_1 (fun _ => rfl)) <| Rc 3 [⟨.d (GrpDef.d z_1), []⟩, ⟨.ptr [6] 0 0, [([6], some (.cells [.i 0, .nils] 0))]⟩, ⟨.tup [], [([6], some (.cells [.i z_1.Name, .d (.sl (List.map (D.int .i64) z_1.Segs))] 0))]⟩] <| Rk <| Sq <| Sq <| Ro <| Rc 3 [⟨.d (Module.d m1), []⟩, vp [6] 0 0, vi z_1.Name] ?_
  obtain ⟨r_2, hr_2, h⟩ := bind_s h
  have hc_2 := omf_named_L m1 z_1.Name r_2 hr_2
  refine Rt (some 54) (.callf 17) [] none [.d (Module.d m1), .i z_1.Name] (.b r_2) [] (cc hc_2) <| Rc 1 [vb (!r_2)] <| Rk ?_
  cases hb_3 : ((!r_2) : Bool) with
  | true =>
   replace h := ite_t hb_3 h
   refine Ct <| Sq <| Ro <| Rc 1 [vi 5] <| Rk <| Runs.ret <| kS_ret <| kB_ret <| kS_ret ?_
   obtain rfl := sj h
   exact ⟨nofun, rfl, (by kernel_rfl)⟩
  | false =>
   replace h := ite_f hb_3 h
   refine Cf <| Runs.skip <| kS_nrm <| Sq <| Ro <| Rc 2 [vp [6] 0 1, ⟨.d (.sl (List.map (D.int .i64) z_1.Segs)), []⟩] <| Rt (some 58) .lenL [] none [.d (.sl (List.map (D.int .i64) z_1.Segs))] (.i (z_1.Segs.length : Int)) [] (cut_len _) <| Rc 1 [vi 0] <| Rk <| Runs.block ?_
   obtain ⟨e_4, he_2, h⟩ := bind_s h
   refine Runs.loop (fun x : Int => omf_Check_l67 m1 t45 t46 t47 z_1.Segs (z_1.Segs.length : Int) x) (fun (x : Int) (g : Unit) => omf_Check_h67 m1 t45 t46 t47 z_1.Segs (z_1.Segs.length : Int) x) (omf_Check_P67 m_ m1 t45 t46 t47 z_1.Segs (z_1.Segs.length : Int)) (fun x g r hr => omf_Check_l67_ok m_ m1 t45 t46 t47 z_1.Segs (z_1.Segs.length : Int) x  r hr) () he_2 Cz ?_
   rintro ⟨o, s⟩ hp
   cases e_4 with
   | inl e_5 =>
    obtain ⟨ho, hf⟩ := hp
    have ho' : o = .ret := ho
    subst ho'
    refine kB_ret <| kB_ret <| kS_ret ?_
    obtain rfl := sj h
    exact ⟨nofun, rfl, hf⟩
   | inr e_6 =>
    obtain ⟨ho, g_2, hk_2⟩ := hp
    have ho' : o = .exit 4 := ho
    subst ho'
    refine kB_hit <| kB_nrm <| kS_nrm <| Runs.canon _ hk_2 <| Ro <| Rc 2 [vi (IntKind.wrap .i64 (t47 + 1)), vi (IntKind.wrap .i64 (t47 + 1))] <| Rd ?_
    obtain rfl := sj h
    exact ⟨rfl, (), Cz⟩
 | false =>
  replace h := ite_f hb_2 h
  refine Cf <| Runs.exit <| kS_exit ?_
  obtain rfl := sj h
  exact ⟨nofun, rfl, (), Cz⟩
theorem omf_Check_l91_ok (m_ : Module) (m1 : Module) (t72 : (List Pub)) (t73 : Int) (t74 : Int) (r : (Lp Int (Int ⊕ Unit))) (h : omf_Check_l91 m1 t72 t73 t74 = some r) : Runs L F7l91 (omf_Check_h91 m1 t72 t73 t74) (LQ [] [1, 72, 73, 74] [[1]] (fun (x : Int) (g : Unit) => omf_Check_h91 m1 t72 t73 x) (omf_Check_P91 m_ m1 t72 t73) r) := by
 unfold omf_Check_l91 at h
 refine Sq <| Ro <| Rc 1 [vb (decide (t74 < t73))] <| Rk <| Sq ?_
 cases hb_2 : ((decide (t74 < t73)) : Bool) with
 | true =>
  replace h := ite_t hb_2 h
  refine Ct <| Runs.skip <| kS_nrm <| Sq <| Runs.block <| Sq <| Ro ?_
  obtain ⟨z_1, hz_1, h⟩ := bind_s h
  refine Rt (some 76) (.iaddrS 5) [] none [.d (.sl (List.map Pub.d t72)), .i t74] (.elt (Pub.d z_1) 0) [] (cut_at hz_1 (fun _ => rfl)) <| Rc 3 [⟨.d (Pub.d z_1), []⟩, ⟨.ptr [10] 0 0, [([10], some (.cells [.i 0, .i 0, .w 0, .d (.str []), .w 0] 0))]⟩, ⟨.tup [], [([10], some (.cells [.i z_1.Group, .i z_1.Seg, .w z_1.Frame, .d (.str z_1.Name), .w z_1.Off] 0))]⟩] <| Rk <| Sq <| Ro <| Rc 4 [vp [10] 0 0, vi z_1.Group, vb (decide (z_1.Group < 0)), vb (decide (z_1.Group < 0))] ?_
  cases hb_3 : ((decide (z_1.Group < 0)) : Bool) with
  | true =>
   replace h := ite_t hb_3 h
   refine Rc 20 [vn, vn, vn, vn, vn, vn, vb true, vb true, vn, vn, vn, vb true, vb true, vn, vn, vn, vn, vn, vn, vb true] <| Rk <| Ct <| Sq <| Ro <| Rc 1 [vi 5] <| Rk <| Runs.ret <| kB_ret <| kS_ret ?_
   obtain rfl := sj h
   exact ⟨nofun, rfl, (by kernel_rfl)⟩
  | false =>
   replace h := ite_f hb_3 h
   refine Rc 4 [vp [10] 0 0, vi z_1.Group, vp [1] 0 4, ⟨.d (.sl (List.map GrpDef.d m1.Groups)), []⟩] <| Rt (some 86) .lenL [] none [.d (.sl (List.map GrpDef.d m1.Groups))] (.i (m1.Groups.length : Int)) [] (cut_len _) <| Rc 3 [vb (decide (z_1.Group > (m1.Groups.length : Int))), vb (decide (z_1.Group > (m1.Groups.length : Int))), vb (decide (z_1.Group > (m1.Groups.length : Int)))] ?_
   cases hb_4 : ((decide (z_1.Group > (m1.Groups.length : Int))) : Bool) with
   | true =>
    replace h := ite_t hb_4 h
    refine Rc 12 [vn, vn, vn, vb true, vb true, vn, vn, vn, vn, vn, vn, vb true] <| Rk <| Ct <| Sq <| Ro <| Rc 1 [vi 5] <| Rk <| Runs.ret <| kB_ret <| kS_ret ?_
    obtain rfl := sj h
    exact ⟨nofun, rfl, (by kernel_rfl)⟩
   | false =>
    replace h := ite_f hb_4 h
    refine Rc 5 [vp [10] 0 1, vi z_1.Seg, vb (decide (z_1.Seg < 0)), vb (decide (z_1.Seg < 0)), vb (decide (z_1.Seg < 0))] ?_
    cases hb_5 : ((decide (z_1.Seg < 0)) : Bool) with
    | true =>
     replace h := ite_t hb_5 h
     refine Rc 7 [vn, vn, vn, vn, vn, vn, vb true] <| Rk <| Ct <| Sq <| Ro <| Rc 1 [vi 5] <| Rk <| Runs.ret <| kB_ret <| kS_ret ?_
     obtain rfl := sj h
     exact ⟨nofun, rfl, (by kernel_rfl)⟩
    | false =>
     replace h := ite_f hb_5 h
     refine Rc 4 [vp [10] 0 1, vi z_1.Seg, vp [1] 0 3, ⟨.d (.sl (List.map SegDef.d m1.Segs)), []⟩] <| Rt (some 99) .lenL [] none [.d (.sl (List.map SegDef.d m1.Segs))] (.i (m1.Segs.length : Int)) [] (cut_len _) <| Rc 2 [vb (decide (z_1.Seg > (m1.Segs.length : Int))), vb (decide (z_1.Seg > (m1.Segs.length : Int)))] <| Rk ?_
     cases hb_6 : ((decide (z_1.Seg > (m1.Segs.length : Int))) : Bool) with
     | true =>
      replace h := ite_t hb_6 h
      refine Ct <| Sq <| Ro <| Rc 1 [vi 5] <| Rk <| Runs.ret <| kB_ret <| kS_ret ?_
      obtain rfl := sj h
      exact ⟨nofun, rfl, (by kernel_rfl)⟩
     | false =>
      replace h := ite_f hb_6 h
      refine Cf <| Runs.skip <| kB_nrm <| kS_nrm <| Ro <| Rc 2 [vi (IntKind.wrap .i64 (t74 + 1)), vi (IntKind.wrap .i64 (t74 + 1))] <| Rd ?_
      obtain rfl := sj h
      exact ⟨rfl, (), Cz⟩
 | false =>
  replace h := ite_f hb_2 h
  refine Cf <| Runs.exit <| kS_exit ?_
  obtain rfl := sj h
  exact ⟨nofun, rfl, (), Cz⟩
theorem omf_Check_ok (m_ : Module) (r : Int) (h : omf_Check m_ = some r) : Runs L F7.body ⟨tmOf [.d (Module.d m_)] 0, updW (fun _ => none) []⟩ (omf_Check_Q m_ r) := by
 unfold omf_Check at h
 refine Sq <| Ro <| Rc 2 [⟨.ptr [1] 0 0, [([1], some (.cells [.d (.str m_.Name), .d (.sl (List.map Comment.d m_.Notes)), .d (.sl (List.map D.str m_.Names)), .d (.sl (List.map SegDef.d m_.Segs)), .d (.sl (List.map GrpDef.d m_.Groups)), .d (.sl (List.map Ext.d m_.Exts)), .d (.sl (List.map Pub.d m_.Pubs)), .d (.sl (List.map Data.d m_.Datas)), .b m_.Main, .b m_.Is, .i m_.Start.At, .i m_.Start.Loc, .b m_.Start.Self, .i m_.Start.Frame, .i m_.Start.FrameN, .i m_.Start.Target, .i m_.Start.N, .w m_.Start.Disp] 0))]⟩, vi 0] <| Rk <| Sq <| Sq <| Ro <| Rc 1 [⟨.d (Module.d m_), []⟩] ?_
 obtain ⟨r_1, hr_1, h⟩ := bind_s h
 have hc_1 := omf_many_L m_ r_1 hr_1
 refine Rt (some 12) (.callf 15) [] none [.d (Module.d m_)] (.b r_1) [] (cc hc_1) <| Rc 1 [vb (!r_1)] <| Rk ?_
 cases hb_1 : ((!r_1) : Bool) with
 | true =>
  replace h := ite_t hb_1 h
  refine Ct <| Sq <| Ro <| Rc 1 [vi 8] <| Rk <| Runs.ret <| kS_ret ?_
  cases h
  exact Fq
 | false =>
  replace h := ite_f hb_1 h
  refine Cf <| Runs.skip <| kS_nrm <| Sq <| Sq <| Ro <| Rc 2 [vp [1] 0 3, ⟨.d (.sl (List.map SegDef.d m_.Segs)), []⟩] <| Rt (some 16) .lenL [] none [.d (.sl (List.map SegDef.d m_.Segs))] (.i (m_.Segs.length : Int)) [] (cut_len _) <| Rc 1 [vi 0] <| Rk <| Runs.block ?_
  obtain ⟨e_1, he_1, h⟩ := bind_s h
  refine Runs.loop (fun x : Int => omf_Check_l14 m_ m_.Segs (m_.Segs.length : Int) x) (fun (x : Int) (g : Unit) => omf_Check_h14 m_ m_.Segs (m_.Segs.length : Int) x) (omf_Check_P14 m_ m_ m_.Segs (m_.Segs.length : Int)) (fun x g r hr => omf_Check_l14_ok m_ m_ m_.Segs (m_.Segs.length : Int) x  r hr) () he_1 Cz ?_
  rintro ⟨o, s⟩ hp
  cases e_1 with
  | inl e_2 =>
   obtain ⟨ho, hf⟩ := hp
   have ho' : o = .ret := ho
   subst ho'
   refine kB_ret <| kS_ret ?_
   obtain rfl := sj h
   exact ⟨Out.ret_ne, hf⟩
  | inr e_3 =>
   obtain ⟨ho, g_1, hk_1⟩ := hp
   have ho' : o = .exit 0 := ho
   subst ho'
   refine kB_hit <| kS_nrm <| Runs.canon _ hk_1 <| Sq <| Sq <| Ro <| Rc 2 [vp [1] 0 4, ⟨.d (.sl (List.map GrpDef.d m_.Groups)), []⟩] <| Rt (some 46) .lenL [] none [.d (.sl (List.map GrpDef.d m_.Groups))] (.i (m_.Groups.length : Int)) [] (cut_len _) <| Rc 1 [vi 0] <| Rk <| Runs.block ?_
   obtain ⟨e_4, he_2, h⟩ := bind_s h
   refine Runs.loop (fun x : Int => omf_Check_l45 m_ m_.Groups (m_.Groups.length : Int) x) (fun (x : Int) (g : Unit) => omf_Check_h45 m_ m_.Groups (m_.Groups.length : Int) x) (omf_Check_P45 m_ m_ m_.Groups (m_.Groups.length : Int)) (fun x g r hr => omf_Check_l45_ok m_ m_ m_.Groups (m_.Groups.length : Int) x  r hr) () he_2 Cz ?_
   rintro ⟨o, s⟩ hp
   cases e_4 with
   | inl e_5 =>
    obtain ⟨ho, hf⟩ := hp
    have ho' : o = .ret := ho
    subst ho'
    refine kB_ret <| kS_ret ?_
    obtain rfl := sj h
    exact ⟨Out.ret_ne, hf⟩
   | inr e_6 =>
    obtain ⟨ho, g_2, hk_2⟩ := hp
    have ho' : o = .exit 2 := ho
    subst ho'
    refine kB_hit <| kS_nrm <| Runs.canon _ hk_2 <| Sq <| Sq <| Ro <| Rc 2 [vp [1] 0 6, ⟨.d (.sl (List.map Pub.d m_.Pubs)), []⟩] <| Rt (some 73) .lenL [] none [.d (.sl (List.map Pub.d m_.Pubs))] (.i (m_.Pubs.length : Int)) [] (cut_len _) <| Rc 1 [vi 0] <| Rk <| Runs.block ?_
    obtain ⟨e_7, he_3, h⟩ := bind_s h
    refine Runs.loop (fun x : Int => omf_Check_l91 m_ m_.Pubs (m_.Pubs.length : Int) x) (fun (x : Int) (g : Unit) => omf_Check_h91 m_ m_.Pubs (m_.Pubs.length : Int) x) (omf_Check_P91 m_ m_ m_.Pubs (m_.Pubs.length : Int)) (fun x g r hr => omf_Check_l91_ok m_ m_ m_.Pubs (m_.Pubs.length : Int) x  r hr) () he_3 Cz ?_
    rintro ⟨o, s⟩ hp
    cases e_7 with
    | inl e_8 =>
     obtain ⟨ho, hf⟩ := hp
     have ho' : o = .ret := ho
     subst ho'
     refine kB_ret <| kS_ret ?_
     obtain rfl := sj h
     exact ⟨Out.ret_ne, hf⟩
    | inr e_9 =>
     obtain ⟨ho, g_3, hk_3⟩ := hp
     have ho' : o = .exit 6 := ho
     subst ho'
     refine kB_hit <| kS_nrm <| Runs.canon _ hk_3 <| Sq <| Ro <| Rc 1 [⟨.d (Module.d m_), []⟩] ?_
     obtain ⟨r_2, hr_2, h⟩ := bind_s h
     have hc_2 := omf_rest_L m_ r_2 hr_2
     refine Rt (some 104) (.callf 19) [] none [.d (Module.d m_)] (.i r_2) [] (cc hc_2) <| Rc 1 [vi r_2] <| Rk <| Runs.ret ?_
     cases h
     exact Fq
theorem omf_Check_L (m_ : Module) (r : Int) (h : omf_Check m_ = some r) : L 7 [.d (Module.d m_)] = some (.i r, [.d (Module.d m_)]) := by
 obtain ⟨p, ⟨hne, hf⟩, hr⟩ := omf_Check_ok m_ r h
 obtain ⟨k, hk⟩ := run_of (F := F7) (args := [.d (Module.d m_)]) (ap := [.d (Module.d m_)]) (bx0 := updW (fun _ => none) []) rfl rfl (by kernel_rfl) ⟨p, ⟨hne, hf⟩, hr⟩
 exact lim_run (k := k) rfl hk
def omf_Records_Q (m_ : Module) (r : ((List Record) × Int)) (p : Out × St) : Prop := (∀ i, p.1 ≠ .exit i) ∧ finF F12 [.d (Module.d m_)] p.2 = some (.tup [.d (.sl (List.map Record.d r.1)), .i r.2], [.d (Module.d m_)])
theorem omf_Records_ok (m_ : Module) (r : ((List Record) × Int)) (h : omf_Records m_ = some r) : Runs L F12.body ⟨tmOf [.d (Module.d m_)] 0, updW (fun _ => none) []⟩ (omf_Records_Q m_ r) := by
 unfold omf_Records at h
 refine Sq <| Ro <| Rc 3 [⟨.ptr [1] 0 0, [([1], some (.cells [.d (.str m_.Name), .d (.sl (List.map Comment.d m_.Notes)), .d (.sl (List.map D.str m_.Names)), .d (.sl (List.map SegDef.d m_.Segs)), .d (.sl (List.map GrpDef.d m_.Groups)), .d (.sl (List.map Ext.d m_.Exts)), .d (.sl (List.map Pub.d m_.Pubs)), .d (.sl (List.map Data.d m_.Datas)), .b m_.Main, .b m_.Is, .i m_.Start.At, .i m_.Start.Loc, .b m_.Start.Self, .i m_.Start.Frame, .i m_.Start.FrameN, .i m_.Start.Target, .i m_.Start.N, .w m_.Start.Disp] 0))]⟩, ⟨.nils, []⟩, vi 0] <| Rk <| Sq <| Sq <| Ro <| Rc 1 [⟨.d (Module.d m_), []⟩] ?_
 obtain ⟨r_1, hr_1, h⟩ := bind_s h
 have hc_1 := omf_Check_L m_ r_1 hr_1
 refine Rt (some 21) (.callf 7) [] none [.d (Module.d m_)] (.i r_1) [] (cc hc_1) <| Rc 1 [vi r_1] <| Rk <| Sq <| Ro <| Rc 2 [vi r_1, vb (r_1 != 0)] <| Rk ?_
 cases hb_1 : ((r_1 != 0) : Bool) with
 | true =>
  replace h := ite_t hb_1 h
  refine Ct <| Sq <| Ro <| Rc 3 [vi r_1, ⟨.nils, []⟩, vi r_1] <| Rk <| Sq <| Runs.gcons (frz_nil Record.d (by kernel_rfl)) <| Runs.gnil <| kS_nrm <| Runs.ret <| kS_ret ?_
  cases h
  exact Fq
 | false =>
  replace h := ite_f hb_1 h
  refine Cf <| Runs.skip <| kS_nrm <| Sq <| Sq ?_
  cases h
theorem omf_Records_L (m_ : Module) (r : ((List Record) × Int)) (h : omf_Records m_ = some r) : L 12 [.d (Module.d m_)] = some (.tup [.d (.sl (List.map Record.d r.1)), .i r.2], [.d (Module.d m_)]) := by
 obtain ⟨p, ⟨hne, hf⟩, hr⟩ := omf_Records_ok m_ r h
 obtain ⟨k, hk⟩ := run_of (F := F12) (args := [.d (Module.d m_)]) (ap := [.d (Module.d m_)]) (bx0 := updW (fun _ => none) []) rfl rfl (by kernel_rfl) ⟨p, ⟨hne, hf⟩, hr⟩
 exact lim_run (k := k) rfl hk
def omf_Write_Q (m_ : Module) (r : ((List Int) × Int)) (p : Out × St) : Prop := (∀ i, p.1 ≠ .exit i) ∧ finF F5 [.d (Module.d m_)] p.2 = some (.tup [.d (.sl (mY r.1)), .i r.2], [.d (Module.d m_)])
theorem omf_Write_ok (m_ : Module) (r : ((List Int) × Int)) (h : omf_Write m_ = some r) : Runs L F5.body ⟨tmOf [.d (Module.d m_)] 0, updW (fun _ => none) []⟩ (omf_Write_Q m_ r) := by
 unfold omf_Write at h
 refine Sq <| Ro <| Rc 3 [⟨.ptr [1] 0 0, [([1], some (.cells [.d (.str m_.Name), .d (.sl (List.map Comment.d m_.Notes)), .d (.sl (List.map D.str m_.Names)), .d (.sl (List.map SegDef.d m_.Segs)), .d (.sl (List.map GrpDef.d m_.Groups)), .d (.sl (List.map Ext.d m_.Exts)), .d (.sl (List.map Pub.d m_.Pubs)), .d (.sl (List.map Data.d m_.Datas)), .b m_.Main, .b m_.Is, .i m_.Start.At, .i m_.Start.Loc, .b m_.Start.Self, .i m_.Start.Frame, .i m_.Start.FrameN, .i m_.Start.Target, .i m_.Start.N, .w m_.Start.Disp] 0))]⟩, ⟨.nils, []⟩, vi 0] <| Rk <| Sq <| Ro <| Rc 1 [⟨.d (Module.d m_), []⟩] ?_
 obtain ⟨r_1, hr_1, h⟩ := bind_s h
 have hc_1 := omf_Records_L m_ r_1 hr_1
 refine Rt (some 8) (.callf 12) [] none [.d (Module.d m_)] (.tup [.d (.sl (List.map Record.d r_1.1)), .i r_1.2]) [] (cc hc_1) <| Rc 5 [⟨.tup [.d (.sl (List.map Record.d r_1.1)), .i r_1.2], []⟩, ⟨.d (.sl (List.map Record.d r_1.1)), []⟩, vi r_1.2, ⟨.d (.sl (List.map Record.d r_1.1)), []⟩, vi r_1.2] <| Rk <| Sq <| Sq <| Ro <| Rc 2 [vi r_1.2, vb (r_1.2 != 0)] <| Rk ?_
 cases hb_1 : ((r_1.2 != 0) : Bool) with
 | true =>
  replace h := ite_t hb_1 h
  refine Ct <| Sq <| Ro <| Rc 3 [vi r_1.2, ⟨.nils, []⟩, vi r_1.2] <| Rk <| Sq <| Runs.gcons (frz_nil (D.int .u8) (by kernel_rfl)) <| Runs.gnil <| kS_nrm <| Runs.ret <| kS_ret ?_
  cases h
  exact Fq
 | false =>
  replace h := ite_f hb_1 h
  refine Cf <| Runs.skip <| kS_nrm <| Sq ?_
  cases h
theorem omf_Write_L (m_ : Module) (r : ((List Int) × Int)) (h : omf_Write m_ = some r) : L 5 [.d (Module.d m_)] = some (.tup [.d (.sl (mY r.1)), .i r.2], [.d (Module.d m_)]) := by
 obtain ⟨p, ⟨hne, hf⟩, hr⟩ := omf_Write_ok m_ r h
 obtain ⟨k, hk⟩ := run_of (F := F5) (args := [.d (Module.d m_)]) (ap := [.d (Module.d m_)]) (bx0 := updW (fun _ => none) []) rfl rfl (by kernel_rfl) ⟨p, ⟨hne, hf⟩, hr⟩
 exact lim_run (k := k) rfl hk
def omf_Name_Q (m_ : Module) (n_ : Int) (r : (List UInt8)) (p : Out × St) : Prop := (∀ i, p.1 ≠ .exit i) ∧ finF F8 [.d (Module.d m_), .i n_] p.2 = some (.d (.str r), [.d (Module.d m_), .i n_])
theorem omf_Name_ok (m_ : Module) (n_ : Int) (r : (List UInt8)) (h : omf_Name m_ n_ = some r) : Runs L F8.body ⟨tmOf [.d (Module.d m_), .i n_] 0, updW (fun _ => none) []⟩ (omf_Name_Q m_ n_ r) := by
 unfold omf_Name at h
 refine Sq <| Ro <| Rc 2 [⟨.ptr [2] 0 0, [([2], some (.cells [.d (.str m_.Name), .d (.sl (List.map Comment.d m_.Notes)), .d (.sl (List.map D.str m_.Names)), .d (.sl (List.map SegDef.d m_.Segs)), .d (.sl (List.map GrpDef.d m_.Groups)), .d (.sl (List.map Ext.d m_.Exts)), .d (.sl (List.map Pub.d m_.Pubs)), .d (.sl (List.map Data.d m_.Datas)), .b m_.Main, .b m_.Is, .i m_.Start.At, .i m_.Start.Loc, .b m_.Start.Self, .i m_.Start.Frame, .i m_.Start.FrameN, .i m_.Start.Target, .i m_.Start.N, .w m_.Start.Disp] 0))]⟩, ⟨.d (.str ([] : List UInt8)), []⟩] <| Rk <| Sq <| Sq <| Ro <| Rc 3 [vi n_, vp [2] 0 2, ⟨.d (.sl (List.map D.str m_.Names)), []⟩] <| Rt (some 8) .lenL [] none [.d (.sl (List.map D.str m_.Names))] (.i (m_.Names.length : Int)) [] (cut_len _) ?_
 obtain ⟨r_1, hr_1, h⟩ := bind_s h
 have hc_1 := omf_in_L n_ (m_.Names.length : Int) r_1 hr_1
 refine Rt (some 9) (.callf 18) [] none [.i n_, .i (m_.Names.length : Int)] (.b r_1) [] (cc hc_1) <| Rc 1 [vb (!r_1)] <| Rk ?_
 cases hb_1 : ((!r_1) : Bool) with
 | true =>
  replace h := ite_t hb_1 h
  refine Ct <| Sq <| Ro <| Rc 1 [⟨.d (.str ([] : List UInt8)), []⟩] <| Rk <| Runs.ret <| kS_ret ?_
  cases h
  exact Fq
 | false =>
  replace h := ite_f hb_1 h
  refine Cf <| Runs.skip <| kS_nrm <| Sq <| Ro <| Rc 4 [vp [2] 0 2, ⟨.d (.sl (List.map D.str m_.Names)), []⟩, vi n_, vi (IntKind.wrap .i64 (n_ - 1))] ?_
  obtain ⟨z_1, hz_1, h⟩ := bind_s h
  refine Rt (some 15) (.iaddrS 1) [] none [.d (.sl (List.map D.str m_.Names)), .i (IntKind.wrap .i64 (n_ - 1))] (.elt (.str z_1) 0) [] (cut_at hz_1 (fun _ => rfl)) <| Rc 2 [⟨.d (.str z_1), []⟩, ⟨.d (.str z_1), []⟩] <| Rk <| Runs.ret ?_
  cases h
  exact Fq
theorem omf_Name_L (m_ : Module) (n_ : Int) (r : (List UInt8)) (h : omf_Name m_ n_ = some r) : L 8 [.d (Module.d m_), .i n_] = some (.d (.str r), [.d (Module.d m_), .i n_]) := by
 obtain ⟨p, ⟨hne, hf⟩, hr⟩ := omf_Name_ok m_ n_ r h
 obtain ⟨k, hk⟩ := run_of (F := F8) (args := [.d (Module.d m_), .i n_]) (ap := [.d (Module.d m_), .i n_]) (bx0 := updW (fun _ => none) []) rfl rfl (by kernel_rfl) ⟨p, ⟨hne, hf⟩, hr⟩
 exact lim_run (k := k) rfl hk
def hansomlaw26_OmfCheck_h37 (x7 : Module) (k8 : Int) (want9 : Int) (v_3_13 : Nat) (v_4_13 : Nat) (v_6_13 : Nat) (v_7_13 : Nat) : St := ⟨tab [(7, .ptr [7] 0 0), (8, .i k8), (9, .i want9)], tabB [([7], some (.cells [.d (.str x7.Name), .d (.sl (List.map Comment.d x7.Notes)), .d (.sl (List.map D.str x7.Names)), .ref [3, 13] v_3_13 0 (List.map SegDef.d x7.Segs).length 8, .ref [4, 13] v_4_13 0 (List.map GrpDef.d x7.Groups).length 2, .d (.sl (List.map Ext.d x7.Exts)), .ref [6, 13] v_6_13 0 (List.map Pub.d x7.Pubs).length 5, .ref [7, 13] v_7_13 0 (List.map Data.d x7.Datas).length 4, .b x7.Main, .b x7.Is, .i x7.Start.At, .i x7.Start.Loc, .b x7.Start.Self, .i x7.Start.Frame, .i x7.Start.FrameN, .i x7.Start.Target, .i x7.Start.N, .w x7.Start.Disp] 0)), ([3, 13], some (.arr (List.map SegDef.d x7.Segs) v_3_13 false)), ([4, 13], some (.arr (List.map GrpDef.d x7.Groups) v_4_13 false)), ([6, 13], some (.arr (List.map Pub.d x7.Pubs) v_6_13 false)), ([7, 13], some (.arr (List.map Data.d x7.Datas) v_7_13 false))]⟩
def hansomlaw26_OmfCheck_Q (m_ : Module) (kind_ : Int) (n_ : Int) (r : Bool) (p : Out × St) : Prop := (∀ i, p.1 ≠ .exit i) ∧ finF F3 [.d (Module.d m_), .i kind_, .i n_] p.2 = some (.b r, [.d (Module.d m_), .i kind_, .i n_])
end Go.Es.Omc
