/- What the functions that the law ScanAll reaches answer, in plain Lean. No condition. -/
import Derived.Test.YtncfbghdnnhfiaaEsD
set_option linter.unusedVariables false
set_option linter.unusedSimpArgs false
set_option maxRecDepth 100000
set_option maxHeartbeats 4000000
namespace Go.Es.Sca
structure Source where
 b : (List Int)
 at_ : Int
 deriving DecidableEq, Inhabited
def Source.cs (x : Source) : List D := [.sl (List.map (D.int .u8) x.b), .int .i64 x.at_]
def Source.d (x : Source) : D := .agg (Source.cs x)
structure Inst where
 Lock : Bool
 Rep : Int
 Seg : Int
 Op : Int
 Mod : Int
 Reg : Int
 RM : Int
 Disp : Int
 Imm : Int
 Sel : Int
 deriving DecidableEq, Inhabited
def Inst.cs (x : Inst) : List D := [.bool x.Lock, .int .i64 x.Rep, .int .i64 x.Seg, .int .u8 x.Op, .int .i64 x.Mod, .int .i64 x.Reg, .int .i64 x.RM, .int .u16 x.Disp, .int .u16 x.Imm, .int .u16 x.Sel]
def Inst.d (x : Inst) : D := .agg (Inst.cs x)
structure Row where
 Name : Int
 A : Int
 B : Int
 Mod : Bool
 deriving DecidableEq, Inhabited
def Row.cs (x : Row) : List D := [.int .i64 x.Name, .int .i64 x.A, .int .i64 x.B, .bool x.Mod]
def Row.d (x : Row) : D := .agg (Row.cs x)
def Source.wf (x : Source) : Prop := wfL (wfI .u8) x.b ∧ wfI .i64 x.at_
def Inst.wf (x : Inst) : Prop := (fun _ => True) x.Lock ∧ wfI .i64 x.Rep ∧ wfI .i64 x.Seg ∧ wfI .u8 x.Op ∧ wfI .i64 x.Mod ∧ wfI .i64 x.Reg ∧ wfI .i64 x.RM ∧ wfI .u16 x.Disp ∧ wfI .u16 x.Imm ∧ wfI .u16 x.Sel
def Row.wf (x : Row) : Prop := wfI .i64 x.Name ∧ wfI .i64 x.A ∧ wfI .i64 x.B ∧ (fun _ => True) x.Mod
noncomputable def scan_source_next (s_ : Source) : Option (Int × Source) :=
 if (decide (s_.at_ ≥ (s_.b.length : Int))) then
  none
 else
  (idx s_.b s_.at_).bind fun z_1 =>
  some (z_1, ({ b := s_.b, at_ := (IntKind.wrap .i64 (s_.at_ + 1)) } : Source))
noncomputable def isa_Prefix (b_ : Int) : Option Bool :=
 if (b_ == 38) then
  some true
 else
  if (b_ == 46) then
   some true
  else
   if (b_ == 54) then
    some true
   else
    if (b_ == 62) then
     some true
    else
     if (b_ == 240) then
      some true
     else
      if (b_ == 242) then
       some true
      else
       if (b_ == 243) then
        some true
       else
        some false
noncomputable def scan_source_ahead_j20 (s0 : Source) (i1 : Inst) (c5 : Int) (t27 : Bool) : Option (Lp (Source × Inst) (Int × Source × Inst)) :=
 if t27 then
  some (.next (s0, ({ i1 with Rep := (IntKind.wrap .i64 (IntKind.wrap .u8 (c5 - 241))) } : Inst)))
 else
  if (decide (c5 < 240)) then
   if (i1.Seg == 0) then
    some (.next (s0, ({ i1 with Seg := (IntKind.wrap .i64 ((shrI .i64 (IntKind.wrap .i64 (IntKind.wrap .u8 (c5 - 38))) 3) + 1)) } : Inst)))
   else
    none
  else
   none
noncomputable def scan_source_ahead_j16 (s0 : Source) (i1 : Inst) (c5 : Int) (t14 : Bool) : Option (Lp (Source × Inst) (Int × Source × Inst)) :=
 if t14 then
  some (.next (s0, ({ i1 with Lock := true } : Inst)))
 else
  if (decide (c5 ≥ 242)) then
   scan_source_ahead_j20 s0 i1 c5 (i1.Rep == 0)
  else
   scan_source_ahead_j20 s0 i1 c5 false
noncomputable def scan_source_ahead_l3 (s0 : Source) (i1 : Inst) : Option (Lp (Source × Inst) (Int × Source × Inst)) :=
 (scan_source_next s0).bind fun r_1 =>
 (isa_Prefix r_1.1).bind fun r_2 =>
 if (!r_2) then
  some (.out (r_1.1, r_1.2, i1))
 else
  if (r_1.1 == 240) then
   scan_source_ahead_j16 r_1.2 i1 r_1.1 (!i1.Lock)
  else
   scan_source_ahead_j16 r_1.2 i1 r_1.1 false
noncomputable def scan_source_ahead (s_ : Source) (i_ : Inst) : Option (Int × Source × Inst) :=
 (loopO (fun x : (Source × Inst) => scan_source_ahead_l3 x.1 x.2) (s_, i_)).bind fun e_1 =>
 some e_1
noncomputable def isa_mod (name_ : Int) (a_ : Int) (b_ : Int) : Option (Row × Bool) :=
 some (({ Name := name_, A := a_, B := b_, Mod := true } : Row), true)
noncomputable def isa_row (name_ : Int) (a_ : Int) (b_ : Int) : Option (Row × Bool) :=
 some (({ Name := name_, A := a_, B := b_, Mod := false } : Row), true)
noncomputable def isa_bad  : Option (Row × Bool) :=
 some (({ Name := 0, A := 0, B := 0, Mod := false } : Row), false)
noncomputable def isa_sums_j77 (b_2 : Row) (t47 : Int) (t56 : Bool) : Option (Row × Bool) :=
 if t56 then
  (isa_row 10 23 0).bind fun r_8 =>
  some (r_8.1, r_8.2)
 else
  if (t47 == 39) then
   (isa_row 11 0 0).bind fun r_9 =>
   some (r_9.1, r_9.2)
  else
   if (t47 == 47) then
    (isa_row 12 0 0).bind fun r_10 =>
    some (r_10.1, r_10.2)
   else
    if (t47 == 55) then
     (isa_row 13 0 0).bind fun r_11 =>
     some (r_11.1, r_11.2)
    else
     if (t47 == 63) then
      (isa_row 14 0 0).bind fun r_12 =>
      some (r_12.1, r_12.2)
     else
      (isa_bad).bind fun r_13 =>
      some (r_13.1, r_13.2)
noncomputable def isa_sums_j63 (b_2 : Row) (t47 : Int) (t48 : Bool) : Option (Row × Bool) :=
 if t48 then
  (isa_row 9 23 0).bind fun r_7 =>
  some (r_7.1, r_7.2)
 else
  if (t47 == 7) then
   isa_sums_j77 b_2 t47 true
  else
   if (t47 == 23) then
    isa_sums_j77 b_2 t47 true
   else
    isa_sums_j77 b_2 t47 (t47 == 31)
noncomputable def isa_sums (op_ : Int) : Option (Row × Bool) :=
 if ((bitsOp .and .u8 op_ 7) == 0) then
  (isa_mod (IntKind.wrap .i64 (1 + (IntKind.wrap .i64 (shrI .u8 op_ 3)))) 1 3).bind fun r_1 =>
  some (r_1.1, r_1.2)
 else
  if ((bitsOp .and .u8 op_ 7) == 1) then
   (isa_mod (IntKind.wrap .i64 (1 + (IntKind.wrap .i64 (shrI .u8 op_ 3)))) 2 4).bind fun r_2 =>
   some (r_2.1, r_2.2)
  else
   if ((bitsOp .and .u8 op_ 7) == 2) then
    (isa_mod (IntKind.wrap .i64 (1 + (IntKind.wrap .i64 (shrI .u8 op_ 3)))) 3 1).bind fun r_3 =>
    some (r_3.1, r_3.2)
   else
    if ((bitsOp .and .u8 op_ 7) == 3) then
     (isa_mod (IntKind.wrap .i64 (1 + (IntKind.wrap .i64 (shrI .u8 op_ 3)))) 4 2).bind fun r_4 =>
     some (r_4.1, r_4.2)
    else
     if ((bitsOp .and .u8 op_ 7) == 4) then
      (isa_row (IntKind.wrap .i64 (1 + (IntKind.wrap .i64 (shrI .u8 op_ 3)))) 14 6).bind fun r_5 =>
      some (r_5.1, r_5.2)
     else
      if ((bitsOp .and .u8 op_ 7) == 5) then
       (isa_row (IntKind.wrap .i64 (1 + (IntKind.wrap .i64 (shrI .u8 op_ 3)))) 16 7).bind fun r_6 =>
       some (r_6.1, r_6.2)
      else
       if (op_ == 6) then
        isa_sums_j63 ({ Name := 0, A := 0, B := 0, Mod := false } : Row) op_ true
       else
        if (op_ == 14) then
         isa_sums_j63 ({ Name := 0, A := 0, B := 0, Mod := false } : Row) op_ true
        else
         if (op_ == 22) then
          isa_sums_j63 ({ Name := 0, A := 0, B := 0, Mod := false } : Row) op_ true
         else
          isa_sums_j63 ({ Name := 0, A := 0, B := 0, Mod := false } : Row) op_ (op_ == 30)
noncomputable def isa_moves (op_ : Int) (reg_ : Int) : Option (Row × Bool) :=
 if (op_ == 128) then
  (isa_mod (IntKind.wrap .i64 (1 + reg_)) 1 6).bind fun r_1 =>
  some (r_1.1, r_1.2)
 else
  if (op_ == 129) then
   (isa_mod (IntKind.wrap .i64 (1 + reg_)) 2 7).bind fun r_2 =>
   some (r_2.1, r_2.2)
  else
   if (op_ == 131) then
    if (reg_ == 1) then
     (isa_bad).bind fun r_3 =>
     some (r_3.1, r_3.2)
    else
     if (reg_ == 4) then
      (isa_bad).bind fun r_4 =>
      some (r_4.1, r_4.2)
     else
      if (reg_ == 6) then
       (isa_bad).bind fun r_5 =>
       some (r_5.1, r_5.2)
      else
       (isa_mod (IntKind.wrap .i64 (1 + reg_)) 2 8).bind fun r_6 =>
       some (r_6.1, r_6.2)
   else
    if (op_ == 132) then
     (isa_mod 33 1 3).bind fun r_7 =>
     some (r_7.1, r_7.2)
    else
     if (op_ == 133) then
      (isa_mod 33 2 4).bind fun r_8 =>
      some (r_8.1, r_8.2)
     else
      if (op_ == 134) then
       (isa_mod 34 1 3).bind fun r_9 =>
       some (r_9.1, r_9.2)
      else
       if (op_ == 135) then
        (isa_mod 34 2 4).bind fun r_10 =>
        some (r_10.1, r_10.2)
       else
        if (op_ == 136) then
         (isa_mod 35 1 3).bind fun r_11 =>
         some (r_11.1, r_11.2)
        else
         if (op_ == 137) then
          (isa_mod 35 2 4).bind fun r_12 =>
          some (r_12.1, r_12.2)
         else
          if (op_ == 138) then
           (isa_mod 35 3 1).bind fun r_13 =>
           some (r_13.1, r_13.2)
          else
           if (op_ == 139) then
            (isa_mod 35 4 2).bind fun r_14 =>
            some (r_14.1, r_14.2)
           else
            if (op_ == 140) then
             if (decide (reg_ < 4)) then
              (isa_mod 35 2 5).bind fun r_15 =>
              some (r_15.1, r_15.2)
             else
              (isa_bad).bind fun r_16 =>
              some (r_16.1, r_16.2)
            else
             if (op_ == 141) then
              (isa_mod 36 4 20).bind fun r_17 =>
              some (r_17.1, r_17.2)
             else
              if (op_ == 142) then
               if (decide (reg_ < 4)) then
                if (reg_ != 1) then
                 (isa_mod 35 5 2).bind fun r_18 =>
                 some (r_18.1, r_18.2)
                else
                 (isa_bad).bind fun r_19 =>
                 some (r_19.1, r_19.2)
               else
                (isa_bad).bind fun r_20 =>
                some (r_20.1, r_20.2)
              else
               if (op_ == 143) then
                if (reg_ == 0) then
                 (isa_mod 10 2 0).bind fun r_21 =>
                 some (r_21.1, r_21.2)
                else
                 (isa_bad).bind fun r_22 =>
                 some (r_22.1, r_22.2)
               else
                (isa_bad).bind fun r_23 =>
                some (r_23.1, r_23.2)
noncomputable def isa_words (op_ : Int) : Option (Row × Bool) :=
 if (decide (op_ < 152)) then
  (isa_row 34 16 22).bind fun r_1 =>
  some (r_1.1, r_1.2)
 else
  if (op_ == 154) then
   (isa_row 40 11 0).bind fun r_2 =>
   some (r_2.1, r_2.2)
  else
   (idx ([37, 38, 0, 41, 42, 43, 44, 45] : List Int) (IntKind.wrap .u8 (op_ - 152))).bind fun z_1 =>
   (isa_row z_1 0 0).bind fun r_3 =>
   some (r_3.1, r_3.2)
noncomputable def isa_texts (op_ : Int) : Option (Row × Bool) :=
 if (op_ == 160) then
  (isa_row 35 14 12).bind fun r_1 =>
  some (r_1.1, r_1.2)
 else
  if (op_ == 161) then
   (isa_row 35 16 13).bind fun r_2 =>
   some (r_2.1, r_2.2)
  else
   if (op_ == 162) then
    (isa_row 35 12 14).bind fun r_3 =>
    some (r_3.1, r_3.2)
   else
    if (op_ == 163) then
     (isa_row 35 13 16).bind fun r_4 =>
     some (r_4.1, r_4.2)
    else
     if (op_ == 168) then
      (isa_row 33 14 6).bind fun r_5 =>
      some (r_5.1, r_5.2)
     else
      if (op_ == 169) then
       (isa_row 33 16 7).bind fun r_6 =>
       some (r_6.1, r_6.2)
      else
       if (decide (op_ < 168)) then
        (isa_row (IntKind.wrap .i64 (46 + (IntKind.wrap .i64 (IntKind.wrap .u8 (op_ - 164))))) 0 0).bind fun r_7 =>
        some (r_7.1, r_7.2)
       else
        (isa_row (IntKind.wrap .i64 (50 + (IntKind.wrap .i64 (IntKind.wrap .u8 (op_ - 170))))) 0 0).bind fun r_8 =>
        some (r_8.1, r_8.2)
noncomputable def isa_backs (op_ : Int) (reg_ : Int) : Option (Row × Bool) :=
 if (op_ == 194) then
  (isa_row 56 7 0).bind fun r_1 =>
  some (r_1.1, r_1.2)
 else
  if (op_ == 195) then
   (isa_row 56 0 0).bind fun r_2 =>
   some (r_2.1, r_2.2)
  else
   if (op_ == 196) then
    (isa_mod 58 4 19).bind fun r_3 =>
    some (r_3.1, r_3.2)
   else
    if (op_ == 197) then
     (isa_mod 59 4 19).bind fun r_4 =>
     some (r_4.1, r_4.2)
    else
     if (op_ == 198) then
      if (reg_ == 0) then
       (isa_mod 35 1 6).bind fun r_5 =>
       some (r_5.1, r_5.2)
      else
       (isa_bad).bind fun r_6 =>
       some (r_6.1, r_6.2)
     else
      if (op_ == 199) then
       if (reg_ == 0) then
        (isa_mod 35 2 7).bind fun r_7 =>
        some (r_7.1, r_7.2)
       else
        (isa_bad).bind fun r_8 =>
        some (r_8.1, r_8.2)
      else
       if (op_ == 202) then
        (isa_row 57 7 0).bind fun r_9 =>
        some (r_9.1, r_9.2)
       else
        if (op_ == 203) then
         (isa_row 57 0 0).bind fun r_10 =>
         some (r_10.1, r_10.2)
        else
         if (op_ == 204) then
          (isa_row 60 24 0).bind fun r_11 =>
          some (r_11.1, r_11.2)
         else
          if (op_ == 205) then
           (isa_row 60 6 0).bind fun r_12 =>
           some (r_12.1, r_12.2)
          else
           if (op_ == 206) then
            (isa_row 61 0 0).bind fun r_13 =>
            some (r_13.1, r_13.2)
           else
            if (op_ == 207) then
             (isa_row 62 0 0).bind fun r_14 =>
             some (r_14.1, r_14.2)
            else
             (isa_bad).bind fun r_15 =>
             some (r_15.1, r_15.2)
noncomputable def isa_turns (op_ : Int) (reg_ : Int) : Option (Row × Bool) :=
 if (decide (op_ < 212)) then
  if (reg_ == 6) then
   (isa_bad).bind fun r_1 =>
   some (r_1.1, r_1.2)
  else
   (idx ([63, 64, 65, 66, 67, 68, 0, 69] : List Int) reg_).bind fun z_1 =>
   if ((bitsOp .and .u8 op_ 1) == 1) then
    if ((bitsOp .and .u8 op_ 2) != 0) then
     (isa_mod z_1 2 15).bind fun r_2 =>
     some (r_2.1, r_2.2)
    else
     (isa_mod z_1 2 18).bind fun r_3 =>
     some (r_3.1, r_3.2)
   else
    if ((bitsOp .and .u8 op_ 2) != 0) then
     (isa_mod z_1 1 15).bind fun r_4 =>
     some (r_4.1, r_4.2)
    else
     (isa_mod z_1 1 18).bind fun r_5 =>
     some (r_5.1, r_5.2)
 else
  if (op_ == 212) then
   (isa_row 70 6 0).bind fun r_6 =>
   some (r_6.1, r_6.2)
  else
   if (op_ == 213) then
    (isa_row 71 6 0).bind fun r_7 =>
    some (r_7.1, r_7.2)
   else
    if (op_ == 215) then
     (isa_row 72 0 0).bind fun r_8 =>
     some (r_8.1, r_8.2)
    else
     if (decide (op_ ≥ 216)) then
      (isa_mod 73 2 0).bind fun r_9 =>
      some (r_9.1, r_9.2)
     else
      (isa_bad).bind fun r_10 =>
      some (r_10.1, r_10.2)
noncomputable def isa_goes_j20 (b_2 : Row) (op0 : Int) (t4 : Int) (t5 : Bool) : Option (Row × Bool) :=
 if t5 then
  (isa_row (IntKind.wrap .i64 (74 + (IntKind.wrap .i64 (IntKind.wrap .u8 (op0 - 224))))) 9 0).bind fun r_1 =>
  some (r_1.1, r_1.2)
 else
  if (t4 == 228) then
   (isa_row 78 14 6).bind fun r_2 =>
   some (r_2.1, r_2.2)
  else
   if (t4 == 229) then
    (isa_row 78 16 6).bind fun r_3 =>
    some (r_3.1, r_3.2)
   else
    if (t4 == 230) then
     (isa_row 79 6 14).bind fun r_4 =>
     some (r_4.1, r_4.2)
    else
     if (t4 == 231) then
      (isa_row 79 6 16).bind fun r_5 =>
      some (r_5.1, r_5.2)
     else
      if (t4 == 232) then
       (isa_row 39 10 0).bind fun r_6 =>
       some (r_6.1, r_6.2)
      else
       if (t4 == 233) then
        (isa_row 80 10 0).bind fun r_7 =>
        some (r_7.1, r_7.2)
       else
        if (t4 == 234) then
         (isa_row 81 11 0).bind fun r_8 =>
         some (r_8.1, r_8.2)
        else
         if (t4 == 235) then
          (isa_row 80 9 0).bind fun r_9 =>
          some (r_9.1, r_9.2)
         else
          if (t4 == 236) then
           (isa_row 78 14 17).bind fun r_10 =>
           some (r_10.1, r_10.2)
          else
           if (t4 == 237) then
            (isa_row 78 16 17).bind fun r_11 =>
            some (r_11.1, r_11.2)
           else
            if (t4 == 238) then
             (isa_row 79 17 14).bind fun r_12 =>
             some (r_12.1, r_12.2)
            else
             (isa_row 79 17 16).bind fun r_13 =>
             some (r_13.1, r_13.2)
noncomputable def isa_goes (op_ : Int) : Option (Row × Bool) :=
 if (op_ == 224) then
  isa_goes_j20 ({ Name := 0, A := 0, B := 0, Mod := false } : Row) op_ op_ true
 else
  if (op_ == 225) then
   isa_goes_j20 ({ Name := 0, A := 0, B := 0, Mod := false } : Row) op_ op_ true
  else
   if (op_ == 226) then
    isa_goes_j20 ({ Name := 0, A := 0, B := 0, Mod := false } : Row) op_ op_ true
   else
    isa_goes_j20 ({ Name := 0, A := 0, B := 0, Mod := false } : Row) op_ op_ (op_ == 227)
noncomputable def isa_rest_j37 (b_4 : Row) (op0 : Int) (reg1 : Int) (e6 : Int) (i7 : Int) : Option (Row × Bool) :=
 if (decide (op0 < 248)) then
  if (reg1 == 0) then
   (isa_mod 33 e6 i7).bind fun r_5 =>
   some (r_5.1, r_5.2)
  else
   if (reg1 == 1) then
    (isa_bad).bind fun r_6 =>
    some (r_6.1, r_6.2)
   else
    (isa_mod (IntKind.wrap .i64 ((IntKind.wrap .i64 (84 + reg1)) - 2)) e6 0).bind fun r_7 =>
    some (r_7.1, r_7.2)
 else
  if (decide (reg1 < 2)) then
   (isa_mod (IntKind.wrap .i64 (15 + reg1)) e6 0).bind fun r_8 =>
   some (r_8.1, r_8.2)
  else
   if (op0 == 254) then
    (isa_bad).bind fun r_9 =>
    some (r_9.1, r_9.2)
   else
    if (reg1 == 7) then
     (isa_bad).bind fun r_10 =>
     some (r_10.1, r_10.2)
    else
     (idx ([39, 40, 80, 81, 9] : List Int) (IntKind.wrap .i64 (reg1 - 2))).bind fun z_1 =>
     if (reg1 == 3) then
      (isa_mod z_1 19 0).bind fun r_11 =>
      some (r_11.1, r_11.2)
     else
      if (reg1 == 5) then
       (isa_mod z_1 19 0).bind fun r_12 =>
       some (r_12.1, r_12.2)
      else
       (isa_mod z_1 e6 0).bind fun r_13 =>
       some (r_13.1, r_13.2)
noncomputable def isa_rest_j18 (b_4 : Row) (op0 : Int) (reg1 : Int) (t21 : Bool) : Option (Row × Bool) :=
 if t21 then
  (isa_row (IntKind.wrap .i64 (90 + (IntKind.wrap .i64 (IntKind.wrap .u8 (op0 - 248))))) 0 0).bind fun r_3 =>
  some (r_3.1, r_3.2)
 else
  if (decide (op0 < 246)) then
   (isa_bad).bind fun r_4 =>
   some (r_4.1, r_4.2)
  else
   if ((bitsOp .and .u8 op0 1) == 1) then
    isa_rest_j37 b_4 op0 reg1 2 7
   else
    isa_rest_j37 b_4 op0 reg1 1 6
noncomputable def isa_rest (op_ : Int) (reg_ : Int) : Option (Row × Bool) :=
 if (op_ == 244) then
  (isa_row 82 0 0).bind fun r_1 =>
  some (r_1.1, r_1.2)
 else
  if (op_ == 245) then
   (isa_row 83 0 0).bind fun r_2 =>
   some (r_2.1, r_2.2)
  else
   if (decide (op_ ≥ 248)) then
    isa_rest_j18 ({ Name := 0, A := 0, B := 0, Mod := false } : Row) op_ reg_ (decide (op_ < 254))
   else
    isa_rest_j18 ({ Name := 0, A := 0, B := 0, Mod := false } : Row) op_ reg_ false
noncomputable def isa_Of (op_ : Int) (reg_ : Int) : Option (Row × Bool) :=
 if (decide (op_ < 64)) then
  (isa_sums op_).bind fun r_1 =>
  some (r_1.1, r_1.2)
 else
  if (decide (op_ < 96)) then
   (idx ([15, 16, 9, 10] : List Int) (shrI .u8 (IntKind.wrap .u8 (op_ - 64)) 3)).bind fun z_1 =>
   (isa_row z_1 22 0).bind fun r_2 =>
   some (r_2.1, r_2.2)
  else
   if (decide (op_ < 112)) then
    (isa_bad).bind fun r_3 =>
    some (r_3.1, r_3.2)
   else
    if (decide (op_ < 128)) then
     (isa_row (IntKind.wrap .i64 (17 + (IntKind.wrap .i64 (IntKind.wrap .u8 (op_ - 112))))) 9 0).bind fun r_4 =>
     some (r_4.1, r_4.2)
    else
     if (decide (op_ < 144)) then
      (isa_moves op_ (bitsOp .and .i64 reg_ 7)).bind fun r_5 =>
      some (r_5.1, r_5.2)
     else
      if (decide (op_ < 160)) then
       (isa_words op_).bind fun r_6 =>
       some (r_6.1, r_6.2)
      else
       if (decide (op_ < 176)) then
        (isa_texts op_).bind fun r_7 =>
        some (r_7.1, r_7.2)
       else
        if (decide (op_ < 184)) then
         (isa_row 35 21 6).bind fun r_8 =>
         some (r_8.1, r_8.2)
        else
         if (decide (op_ < 192)) then
          (isa_row 35 22 7).bind fun r_9 =>
          some (r_9.1, r_9.2)
         else
          if (decide (op_ < 208)) then
           (isa_backs op_ (bitsOp .and .i64 reg_ 7)).bind fun r_10 =>
           some (r_10.1, r_10.2)
          else
           if (decide (op_ < 224)) then
            (isa_turns op_ (bitsOp .and .i64 reg_ 7)).bind fun r_11 =>
            some (r_11.1, r_11.2)
           else
            if (decide (op_ < 240)) then
             (isa_goes op_).bind fun r_12 =>
             some (r_12.1, r_12.2)
            else
             (isa_rest op_ (bitsOp .and .i64 reg_ 7)).bind fun r_13 =>
             some (r_13.1, r_13.2)
noncomputable def isa_Two_l6 (op0 : Int) (t6 : Int) : Option (Lp Int (Bool ⊕ Unit)) :=
 if (decide (t6 < 8)) then
  (isa_Of op0 t6).bind fun r_1 =>
  if r_1.2 then
   if r_1.1.Mod then
    some (.out (.inl true))
   else
    some (.next (IntKind.wrap .i64 (t6 + 1)))
  else
   some (.next (IntKind.wrap .i64 (t6 + 1)))
 else
  some (.out (.inr ()))
noncomputable def isa_Two (op_ : Int) : Option Bool :=
 (loopO (fun x : Int => isa_Two_l6 op_ x) 0).bind fun e_1 =>
 match e_1 with
 | .inl e_2 =>
  some e_2
 | .inr e_3 =>
  some false
noncomputable def inst_Disps (mod_ : Int) (rm_ : Int) : Option Int :=
 if (mod_ == 1) then
  some 1
 else
  if (mod_ == 2) then
   some 2
  else
   if (mod_ == 0) then
    if (rm_ == 6) then
     some 2
    else
     some 0
   else
    some 0
noncomputable def bits_Sign (b_ : Int) : Option Int :=
 some (IntKind.wrap .u16 (IntKind.wrap .i16 (IntKind.wrap .i8 b_)))
noncomputable def bits_Word (low_ : Int) (high_ : Int) : Option Int :=
 some (bitsOp .or .u16 (IntKind.wrap .u16 low_) (shlI .u16 (IntKind.wrap .u16 high_) 8))
noncomputable def scan_source_word (s_ : Source) : Option (Int × Source) :=
 (scan_source_next s_).bind fun r_1 =>
 (scan_source_next r_1.2).bind fun r_2 =>
 (bits_Word r_1.1 r_2.1).bind fun r_3 =>
 some (r_3, r_2.2)
noncomputable def scan_source_second (s_ : Source) (i_ : Inst) : Option (Inst × Source) :=
 (scan_source_next s_).bind fun r_1 =>
 (inst_Disps (shrI .i64 (IntKind.wrap .i64 r_1.1) 6) (bitsOp .and .i64 (IntKind.wrap .i64 r_1.1) 7)).bind fun r_2 =>
 if (r_2 == 1) then
  (scan_source_next r_1.2).bind fun r_3 =>
  (bits_Sign r_3.1).bind fun r_4 =>
  some (({ i_ with Mod := (shrI .i64 (IntKind.wrap .i64 r_1.1) 6), Reg := (bitsOp .and .i64 (shrI .i64 (IntKind.wrap .i64 r_1.1) 3) 7), RM := (bitsOp .and .i64 (IntKind.wrap .i64 r_1.1) 7), Disp := r_4 } : Inst), r_3.2)
 else
  if (r_2 == 2) then
   (scan_source_word r_1.2).bind fun r_5 =>
   some (({ i_ with Mod := (shrI .i64 (IntKind.wrap .i64 r_1.1) 6), Reg := (bitsOp .and .i64 (shrI .i64 (IntKind.wrap .i64 r_1.1) 3) 7), RM := (bitsOp .and .i64 (IntKind.wrap .i64 r_1.1) 7), Disp := r_5.1 } : Inst), r_5.2)
  else
   some (({ i_ with Mod := (shrI .i64 (IntKind.wrap .i64 r_1.1) 6), Reg := (bitsOp .and .i64 (shrI .i64 (IntKind.wrap .i64 r_1.1) 3) 7), RM := (bitsOp .and .i64 (IntKind.wrap .i64 r_1.1) 7) } : Inst), r_1.2)
noncomputable def isa_Immediate_j16 (t3 : Int) (t4 : Bool) : Option Int :=
 if t4 then
  some 1
 else
  if (t3 == 7) then
   some 2
  else
   if (t3 == 10) then
    some 2
   else
    if (t3 == 12) then
     some 2
    else
     if (t3 == 13) then
      some 2
     else
      if (t3 == 11) then
       some 4
      else
       some 0
noncomputable def isa_Immediate (op_ : Int) : Option Int :=
 if (op_ == 6) then
  isa_Immediate_j16 op_ true
 else
  if (op_ == 8) then
   isa_Immediate_j16 op_ true
  else
   isa_Immediate_j16 op_ (op_ == 9)
noncomputable def inst_Imms (r_ : Row) : Option Int :=
 (isa_Immediate r_.A).bind fun r_1 =>
 (isa_Immediate r_.B).bind fun r_2 =>
 some (IntKind.wrap .i64 (r_1 + r_2))
noncomputable def bits_Low (w_ : Int) : Option Int :=
 some (IntKind.wrap .u8 w_)
noncomputable def scan_source_behind (s_ : Source) (i_ : Inst) (r_ : Row) : Option (Inst × Source) :=
 (inst_Imms r_).bind fun r_1 =>
 if (r_1 == 1) then
  (scan_source_next s_).bind fun r_2 =>
  if (r_.A == 9) then
   (bits_Low (IntKind.wrap .u16 r_2.1)).bind fun r_3 =>
   (bits_Sign r_3).bind fun r_4 =>
   some (({ i_ with Imm := r_4 } : Inst), r_2.2)
  else
   if (r_.B == 8) then
    (bits_Low (IntKind.wrap .u16 r_2.1)).bind fun r_5 =>
    (bits_Sign r_5).bind fun r_6 =>
    some (({ i_ with Imm := r_6 } : Inst), r_2.2)
   else
    some (({ i_ with Imm := (IntKind.wrap .u16 r_2.1) } : Inst), r_2.2)
 else
  if (r_1 == 2) then
   (scan_source_word s_).bind fun r_7 =>
   some (({ i_ with Imm := r_7.1 } : Inst), r_7.2)
  else
   if (r_1 == 4) then
    (scan_source_word s_).bind fun r_8 =>
    (scan_source_word r_8.2).bind fun r_9 =>
    some (({ i_ with Imm := r_8.1, Sel := r_9.1 } : Inst), r_9.2)
   else
    some (i_, s_)
noncomputable def inst_Row (i_ : Inst) : Option (Row × Bool) :=
 (isa_Prefix i_.Op).bind fun r_1 =>
 if r_1 then
  some (({ Name := 0, A := 0, B := 0, Mod := false } : Row), false)
 else
  (isa_Of i_.Op i_.Reg).bind fun r_2 =>
  some (r_2.1, r_2.2)
noncomputable def bits_Fits (w_ : Int) : Option Bool :=
 (bits_Low w_).bind fun r_1 =>
 (bits_Sign r_1).bind fun r_2 =>
 some (r_2 == w_)
noncomputable def inst_second_j26 (i2 : Inst) : Option Bool :=
 (inst_Disps i2.Mod i2.RM).bind fun r_1 =>
 if (r_1 == 0) then
  some (i2.Disp == 0)
 else
  if (r_1 == 1) then
   (bits_Fits i2.Disp).bind fun r_2 =>
   some r_2
  else
   some true
noncomputable def inst_second (i_ : Inst) (r_ : Row) : Option Bool :=
 if (!r_.Mod) then
  if (i_.Mod == 0) then
   if (i_.Reg == 0) then
    if (i_.RM == 0) then
     some (i_.Disp == 0)
    else
     some false
   else
    some false
  else
   some false
 else
  if (decide (i_.Mod < 0)) then
   some false
  else
   if (decide (i_.Mod > 3)) then
    some false
   else
    if (decide (i_.Reg < 0)) then
     some false
    else
     if (decide (i_.Reg > 7)) then
      some false
     else
      if (decide (i_.RM < 0)) then
       some false
      else
       if (decide (i_.RM > 7)) then
        some false
       else
        if (i_.Mod == 3) then
         if (r_.A == 19) then
          some false
         else
          if (r_.B == 19) then
           some false
          else
           if (r_.B == 20) then
            some false
           else
            inst_second_j26 i_
        else
         inst_second_j26 i_
noncomputable def inst_behind_j32 (i2 : Inst) (r3 : Row) (t11 : (A2 Int)) (t12 : Int) (t15 : Int) (t41 : Bool) : Option (Lp Int (Bool ⊕ Unit)) :=
 if t41 then
  (bits_Fits i2.Imm).bind fun r_1 =>
  if r_1 then
   some (.out (.inl (i2.Sel == 0)))
  else
   some (.out (.inl false))
 else
  if (t15 == 7) then
   some (.out (.inl (i2.Sel == 0)))
  else
   if (t15 == 10) then
    some (.out (.inl (i2.Sel == 0)))
   else
    if (t15 == 12) then
     some (.out (.inl (i2.Sel == 0)))
    else
     if (t15 == 13) then
      some (.out (.inl (i2.Sel == 0)))
     else
      if (t15 == 11) then
       some (.out (.inl true))
      else
       some (.next (IntKind.wrap .i64 (t12 + 1)))
noncomputable def inst_behind_l6 (i2 : Inst) (r3 : Row) (t11 : (A2 Int)) (t12 : Int) : Option (Lp Int (Bool ⊕ Unit)) :=
 if (decide (t12 < 2)) then
  (idx t11.l t12).bind fun z_1 =>
  if (z_1 == 6) then
   if (decide (i2.Imm < 256)) then
    if (i2.Sel == 0) then
     if (r3.Name != 70) then
      if (r3.Name != 71) then
       some (.out (.inl true))
      else
       some (.out (.inl (i2.Imm == 10)))
     else
      some (.out (.inl (i2.Imm == 10)))
    else
     some (.out (.inl false))
   else
    some (.out (.inl false))
  else
   if (z_1 == 8) then
    inst_behind_j32 i2 r3 t11 t12 z_1 true
   else
    inst_behind_j32 i2 r3 t11 t12 z_1 (z_1 == 9)
 else
  some (.out (.inr ()))
noncomputable def inst_behind (i_ : Inst) (r_ : Row) : Option Bool :=
 (loopO (fun x : Int => inst_behind_l6 i_ r_ ({ a0 := r_.A, a1 := r_.B } : (A2 Int)) x) 0).bind fun e_1 =>
 match e_1 with
 | .inl e_2 =>
  some e_2
 | .inr e_3 =>
  if (i_.Imm == 0) then
   some (i_.Sel == 0)
  else
   some false
noncomputable def isa_Repeats_j28 (t3 : Int) (t4 : Bool) : Option Int :=
 if t4 then
  some 1
 else
  if (t3 == 48) then
   some 2
  else
   if (t3 == 49) then
    some 2
   else
    if (t3 == 54) then
     some 2
    else
     if (t3 == 55) then
      some 2
     else
      some 0
noncomputable def isa_Repeats (name_ : Int) : Option Int :=
 if (name_ == 46) then
  isa_Repeats_j28 name_ true
 else
  if (name_ == 47) then
   isa_Repeats_j28 name_ true
  else
   if (name_ == 50) then
    isa_Repeats_j28 name_ true
   else
    if (name_ == 51) then
     isa_Repeats_j28 name_ true
    else
     if (name_ == 52) then
      isa_Repeats_j28 name_ true
     else
      isa_Repeats_j28 name_ (name_ == 53)
noncomputable def inst_prefixes (i_ : Inst) (r_ : Row) : Option Bool :=
 (isa_Repeats r_.Name).bind fun r_1 =>
 if (i_.Rep == 0) then
  if (decide (i_.Seg ≥ 0)) then
   some (decide (i_.Seg ≤ 4))
  else
   some false
 else
  if (i_.Rep == 1) then
   if (decide (r_1 < 2)) then
    some false
   else
    if (decide (i_.Seg ≥ 0)) then
     some (decide (i_.Seg ≤ 4))
    else
     some false
  else
   if (i_.Rep == 2) then
    if (decide (r_1 < 1)) then
     some false
    else
     if (decide (i_.Seg ≥ 0)) then
      some (decide (i_.Seg ≤ 4))
     else
      some false
   else
    some false
noncomputable def inst_May (i_ : Inst) : Option Bool :=
 (inst_Row i_).bind fun r_1 =>
 if r_1.2 then
  (inst_second i_ r_1.1).bind fun r_2 =>
  if r_2 then
   (inst_behind i_ r_1.1).bind fun r_3 =>
   if r_3 then
    (inst_prefixes i_ r_1.1).bind fun r_4 =>
    some r_4
   else
    some false
  else
   some false
 else
  some false
noncomputable def scan_source_take_j12 (s0 : Source) (b_2 : Inst) (i3 : Inst) : Option (Inst × Source) :=
 (isa_Of i3.Op i3.Reg).bind fun r_4 =>
 if (!r_4.2) then
  none
 else
  (scan_source_behind s0 i3 r_4.1).bind fun r_5 =>
  (inst_May r_5.1).bind fun r_6 =>
  if (!r_6) then
   none
  else
   some (r_5.1, r_5.2)
noncomputable def scan_source_take (s_ : Source) : Option (Inst × Source) :=
 (scan_source_ahead s_ ({ Lock := false, Rep := 0, Seg := 0, Op := 0, Mod := 0, Reg := 0, RM := 0, Disp := 0, Imm := 0, Sel := 0 } : Inst)).bind fun r_1 =>
 (isa_Two r_1.1).bind fun r_2 =>
 if r_2 then
  (scan_source_second r_1.2.1 ({ r_1.2.2 with Op := r_1.1 } : Inst)).bind fun r_3 =>
  scan_source_take_j12 r_3.2 ({ Lock := false, Rep := 0, Seg := 0, Op := 0, Mod := 0, Reg := 0, RM := 0, Disp := 0, Imm := 0, Sel := 0 } : Inst) r_3.1
 else
  scan_source_take_j12 r_1.2.1 ({ Lock := false, Rep := 0, Seg := 0, Op := 0, Mod := 0, Reg := 0, RM := 0, Disp := 0, Imm := 0, Sel := 0 } : Inst) ({ r_1.2.2 with Op := r_1.1 } : Inst)
noncomputable def scan_source_next_D (s_ : Source) : Option Int :=
 if (decide (s_.at_ ≥ (s_.b.length : Int))) then
  some 2
 else
  (idx s_.b s_.at_).bind fun z_1 =>
  none
noncomputable def scan_source_ahead_D_j20 (s0 : Source) (i1 : Inst) (c5 : Int) (t27 : Bool) : Option (Lp (Source × Inst) Int) :=
 if t27 then
  some (.next (s0, ({ i1 with Rep := (IntKind.wrap .i64 (IntKind.wrap .u8 (c5 - 241))) } : Inst)))
 else
  if (decide (c5 < 240)) then
   if (i1.Seg == 0) then
    some (.next (s0, ({ i1 with Seg := (IntKind.wrap .i64 ((shrI .i64 (IntKind.wrap .i64 (IntKind.wrap .u8 (c5 - 38))) 3) + 1)) } : Inst)))
   else
    some (.out 3)
  else
   some (.out 3)
noncomputable def scan_source_ahead_D_j16 (s0 : Source) (i1 : Inst) (c5 : Int) (t14 : Bool) : Option (Lp (Source × Inst) Int) :=
 if t14 then
  some (.next (s0, ({ i1 with Lock := true } : Inst)))
 else
  if (decide (c5 ≥ 242)) then
   scan_source_ahead_D_j20 s0 i1 c5 (i1.Rep == 0)
  else
   scan_source_ahead_D_j20 s0 i1 c5 false
noncomputable def scan_source_ahead_D_l3 (s0 : Source) (i1 : Inst) : Option (Lp (Source × Inst) Int) :=
 orL (scan_source_next_D s0) <|
 (scan_source_next s0).bind fun r_1 =>
 (isa_Prefix r_1.1).bind fun r_2 =>
 if (!r_2) then
  none
 else
  if (r_1.1 == 240) then
   scan_source_ahead_D_j16 r_1.2 i1 r_1.1 (!i1.Lock)
  else
   scan_source_ahead_D_j16 r_1.2 i1 r_1.1 false
noncomputable def scan_source_ahead_D (s_ : Source) (i_ : Inst) : Option Int :=
 loopO (fun x : (Source × Inst) => scan_source_ahead_D_l3 x.1 x.2) (s_, i_)
noncomputable def scan_source_word_D (s_ : Source) : Option Int :=
 orD (scan_source_next_D s_) <|
 (scan_source_next s_).bind fun r_1 =>
 orD (scan_source_next_D r_1.2) <|
 (scan_source_next r_1.2).bind fun r_2 =>
 (bits_Word r_1.1 r_2.1).bind fun r_3 =>
 none
noncomputable def scan_source_second_D (s_ : Source) (i_ : Inst) : Option Int :=
 orD (scan_source_next_D s_) <|
 (scan_source_next s_).bind fun r_1 =>
 (inst_Disps (shrI .i64 (IntKind.wrap .i64 r_1.1) 6) (bitsOp .and .i64 (IntKind.wrap .i64 r_1.1) 7)).bind fun r_2 =>
 if (r_2 == 1) then
  orD (scan_source_next_D r_1.2) <|
  (scan_source_next r_1.2).bind fun r_3 =>
  (bits_Sign r_3.1).bind fun r_4 =>
  none
 else
  if (r_2 == 2) then
   orD (scan_source_word_D r_1.2) <|
   (scan_source_word r_1.2).bind fun r_5 =>
   none
  else
   none
noncomputable def scan_source_behind_D (s_ : Source) (i_ : Inst) (r_ : Row) : Option Int :=
 (inst_Imms r_).bind fun r_1 =>
 if (r_1 == 1) then
  orD (scan_source_next_D s_) <|
  (scan_source_next s_).bind fun r_2 =>
  if (r_.A == 9) then
   (bits_Low (IntKind.wrap .u16 r_2.1)).bind fun r_3 =>
   (bits_Sign r_3).bind fun r_4 =>
   none
  else
   if (r_.B == 8) then
    (bits_Low (IntKind.wrap .u16 r_2.1)).bind fun r_5 =>
    (bits_Sign r_5).bind fun r_6 =>
    none
   else
    none
 else
  if (r_1 == 2) then
   orD (scan_source_word_D s_) <|
   (scan_source_word s_).bind fun r_7 =>
   none
  else
   if (r_1 == 4) then
    orD (scan_source_word_D s_) <|
    (scan_source_word s_).bind fun r_8 =>
    orD (scan_source_word_D r_8.2) <|
    (scan_source_word r_8.2).bind fun r_9 =>
    none
   else
    none
noncomputable def scan_source_take_D_j12 (s0 : Source) (b_2 : Inst) (i3 : Inst) : Option Int :=
 (isa_Of i3.Op i3.Reg).bind fun r_4 =>
 if (!r_4.2) then
  some 3
 else
  orD (scan_source_behind_D s0 i3 r_4.1) <|
  (scan_source_behind s0 i3 r_4.1).bind fun r_5 =>
  (inst_May r_5.1).bind fun r_6 =>
  if (!r_6) then
   some 3
  else
   none
noncomputable def scan_source_take_D (s_ : Source) : Option Int :=
 orD (scan_source_ahead_D s_ ({ Lock := false, Rep := 0, Seg := 0, Op := 0, Mod := 0, Reg := 0, RM := 0, Disp := 0, Imm := 0, Sel := 0 } : Inst)) <|
 (scan_source_ahead s_ ({ Lock := false, Rep := 0, Seg := 0, Op := 0, Mod := 0, Reg := 0, RM := 0, Disp := 0, Imm := 0, Sel := 0 } : Inst)).bind fun r_1 =>
 (isa_Two r_1.1).bind fun r_2 =>
 if r_2 then
  orD (scan_source_second_D r_1.2.1 ({ r_1.2.2 with Op := r_1.1 } : Inst)) <|
  (scan_source_second r_1.2.1 ({ r_1.2.2 with Op := r_1.1 } : Inst)).bind fun r_3 =>
  scan_source_take_D_j12 r_3.2 ({ Lock := false, Rep := 0, Seg := 0, Op := 0, Mod := 0, Reg := 0, RM := 0, Disp := 0, Imm := 0, Sel := 0 } : Inst) r_3.1
 else
  scan_source_take_D_j12 r_1.2.1 ({ Lock := false, Rep := 0, Seg := 0, Op := 0, Mod := 0, Reg := 0, RM := 0, Disp := 0, Imm := 0, Sel := 0 } : Inst) ({ r_1.2.2 with Op := r_1.1 } : Inst)
noncomputable def hansomref05_prefix (b_ : Int) : Option Bool :=
 if (b_ == 38) then
  some true
 else
  if (b_ == 46) then
   some true
  else
   if (b_ == 54) then
    some true
   else
    if (b_ == 62) then
     some true
    else
     if (b_ == 240) then
      some true
     else
      if (b_ == 242) then
       some true
      else
       some (b_ == 243)
noncomputable def hansomref04_word_l19 (s0 : (List UInt8)) (n1 : Int) (at5 : Int) (k6 : Int) : Option (Lp Int Int) :=
 if (decide (at5 < (s0.length : Int))) then
  (idx s0 at5).bind fun z_1 =>
  if ((z_1.toNat : Int) != 32) then
   some (.next (IntKind.wrap .i64 (at5 + 1)))
  else
   some (.out at5)
 else
  some (.out at5)
noncomputable def hansomref04_word_l8 (s0 : (List UInt8)) (n1 : Int) (at5 : Int) (k6 : Int) : Option (Lp (Int × Int) Int) :=
 if (decide (k6 < n1)) then
  if (decide (at5 < (s0.length : Int))) then
   (loopO (fun x : Int => hansomref04_word_l19 s0 n1 x k6) at5).bind fun e_1 =>
   some (.next ((IntKind.wrap .i64 (e_1 + 1)), (IntKind.wrap .i64 (k6 + 1))))
  else
   some (.out at5)
 else
  some (.out at5)
noncomputable def hansomref04_word_l34 (s0 : (List UInt8)) (at5 : Int) (end7 : Int) : Option (Lp Int Int) :=
 if (decide (end7 < (s0.length : Int))) then
  (idx s0 end7).bind fun z_1 =>
  if ((z_1.toNat : Int) != 32) then
   some (.next (IntKind.wrap .i64 (end7 + 1)))
  else
   some (.out end7)
 else
  some (.out end7)
noncomputable def hansomref04_word (s_ : (List UInt8)) (n_ : Int) : Option (List UInt8) :=
 (loopO (fun x : (Int × Int) => hansomref04_word_l8 s_ n_ x.1 x.2) (0, 0)).bind fun e_1 =>
 (loopO (fun x : Int => hansomref04_word_l34 s_ e_1 x) e_1).bind fun e_2 =>
 if (decide (e_1 ≥ (s_.length : Int))) then
  some ([] : List UInt8)
 else
  (cutL s_ e_1 e_2).bind fun z_1 =>
  some z_1
noncomputable def hansomref04_part_l8 (s0 : (List UInt8)) (mark1 : Int) (n2 : Int) (from7 : Int) (i8 : Int) : Option (Lp (Int × Int × Int) ((List UInt8) ⊕ Unit)) :=
 if (decide (i8 ≤ (s0.length : Int))) then
  if (decide (i8 < (s0.length : Int))) then
   (idx s0 i8).bind fun z_1 =>
   if ((z_1.toNat : Int) != mark1) then
    some (.next (n2, from7, (IntKind.wrap .i64 (i8 + 1))))
   else
    if (n2 == 0) then
     (cutL s0 from7 i8).bind fun z_2 =>
     some (.out (.inl z_2))
    else
     some (.next ((IntKind.wrap .i64 (n2 - 1)), (IntKind.wrap .i64 (i8 + 1)), (IntKind.wrap .i64 (i8 + 1))))
  else
   if (n2 == 0) then
    (cutL s0 from7 i8).bind fun z_3 =>
    some (.out (.inl z_3))
   else
    some (.next ((IntKind.wrap .i64 (n2 - 1)), (IntKind.wrap .i64 (i8 + 1)), (IntKind.wrap .i64 (i8 + 1))))
 else
  some (.out (.inr ()))
noncomputable def hansomref04_part (s_ : (List UInt8)) (mark_ : Int) (n_ : Int) : Option (List UInt8) :=
 (loopO (fun x : (Int × Int × Int) => hansomref04_part_l8 s_ mark_ x.1 x.2.1 x.2.2) (n_, 0, 0)).bind fun e_1 =>
 match e_1 with
 | .inl e_2 =>
  some e_2
 | .inr e_3 =>
  some ([] : List UInt8)
noncomputable def hansomref04_Entry (op_ : Int) (reg_ : Int) : Option (List UInt8) :=
 (hansomref04_word ([65, 68, 68, 58, 69, 98, 58, 71, 98, 32, 65, 68, 68, 58, 69, 118, 58, 71, 118, 32, 65, 68, 68, 58, 71, 98, 58, 69, 98, 32, 65, 68, 68, 58, 71, 118, 58, 69, 118, 32, 65, 68, 68, 58, 65, 76, 58, 73, 98, 32, 65, 68, 68, 58, 65, 88, 58, 73, 118, 32, 80, 85, 83, 72, 58, 90, 115, 32, 80, 79, 80, 58, 90, 115, 32, 79, 82, 58, 69, 98, 58, 71, 98, 32, 79, 82, 58, 69, 118, 58, 71, 118, 32, 79, 82, 58, 71, 98, 58, 69, 98, 32, 79, 82, 58, 71, 118, 58, 69, 118, 32, 79, 82, 58, 65, 76, 58, 73, 98, 32, 79, 82, 58, 65, 88, 58, 73, 118, 32, 80, 85, 83, 72, 58, 90, 115, 32, 45, 32, 65, 68, 67, 58, 69, 98, 58, 71, 98, 32, 65, 68, 67, 58, 69, 118, 58, 71, 118, 32, 65, 68, 67, 58, 71, 98, 58, 69, 98, 32, 65, 68, 67, 58, 71, 118, 58, 69, 118, 32, 65, 68, 67, 58, 65, 76, 58, 73, 98, 32, 65, 68, 67, 58, 65, 88, 58, 73, 118, 32, 80, 85, 83, 72, 58, 90, 115, 32, 80, 79, 80, 58, 90, 115, 32, 83, 66, 66, 58, 69, 98, 58, 71, 98, 32, 83, 66, 66, 58, 69, 118, 58, 71, 118, 32, 83, 66, 66, 58, 71, 98, 58, 69, 98, 32, 83, 66, 66, 58, 71, 118, 58, 69, 118, 32, 83, 66, 66, 58, 65, 76, 58, 73, 98, 32, 83, 66, 66, 58, 65, 88, 58, 73, 118, 32, 80, 85, 83, 72, 58, 90, 115, 32, 80, 79, 80, 58, 90, 115, 32, 65, 78, 68, 58, 69, 98, 58, 71, 98, 32, 65, 78, 68, 58, 69, 118, 58, 71, 118, 32, 65, 78, 68, 58, 71, 98, 58, 69, 98, 32, 65, 78, 68, 58, 71, 118, 58, 69, 118, 32, 65, 78, 68, 58, 65, 76, 58, 73, 98, 32, 65, 78, 68, 58, 65, 88, 58, 73, 118, 32, 45, 32, 68, 65, 65, 32, 83, 85, 66, 58, 69, 98, 58, 71, 98, 32, 83, 85, 66, 58, 69, 118, 58, 71, 118, 32, 83, 85, 66, 58, 71, 98, 58, 69, 98, 32, 83, 85, 66, 58, 71, 118, 58, 69, 118, 32, 83, 85, 66, 58, 65, 76, 58, 73, 98, 32, 83, 85, 66, 58, 65, 88, 58, 73, 118, 32, 45, 32, 68, 65, 83, 32, 88, 79, 82, 58, 69, 98, 58, 71, 98, 32, 88, 79, 82, 58, 69, 118, 58, 71, 118, 32, 88, 79, 82, 58, 71, 98, 58, 69, 98, 32, 88, 79, 82, 58, 71, 118, 58, 69, 118, 32, 88, 79, 82, 58, 65, 76, 58, 73, 98, 32, 88, 79, 82, 58, 65, 88, 58, 73, 118, 32, 45, 32, 65, 65, 65, 32, 67, 77, 80, 58, 69, 98, 58, 71, 98, 32, 67, 77, 80, 58, 69, 118, 58, 71, 118, 32, 67, 77, 80, 58, 71, 98, 58, 69, 98, 32, 67, 77, 80, 58, 71, 118, 58, 69, 118, 32, 67, 77, 80, 58, 65, 76, 58, 73, 98, 32, 67, 77, 80, 58, 65, 88, 58, 73, 118, 32, 45, 32, 65, 65, 83, 32, 73, 78, 67, 58, 90, 118, 32, 73, 78, 67, 58, 90, 118, 32, 73, 78, 67, 58, 90, 118, 32, 73, 78, 67, 58, 90, 118, 32, 73, 78, 67, 58, 90, 118, 32, 73, 78, 67, 58, 90, 118, 32, 73, 78, 67, 58, 90, 118, 32, 73, 78, 67, 58, 90, 118, 32, 68, 69, 67, 58, 90, 118, 32, 68, 69, 67, 58, 90, 118, 32, 68, 69, 67, 58, 90, 118, 32, 68, 69, 67, 58, 90, 118, 32, 68, 69, 67, 58, 90, 118, 32, 68, 69, 67, 58, 90, 118, 32, 68, 69, 67, 58, 90, 118, 32, 68, 69, 67, 58, 90, 118, 32, 80, 85, 83, 72, 58, 90, 118, 32, 80, 85, 83, 72, 58, 90, 118, 32, 80, 85, 83, 72, 58, 90, 118, 32, 80, 85, 83, 72, 58, 90, 118, 32, 80, 85, 83, 72, 58, 90, 118, 32, 80, 85, 83, 72, 58, 90, 118, 32, 80, 85, 83, 72, 58, 90, 118, 32, 80, 85, 83, 72, 58, 90, 118, 32, 80, 79, 80, 58, 90, 118, 32, 80, 79, 80, 58, 90, 118, 32, 80, 79, 80, 58, 90, 118, 32, 80, 79, 80, 58, 90, 118, 32, 80, 79, 80, 58, 90, 118, 32, 80, 79, 80, 58, 90, 118, 32, 80, 79, 80, 58, 90, 118, 32, 80, 79, 80, 58, 90, 118, 32, 45, 32, 45, 32, 45, 32, 45, 32, 45, 32, 45, 32, 45, 32, 45, 32, 45, 32, 45, 32, 45, 32, 45, 32, 45, 32, 45, 32, 45, 32, 45, 32, 74, 79, 58, 74, 98, 32, 74, 78, 79, 58, 74, 98, 32, 74, 66, 58, 74, 98, 32, 74, 78, 66, 58, 74, 98, 32, 74, 90, 58, 74, 98, 32, 74, 78, 90, 58, 74, 98, 32, 74, 66, 69, 58, 74, 98, 32, 74, 65, 58, 74, 98, 32, 74, 83, 58, 74, 98, 32, 74, 78, 83, 58, 74, 98, 32, 74, 80, 58, 74, 98, 32, 74, 78, 80, 58, 74, 98, 32, 74, 76, 58, 74, 98, 32, 74, 71, 69, 58, 74, 98, 32, 74, 76, 69, 58, 74, 98, 32, 74, 71, 58, 74, 98, 32, 47, 65, 68, 68, 58, 69, 98, 58, 73, 98, 47, 79, 82, 58, 69, 98, 58, 73, 98, 47, 65, 68, 67, 58, 69, 98, 58, 73, 98, 47, 83, 66, 66, 58, 69, 98, 58, 73, 98, 47, 65, 78, 68, 58, 69, 98, 58, 73, 98, 47, 83, 85, 66, 58, 69, 98, 58, 73, 98, 47, 88, 79, 82, 58, 69, 98, 58, 73, 98, 47, 67, 77, 80, 58, 69, 98, 58, 73, 98, 32, 47, 65, 68, 68, 58, 69, 118, 58, 73, 118, 47, 79, 82, 58, 69, 118, 58, 73, 118, 47, 65, 68, 67, 58, 69, 118, 58, 73, 118, 47, 83, 66, 66, 58, 69, 118, 58, 73, 118, 47, 65, 78, 68, 58, 69, 118, 58, 73, 118, 47, 83, 85, 66, 58, 69, 118, 58, 73, 118, 47, 88, 79, 82, 58, 69, 118, 58, 73, 118, 47, 67, 77, 80, 58, 69, 118, 58, 73, 118, 32, 45, 32, 47, 65, 68, 68, 58, 69, 118, 58, 73, 115, 47, 45, 47, 65, 68, 67, 58, 69, 118, 58, 73, 115, 47, 83, 66, 66, 58, 69, 118, 58, 73, 115, 47, 45, 47, 83, 85, 66, 58, 69, 118, 58, 73, 115, 47, 45, 47, 67, 77, 80, 58, 69, 118, 58, 73, 115, 32, 84, 69, 83, 84, 58, 69, 98, 58, 71, 98, 32, 84, 69, 83, 84, 58, 69, 118, 58, 71, 118, 32, 88, 67, 72, 71, 58, 69, 98, 58, 71, 98, 32, 88, 67, 72, 71, 58, 69, 118, 58, 71, 118, 32, 77, 79, 86, 58, 69, 98, 58, 71, 98, 32, 77, 79, 86, 58, 69, 118, 58, 71, 118, 32, 77, 79, 86, 58, 71, 98, 58, 69, 98, 32, 77, 79, 86, 58, 71, 118, 58, 69, 118, 32, 47, 77, 79, 86, 58, 69, 118, 58, 83, 119, 47, 77, 79, 86, 58, 69, 118, 58, 83, 119, 47, 77, 79, 86, 58, 69, 118, 58, 83, 119, 47, 77, 79, 86, 58, 69, 118, 58, 83, 119, 47, 45, 47, 45, 47, 45, 47, 45, 32, 76, 69, 65, 58, 71, 118, 58, 77, 32, 47, 77, 79, 86, 58, 83, 119, 58, 69, 118, 47, 45, 47, 77, 79, 86, 58, 83, 119, 58, 69, 118, 47, 77, 79, 86, 58, 83, 119, 58, 69, 118, 47, 45, 47, 45, 47, 45, 47, 45, 32, 47, 80, 79, 80, 58, 69, 118, 47, 45, 47, 45, 47, 45, 47, 45, 47, 45, 47, 45, 47, 45, 32, 88, 67, 72, 71, 58, 65, 88, 58, 90, 118, 32, 88, 67, 72, 71, 58, 65, 88, 58, 90, 118, 32, 88, 67, 72, 71, 58, 65, 88, 58, 90, 118, 32, 88, 67, 72, 71, 58, 65, 88, 58, 90, 118, 32, 88, 67, 72, 71, 58, 65, 88, 58, 90, 118, 32, 88, 67, 72, 71, 58, 65, 88, 58, 90, 118, 32, 88, 67, 72, 71, 58, 65, 88, 58, 90, 118, 32, 88, 67, 72, 71, 58, 65, 88, 58, 90, 118, 32, 67, 66, 87, 32, 67, 87, 68, 32, 67, 65, 76, 76, 70, 58, 65, 112, 32, 87, 65, 73, 84, 32, 80, 85, 83, 72, 70, 32, 80, 79, 80, 70, 32, 83, 65, 72, 70, 32, 76, 65, 72, 70, 32, 77, 79, 86, 58, 65, 76, 58, 79, 98, 32, 77, 79, 86, 58, 65, 88, 58, 79, 118, 32, 77, 79, 86, 58, 79, 98, 58, 65, 76, 32, 77, 79, 86, 58, 79, 118, 58, 65, 88, 32, 77, 79, 86, 83, 66, 32, 77, 79, 86, 83, 87, 32, 67, 77, 80, 83, 66, 32, 67, 77, 80, 83, 87, 32, 84, 69, 83, 84, 58, 65, 76, 58, 73, 98, 32, 84, 69, 83, 84, 58, 65, 88, 58, 73, 118, 32, 83, 84, 79, 83, 66, 32, 83, 84, 79, 83, 87, 32, 76, 79, 68, 83, 66, 32, 76, 79, 68, 83, 87, 32, 83, 67, 65, 83, 66, 32, 83, 67, 65, 83, 87, 32, 77, 79, 86, 58, 90, 98, 58, 73, 98, 32, 77, 79, 86, 58, 90, 98, 58, 73, 98, 32, 77, 79, 86, 58, 90, 98, 58, 73, 98, 32, 77, 79, 86, 58, 90, 98, 58, 73, 98, 32, 77, 79, 86, 58, 90, 98, 58, 73, 98, 32, 77, 79, 86, 58, 90, 98, 58, 73, 98, 32, 77, 79, 86, 58, 90, 98, 58, 73, 98, 32, 77, 79, 86, 58, 90, 98, 58, 73, 98, 32, 77, 79, 86, 58, 90, 118, 58, 73, 118, 32, 77, 79, 86, 58, 90, 118, 58, 73, 118, 32, 77, 79, 86, 58, 90, 118, 58, 73, 118, 32, 77, 79, 86, 58, 90, 118, 58, 73, 118, 32, 77, 79, 86, 58, 90, 118, 58, 73, 118, 32, 77, 79, 86, 58, 90, 118, 58, 73, 118, 32, 77, 79, 86, 58, 90, 118, 58, 73, 118, 32, 77, 79, 86, 58, 90, 118, 58, 73, 118, 32, 45, 32, 45, 32, 82, 69, 84, 58, 73, 118, 32, 82, 69, 84, 32, 76, 69, 83, 58, 71, 118, 58, 77, 112, 32, 76, 68, 83, 58, 71, 118, 58, 77, 112, 32, 47, 77, 79, 86, 58, 69, 98, 58, 73, 98, 47, 45, 47, 45, 47, 45, 47, 45, 47, 45, 47, 45, 47, 45, 32, 47, 77, 79, 86, 58, 69, 118, 58, 73, 118, 47, 45, 47, 45, 47, 45, 47, 45, 47, 45, 47, 45, 47, 45, 32, 45, 32, 45, 32, 82, 69, 84, 70, 58, 73, 118, 32, 82, 69, 84, 70, 32, 73, 78, 84, 58, 84, 104, 114, 101, 101, 32, 73, 78, 84, 58, 73, 98, 32, 73, 78, 84, 79, 32, 73, 82, 69, 84, 32, 47, 82, 79, 76, 58, 69, 98, 58, 79, 110, 101, 47, 82, 79, 82, 58, 69, 98, 58, 79, 110, 101, 47, 82, 67, 76, 58, 69, 98, 58, 79, 110, 101, 47, 82, 67, 82, 58, 69, 98, 58, 79, 110, 101, 47, 83, 72, 76, 58, 69, 98, 58, 79, 110, 101, 47, 83, 72, 82, 58, 69, 98, 58, 79, 110, 101, 47, 45, 47, 83, 65, 82, 58, 69, 98, 58, 79, 110, 101, 32, 47, 82, 79, 76, 58, 69, 118, 58, 79, 110, 101, 47, 82, 79, 82, 58, 69, 118, 58, 79, 110, 101, 47, 82, 67, 76, 58, 69, 118, 58, 79, 110, 101, 47, 82, 67, 82, 58, 69, 118, 58, 79, 110, 101, 47, 83, 72, 76, 58, 69, 118, 58, 79, 110, 101, 47, 83, 72, 82, 58, 69, 118, 58, 79, 110, 101, 47, 45, 47, 83, 65, 82, 58, 69, 118, 58, 79, 110, 101, 32, 47, 82, 79, 76, 58, 69, 98, 58, 67, 76, 47, 82, 79, 82, 58, 69, 98, 58, 67, 76, 47, 82, 67, 76, 58, 69, 98, 58, 67, 76, 47, 82, 67, 82, 58, 69, 98, 58, 67, 76, 47, 83, 72, 76, 58, 69, 98, 58, 67, 76, 47, 83, 72, 82, 58, 69, 98, 58, 67, 76, 47, 45, 47, 83, 65, 82, 58, 69, 98, 58, 67, 76, 32, 47, 82, 79, 76, 58, 69, 118, 58, 67, 76, 47, 82, 79, 82, 58, 69, 118, 58, 67, 76, 47, 82, 67, 76, 58, 69, 118, 58, 67, 76, 47, 82, 67, 82, 58, 69, 118, 58, 67, 76, 47, 83, 72, 76, 58, 69, 118, 58, 67, 76, 47, 83, 72, 82, 58, 69, 118, 58, 67, 76, 47, 45, 47, 83, 65, 82, 58, 69, 118, 58, 67, 76, 32, 65, 65, 77, 58, 73, 98, 32, 65, 65, 68, 58, 73, 98, 32, 45, 32, 88, 76, 65, 84, 32, 69, 83, 67, 58, 69, 118, 32, 69, 83, 67, 58, 69, 118, 32, 69, 83, 67, 58, 69, 118, 32, 69, 83, 67, 58, 69, 118, 32, 69, 83, 67, 58, 69, 118, 32, 69, 83, 67, 58, 69, 118, 32, 69, 83, 67, 58, 69, 118, 32, 69, 83, 67, 58, 69, 118, 32, 76, 79, 79, 80, 78, 90, 58, 74, 98, 32, 76, 79, 79, 80, 90, 58, 74, 98, 32, 76, 79, 79, 80, 58, 74, 98, 32, 74, 67, 88, 90, 58, 74, 98, 32, 73, 78, 58, 65, 76, 58, 73, 98, 32, 73, 78, 58, 65, 88, 58, 73, 98, 32, 79, 85, 84, 58, 73, 98, 58, 65, 76, 32, 79, 85, 84, 58, 73, 98, 58, 65, 88, 32, 67, 65, 76, 76, 58, 74, 118, 32, 74, 77, 80, 58, 74, 118, 32, 74, 77, 80, 70, 58, 65, 112, 32, 74, 77, 80, 58, 74, 98, 32, 73, 78, 58, 65, 76, 58, 68, 88, 32, 73, 78, 58, 65, 88, 58, 68, 88, 32, 79, 85, 84, 58, 68, 88, 58, 65, 76, 32, 79, 85, 84, 58, 68, 88, 58, 65, 88, 32, 45, 32, 45, 32, 45, 32, 45, 32, 72, 76, 84, 32, 67, 77, 67, 32, 47, 84, 69, 83, 84, 58, 69, 98, 58, 73, 98, 47, 45, 47, 78, 79, 84, 58, 69, 98, 47, 78, 69, 71, 58, 69, 98, 47, 77, 85, 76, 58, 69, 98, 47, 73, 77, 85, 76, 58, 69, 98, 47, 68, 73, 86, 58, 69, 98, 47, 73, 68, 73, 86, 58, 69, 98, 32, 47, 84, 69, 83, 84, 58, 69, 118, 58, 73, 118, 47, 45, 47, 78, 79, 84, 58, 69, 118, 47, 78, 69, 71, 58, 69, 118, 47, 77, 85, 76, 58, 69, 118, 47, 73, 77, 85, 76, 58, 69, 118, 47, 68, 73, 86, 58, 69, 118, 47, 73, 68, 73, 86, 58, 69, 118, 32, 67, 76, 67, 32, 83, 84, 67, 32, 67, 76, 73, 32, 83, 84, 73, 32, 67, 76, 68, 32, 83, 84, 68, 32, 47, 73, 78, 67, 58, 69, 98, 47, 68, 69, 67, 58, 69, 98, 47, 45, 47, 45, 47, 45, 47, 45, 47, 45, 47, 45, 32, 47, 73, 78, 67, 58, 69, 118, 47, 68, 69, 67, 58, 69, 118, 47, 67, 65, 76, 76, 58, 69, 118, 47, 67, 65, 76, 76, 70, 58, 77, 112, 47, 74, 77, 80, 58, 69, 118, 47, 74, 77, 80, 70, 58, 77, 112, 47, 80, 85, 83, 72, 58, 69, 118, 47, 45, 32] : List UInt8) (IntKind.wrap .i64 op_)).bind fun r_1 =>
 if (decide ((r_1.length : Int) > 0)) then
  (idx r_1 0).bind fun z_1 =>
  if ((z_1.toNat : Int) == 47) then
   (hansomref04_part r_1 47 (IntKind.wrap .i64 ((bitsOp .and .i64 reg_ 7) + 1))).bind fun r_2 =>
   some r_2
  else
   some r_1
 else
  some r_1
noncomputable def hansomref04_find_l8 (s0 : (List UInt8)) (w1 : (List UInt8)) (n5 : Int) (from6 : Int) (i7 : Int) : Option (Lp (Int × Int × Int) (Int ⊕ Unit)) :=
 if (decide (i7 < (s0.length : Int))) then
  (idx s0 i7).bind fun z_1 =>
  if ((z_1.toNat : Int) != 32) then
   some (.next (n5, from6, (IntKind.wrap .i64 (i7 + 1))))
  else
   (cutL s0 from6 i7).bind fun z_2 =>
   if (z_2 == w1) then
    some (.out (.inl n5))
   else
    some (.next ((IntKind.wrap .i64 (n5 + 1)), (IntKind.wrap .i64 (i7 + 1)), (IntKind.wrap .i64 (i7 + 1))))
 else
  some (.out (.inr ()))
noncomputable def hansomref04_find (s_ : (List UInt8)) (w_ : (List UInt8)) : Option Int :=
 (loopO (fun x : (Int × Int × Int) => hansomref04_find_l8 s_ w_ x.1 x.2.1 x.2.2) (1, 0, 0)).bind fun e_1 =>
 match e_1 with
 | .inl e_2 =>
  some e_2
 | .inr e_3 =>
  some 0
noncomputable def hansomref04_Find (s_ : (List UInt8)) : Option Int :=
 (hansomref04_find ([65, 68, 68, 32, 79, 82, 32, 65, 68, 67, 32, 83, 66, 66, 32, 65, 78, 68, 32, 83, 85, 66, 32, 88, 79, 82, 32, 67, 77, 80, 32, 80, 85, 83, 72, 32, 80, 79, 80, 32, 68, 65, 65, 32, 68, 65, 83, 32, 65, 65, 65, 32, 65, 65, 83, 32, 73, 78, 67, 32, 68, 69, 67, 32, 74, 79, 32, 74, 78, 79, 32, 74, 66, 32, 74, 78, 66, 32, 74, 90, 32, 74, 78, 90, 32, 74, 66, 69, 32, 74, 65, 32, 74, 83, 32, 74, 78, 83, 32, 74, 80, 32, 74, 78, 80, 32, 74, 76, 32, 74, 71, 69, 32, 74, 76, 69, 32, 74, 71, 32, 84, 69, 83, 84, 32, 88, 67, 72, 71, 32, 77, 79, 86, 32, 76, 69, 65, 32, 67, 66, 87, 32, 67, 87, 68, 32, 67, 65, 76, 76, 32, 67, 65, 76, 76, 70, 32, 87, 65, 73, 84, 32, 80, 85, 83, 72, 70, 32, 80, 79, 80, 70, 32, 83, 65, 72, 70, 32, 76, 65, 72, 70, 32, 77, 79, 86, 83, 66, 32, 77, 79, 86, 83, 87, 32, 67, 77, 80, 83, 66, 32, 67, 77, 80, 83, 87, 32, 83, 84, 79, 83, 66, 32, 83, 84, 79, 83, 87, 32, 76, 79, 68, 83, 66, 32, 76, 79, 68, 83, 87, 32, 83, 67, 65, 83, 66, 32, 83, 67, 65, 83, 87, 32, 82, 69, 84, 32, 82, 69, 84, 70, 32, 76, 69, 83, 32, 76, 68, 83, 32, 73, 78, 84, 32, 73, 78, 84, 79, 32, 73, 82, 69, 84, 32, 82, 79, 76, 32, 82, 79, 82, 32, 82, 67, 76, 32, 82, 67, 82, 32, 83, 72, 76, 32, 83, 72, 82, 32, 83, 65, 82, 32, 65, 65, 77, 32, 65, 65, 68, 32, 88, 76, 65, 84, 32, 69, 83, 67, 32, 76, 79, 79, 80, 78, 90, 32, 76, 79, 79, 80, 90, 32, 76, 79, 79, 80, 32, 74, 67, 88, 90, 32, 73, 78, 32, 79, 85, 84, 32, 74, 77, 80, 32, 74, 77, 80, 70, 32, 72, 76, 84, 32, 67, 77, 67, 32, 78, 79, 84, 32, 78, 69, 71, 32, 77, 85, 76, 32, 73, 77, 85, 76, 32, 68, 73, 86, 32, 73, 68, 73, 86, 32, 67, 76, 67, 32, 83, 84, 67, 32, 67, 76, 73, 32, 83, 84, 73, 32, 67, 76, 68, 32, 83, 84, 68, 32] : List UInt8) s_).bind fun r_1 =>
 some r_1
noncomputable def hansomref04_second (k_ : Int) : Option Bool :=
 if (decide (k_ ≥ 1)) then
  if (decide (k_ ≤ 5)) then
   some true
  else
   if (k_ == 19) then
    some true
   else
    some (k_ == 20)
 else
  if (k_ == 19) then
   some true
  else
   some (k_ == 20)
noncomputable def hansomref04_Row (op_ : Int) (reg_ : Int) : Option (Row × Bool) :=
 (hansomref04_Entry op_ reg_).bind fun r_1 =>
 if (r_1 == ([45] : List UInt8)) then
  some (({ Name := 0, A := 0, B := 0, Mod := false } : Row), false)
 else
  if (r_1 == ([] : List UInt8)) then
   some (({ Name := 0, A := 0, B := 0, Mod := false } : Row), false)
  else
   (hansomref04_part r_1 58 0).bind fun r_2 =>
   (hansomref04_Find r_2).bind fun r_3 =>
   (hansomref04_part r_1 58 1).bind fun r_4 =>
   (hansomref04_find ([69, 98, 32, 69, 118, 32, 71, 98, 32, 71, 118, 32, 83, 119, 32, 73, 98, 32, 73, 118, 32, 73, 115, 32, 74, 98, 32, 74, 118, 32, 65, 112, 32, 79, 98, 32, 79, 118, 32, 65, 76, 32, 67, 76, 32, 65, 88, 32, 68, 88, 32, 79, 110, 101, 32, 77, 112, 32, 77, 32, 90, 98, 32, 90, 118, 32, 90, 115, 32, 84, 104, 114, 101, 101, 32] : List UInt8) r_4).bind fun r_5 =>
   (hansomref04_part r_1 58 2).bind fun r_6 =>
   (hansomref04_find ([69, 98, 32, 69, 118, 32, 71, 98, 32, 71, 118, 32, 83, 119, 32, 73, 98, 32, 73, 118, 32, 73, 115, 32, 74, 98, 32, 74, 118, 32, 65, 112, 32, 79, 98, 32, 79, 118, 32, 65, 76, 32, 67, 76, 32, 65, 88, 32, 68, 88, 32, 79, 110, 101, 32, 77, 112, 32, 77, 32, 90, 98, 32, 90, 118, 32, 90, 115, 32, 84, 104, 114, 101, 101, 32] : List UInt8) r_6).bind fun r_7 =>
   (hansomref04_second r_5).bind fun r_8 =>
   if r_8 then
    some (({ Name := r_3, A := r_5, B := r_7, Mod := true } : Row), true)
   else
    (hansomref04_second r_7).bind fun r_9 =>
    some (({ Name := r_3, A := r_5, B := r_7, Mod := r_9 } : Row), true)
noncomputable def hansomref05_Row (i_ : Inst) : Option (Row × Bool) :=
 (hansomref05_prefix i_.Op).bind fun r_1 =>
 if r_1 then
  some (({ Name := 0, A := 0, B := 0, Mod := false } : Row), false)
 else
  (hansomref04_Row i_.Op i_.Reg).bind fun r_2 =>
  some (r_2.1, r_2.2)
noncomputable def hansomref04_Bytes_j16 (t3 : Int) (t4 : Bool) : Option Int :=
 if t4 then
  some 1
 else
  if (t3 == 7) then
   some 2
  else
   if (t3 == 10) then
    some 2
   else
    if (t3 == 12) then
     some 2
    else
     if (t3 == 13) then
      some 2
     else
      if (t3 == 11) then
       some 4
      else
       some 0
noncomputable def hansomref04_Bytes (k_ : Int) : Option Int :=
 if (k_ == 6) then
  hansomref04_Bytes_j16 k_ true
 else
  if (k_ == 8) then
   hansomref04_Bytes_j16 k_ true
  else
   hansomref04_Bytes_j16 k_ (k_ == 9)
noncomputable def hansomref04_Name (n_ : Int) : Option (List UInt8) :=
 if (decide (n_ < 1)) then
  some ([63] : List UInt8)
 else
  if (decide (n_ > 95)) then
   some ([63] : List UInt8)
  else
   (hansomref04_word ([65, 68, 68, 32, 79, 82, 32, 65, 68, 67, 32, 83, 66, 66, 32, 65, 78, 68, 32, 83, 85, 66, 32, 88, 79, 82, 32, 67, 77, 80, 32, 80, 85, 83, 72, 32, 80, 79, 80, 32, 68, 65, 65, 32, 68, 65, 83, 32, 65, 65, 65, 32, 65, 65, 83, 32, 73, 78, 67, 32, 68, 69, 67, 32, 74, 79, 32, 74, 78, 79, 32, 74, 66, 32, 74, 78, 66, 32, 74, 90, 32, 74, 78, 90, 32, 74, 66, 69, 32, 74, 65, 32, 74, 83, 32, 74, 78, 83, 32, 74, 80, 32, 74, 78, 80, 32, 74, 76, 32, 74, 71, 69, 32, 74, 76, 69, 32, 74, 71, 32, 84, 69, 83, 84, 32, 88, 67, 72, 71, 32, 77, 79, 86, 32, 76, 69, 65, 32, 67, 66, 87, 32, 67, 87, 68, 32, 67, 65, 76, 76, 32, 67, 65, 76, 76, 70, 32, 87, 65, 73, 84, 32, 80, 85, 83, 72, 70, 32, 80, 79, 80, 70, 32, 83, 65, 72, 70, 32, 76, 65, 72, 70, 32, 77, 79, 86, 83, 66, 32, 77, 79, 86, 83, 87, 32, 67, 77, 80, 83, 66, 32, 67, 77, 80, 83, 87, 32, 83, 84, 79, 83, 66, 32, 83, 84, 79, 83, 87, 32, 76, 79, 68, 83, 66, 32, 76, 79, 68, 83, 87, 32, 83, 67, 65, 83, 66, 32, 83, 67, 65, 83, 87, 32, 82, 69, 84, 32, 82, 69, 84, 70, 32, 76, 69, 83, 32, 76, 68, 83, 32, 73, 78, 84, 32, 73, 78, 84, 79, 32, 73, 82, 69, 84, 32, 82, 79, 76, 32, 82, 79, 82, 32, 82, 67, 76, 32, 82, 67, 82, 32, 83, 72, 76, 32, 83, 72, 82, 32, 83, 65, 82, 32, 65, 65, 77, 32, 65, 65, 68, 32, 88, 76, 65, 84, 32, 69, 83, 67, 32, 76, 79, 79, 80, 78, 90, 32, 76, 79, 79, 80, 90, 32, 76, 79, 79, 80, 32, 74, 67, 88, 90, 32, 73, 78, 32, 79, 85, 84, 32, 74, 77, 80, 32, 74, 77, 80, 70, 32, 72, 76, 84, 32, 67, 77, 67, 32, 78, 79, 84, 32, 78, 69, 71, 32, 77, 85, 76, 32, 73, 77, 85, 76, 32, 68, 73, 86, 32, 73, 68, 73, 86, 32, 67, 76, 67, 32, 83, 84, 67, 32, 67, 76, 73, 32, 83, 84, 73, 32, 67, 76, 68, 32, 83, 84, 68, 32] : List UInt8) (IntKind.wrap .i64 (n_ - 1))).bind fun r_1 =>
   some r_1
noncomputable def hansomref04_Repeats_j28 (t4 : (List UInt8)) (t5 : Bool) : Option Int :=
 if t5 then
  some 1
 else
  if (t4 == ([67, 77, 80, 83, 66] : List UInt8)) then
   some 2
  else
   if (t4 == ([67, 77, 80, 83, 87] : List UInt8)) then
    some 2
   else
    if (t4 == ([83, 67, 65, 83, 66] : List UInt8)) then
     some 2
    else
     if (t4 == ([83, 67, 65, 83, 87] : List UInt8)) then
      some 2
     else
      some 0
noncomputable def hansomref04_Repeats (n_ : Int) : Option Int :=
 (hansomref04_Name n_).bind fun r_1 =>
 if (r_1 == ([77, 79, 86, 83, 66] : List UInt8)) then
  hansomref04_Repeats_j28 r_1 true
 else
  if (r_1 == ([77, 79, 86, 83, 87] : List UInt8)) then
   hansomref04_Repeats_j28 r_1 true
  else
   if (r_1 == ([83, 84, 79, 83, 66] : List UInt8)) then
    hansomref04_Repeats_j28 r_1 true
   else
    if (r_1 == ([83, 84, 79, 83, 87] : List UInt8)) then
     hansomref04_Repeats_j28 r_1 true
    else
     if (r_1 == ([76, 79, 68, 83, 66] : List UInt8)) then
      hansomref04_Repeats_j28 r_1 true
     else
      hansomref04_Repeats_j28 r_1 (r_1 == ([76, 79, 68, 83, 87] : List UInt8))
noncomputable def hansomref01_Fits (w_ : Int) : Option Bool :=
 if (decide (w_ < 128)) then
  some true
 else
  some (decide (w_ ≥ 65408))
noncomputable def hansomref05_Disps (mod_ : Int) (rm_ : Int) : Option Int :=
 if (mod_ == 1) then
  some 1
 else
  if (mod_ == 2) then
   some 2
  else
   if (mod_ == 0) then
    if (rm_ == 6) then
     some 2
    else
     some 0
   else
    some 0
noncomputable def hansomref05_May_j82 (i1 : Inst) (t155 : Int) (t181 : Bool) : Option Bool :=
 if t181 then
  (hansomref01_Fits i1.Imm).bind fun r_4 =>
  if r_4 then
   some (i1.Sel == 0)
  else
   some false
 else
  if (t155 == 7) then
   some (i1.Sel == 0)
  else
   if (t155 == 10) then
    some (i1.Sel == 0)
   else
    if (t155 == 12) then
     some (i1.Sel == 0)
    else
     if (t155 == 13) then
      some (i1.Sel == 0)
     else
      if (t155 == 11) then
       some true
      else
       if (i1.Imm == 0) then
        some (i1.Sel == 0)
       else
        some false
noncomputable def hansomref05_May_j66 (i1 : Inst) (r3 : Row) (k7 : Int) : Option Bool :=
 if (k7 == 6) then
  if (decide (i1.Imm < 256)) then
   if (i1.Sel == 0) then
    if (r3.Name != 70) then
     if (r3.Name != 71) then
      some true
     else
      some (i1.Imm == 10)
    else
     some (i1.Imm == 10)
   else
    some false
  else
   some false
 else
  if (k7 == 8) then
   hansomref05_May_j82 i1 k7 true
  else
   hansomref05_May_j82 i1 k7 (k7 == 9)
noncomputable def hansomref05_May_j58 (i1 : Inst) (r3 : Row) : Option Bool :=
 (hansomref04_Bytes r3.A).bind fun r_3 =>
 if (r_3 == 0) then
  hansomref05_May_j66 i1 r3 r3.B
 else
  hansomref05_May_j66 i1 r3 r3.A
noncomputable def hansomref05_May_j49 (i1 : Inst) (r3 : Row) : Option Bool :=
 (hansomref05_Disps i1.Mod i1.RM).bind fun r_5 =>
 if (r_5 == 0) then
  if (i1.Disp != 0) then
   some false
  else
   if (r_5 == 1) then
    (hansomref01_Fits i1.Disp).bind fun r_6 =>
    if (!r_6) then
     some false
    else
     hansomref05_May_j58 i1 r3
   else
    hansomref05_May_j58 i1 r3
 else
  if (r_5 == 1) then
   (hansomref01_Fits i1.Disp).bind fun r_7 =>
   if (!r_7) then
    some false
   else
    hansomref05_May_j58 i1 r3
  else
   hansomref05_May_j58 i1 r3
noncomputable def hansomref05_May_j22 (i1 : Inst) (r3 : Row) : Option Bool :=
 if (!r3.Mod) then
  if (i1.Mod != 0) then
   some false
  else
   if (i1.Reg != 0) then
    some false
   else
    if (i1.RM != 0) then
     some false
    else
     if (i1.Disp != 0) then
      some false
     else
      hansomref05_May_j58 i1 r3
 else
  if (decide (i1.Mod < 0)) then
   some false
  else
   if (decide (i1.Mod > 3)) then
    some false
   else
    if (decide (i1.Reg < 0)) then
     some false
    else
     if (decide (i1.Reg > 7)) then
      some false
     else
      if (decide (i1.RM < 0)) then
       some false
      else
       if (decide (i1.RM > 7)) then
        some false
       else
        if (i1.Mod == 3) then
         if (r3.A == 19) then
          some false
         else
          if (r3.A == 20) then
           some false
          else
           if (r3.B == 19) then
            some false
           else
            if (r3.B == 20) then
             some false
            else
             hansomref05_May_j49 i1 r3
        else
         hansomref05_May_j49 i1 r3
noncomputable def hansomref05_May (i_ : Inst) : Option Bool :=
 (hansomref05_Row i_).bind fun r_1 =>
 if (!r_1.2) then
  some false
 else
  if (decide (i_.Seg < 0)) then
   some false
  else
   if (decide (i_.Seg > 4)) then
    some false
   else
    (hansomref04_Repeats r_1.1.Name).bind fun r_2 =>
    if (decide (i_.Rep < 0)) then
     some false
    else
     if (decide (i_.Rep > 2)) then
      some false
     else
      if (i_.Rep == 1) then
       if (decide (r_2 < 2)) then
        some false
       else
        if (i_.Rep == 2) then
         if (decide (r_2 < 1)) then
          some false
         else
          hansomref05_May_j22 i_ r_1.1
        else
         hansomref05_May_j22 i_ r_1.1
      else
       if (i_.Rep == 2) then
        if (decide (r_2 < 1)) then
         some false
        else
         hansomref05_May_j22 i_ r_1.1
       else
        hansomref05_May_j22 i_ r_1.1
noncomputable def hansomref01_Sign (b_ : Int) : Option Int :=
 if (decide (b_ < 128)) then
  some (IntKind.wrap .u16 b_)
 else
  some (IntKind.wrap .u16 (65280 + (IntKind.wrap .u16 b_)))
noncomputable def hansomref05_Near_j100 (x1 : Inst) (i2 : Inst) : Option Inst :=
 if (decide ((bitsOp .and .i64 x1.Seg 7) ≤ 4)) then
  (hansomref05_May ({ i2 with Seg := (bitsOp .and .i64 x1.Seg 7) } : Inst)).bind fun r_4 =>
  if (!r_4) then
   some ({ Lock := false, Rep := 0, Seg := 0, Op := 144, Mod := 0, Reg := 0, RM := 0, Disp := 0, Imm := 0, Sel := 0 } : Inst)
  else
   some ({ i2 with Seg := (bitsOp .and .i64 x1.Seg 7) } : Inst)
 else
  (hansomref05_May i2).bind fun r_5 =>
  if (!r_5) then
   some ({ Lock := false, Rep := 0, Seg := 0, Op := 144, Mod := 0, Reg := 0, RM := 0, Disp := 0, Imm := 0, Sel := 0 } : Inst)
  else
   some i2
noncomputable def hansomref05_Near_j86 (x1 : Inst) (i2 : Inst) (r3 : Row) : Option Inst :=
 (hansomref04_Repeats r3.Name).bind fun r_3 =>
 if (decide (r_3 > 0)) then
  if (decide ((bitsOp .and .i64 x1.Rep 3) > 0)) then
   if (r_3 == 2) then
    if ((bitsOp .and .i64 x1.Rep 1) == 1) then
     hansomref05_Near_j100 x1 ({ i2 with Rep := 1 } : Inst)
    else
     hansomref05_Near_j100 x1 ({ i2 with Rep := 2 } : Inst)
   else
    hansomref05_Near_j100 x1 ({ i2 with Rep := 2 } : Inst)
  else
   hansomref05_Near_j100 x1 i2
 else
  hansomref05_Near_j100 x1 i2
noncomputable def hansomref05_Near_j79 (x1 : Inst) (i2 : Inst) (r3 : Row) (t61 : Int) (t86 : Bool) : Option Inst :=
 if t86 then
  hansomref05_Near_j86 x1 ({ i2 with Imm := x1.Imm } : Inst) r3
 else
  if (t61 == 11) then
   hansomref05_Near_j86 x1 ({ i2 with Imm := x1.Imm, Sel := x1.Sel } : Inst) r3
  else
   hansomref05_Near_j86 x1 i2 r3
noncomputable def hansomref05_Near_j63 (x1 : Inst) (i2 : Inst) (r3 : Row) (t61 : Int) (t77 : Bool) : Option Inst :=
 if t77 then
  (hansomref01_Sign (IntKind.wrap .u8 (Int.tmod x1.Imm 256))).bind fun r_6 =>
  hansomref05_Near_j86 x1 ({ i2 with Imm := r_6 } : Inst) r3
 else
  if (t61 == 7) then
   hansomref05_Near_j79 x1 i2 r3 t61 true
  else
   if (t61 == 10) then
    hansomref05_Near_j79 x1 i2 r3 t61 true
   else
    if (t61 == 12) then
     hansomref05_Near_j79 x1 i2 r3 t61 true
    else
     hansomref05_Near_j79 x1 i2 r3 t61 (t61 == 13)
noncomputable def hansomref05_Near_j43 (x1 : Inst) (i2 : Inst) (r3 : Row) (k5 : Int) : Option Inst :=
 if (k5 == 6) then
  if (r3.Name == 70) then
   hansomref05_Near_j86 x1 ({ i2 with Imm := 10 } : Inst) r3
  else
   if (r3.Name == 71) then
    hansomref05_Near_j86 x1 ({ i2 with Imm := 10 } : Inst) r3
   else
    hansomref05_Near_j86 x1 ({ i2 with Imm := (Int.tmod x1.Imm 256) } : Inst) r3
 else
  if (k5 == 8) then
   hansomref05_Near_j63 x1 i2 r3 k5 true
  else
   hansomref05_Near_j63 x1 i2 r3 k5 (k5 == 9)
noncomputable def hansomref05_Near_j35 (x1 : Inst) (i2 : Inst) (r3 : Row) : Option Inst :=
 (hansomref04_Bytes r3.A).bind fun r_2 =>
 if (r_2 == 0) then
  hansomref05_Near_j43 x1 i2 r3 r3.B
 else
  hansomref05_Near_j43 x1 i2 r3 r3.A
noncomputable def hansomref05_Near (x_ : Inst) : Option Inst :=
 (hansomref05_Row ({ x_ with Rep := 0, Seg := 0, Mod := 0, Reg := (bitsOp .and .i64 x_.Reg 7), RM := 0, Disp := 0, Imm := 0, Sel := 0 } : Inst)).bind fun r_1 =>
 if (!r_1.2) then
  some ({ Lock := false, Rep := 0, Seg := 0, Op := 144, Mod := 0, Reg := 0, RM := 0, Disp := 0, Imm := 0, Sel := 0 } : Inst)
 else
  if (!r_1.1.Mod) then
   hansomref05_Near_j35 x_ ({ x_ with Rep := 0, Seg := 0, Mod := 0, Reg := 0, RM := 0, Disp := 0, Imm := 0, Sel := 0 } : Inst) r_1.1
  else
   (hansomref05_Disps (bitsOp .and .i64 x_.Mod 3) (bitsOp .and .i64 x_.RM 7)).bind fun r_7 =>
   if (r_7 == 1) then
    (hansomref01_Sign (IntKind.wrap .u8 (Int.tmod x_.Disp 256))).bind fun r_8 =>
    hansomref05_Near_j35 x_ ({ x_ with Rep := 0, Seg := 0, Mod := (bitsOp .and .i64 x_.Mod 3), Reg := (bitsOp .and .i64 x_.Reg 7), RM := (bitsOp .and .i64 x_.RM 7), Disp := r_8, Imm := 0, Sel := 0 } : Inst) r_1.1
   else
    if (r_7 == 2) then
     hansomref05_Near_j35 x_ ({ x_ with Rep := 0, Seg := 0, Mod := (bitsOp .and .i64 x_.Mod 3), Reg := (bitsOp .and .i64 x_.Reg 7), RM := (bitsOp .and .i64 x_.RM 7), Imm := 0, Sel := 0 } : Inst) r_1.1
    else
     hansomref05_Near_j35 x_ ({ x_ with Rep := 0, Seg := 0, Mod := (bitsOp .and .i64 x_.Mod 3), Reg := (bitsOp .and .i64 x_.Reg 7), RM := (bitsOp .and .i64 x_.RM 7), Disp := 0, Imm := 0, Sel := 0 } : Inst) r_1.1
noncomputable def hansomref05_two (w_ : Int) : Option (List Int) :=
 some ([(IntKind.wrap .u8 (Int.tmod w_ 256)), (IntKind.wrap .u8 (IntKind.wrap .u16 (Int.tdiv w_ 256)))] : List Int)
noncomputable def hansomref05_Imms (r_ : Row) : Option Int :=
 (hansomref04_Bytes r_.A).bind fun r_1 =>
 (hansomref04_Bytes r_.B).bind fun r_2 =>
 some (IntKind.wrap .i64 (r_1 + r_2))
noncomputable def hansomref05_Put_j46 (i1 : Inst) (b_12 : (List Int)) (n6 : Int) (t73 : Int) (t74 : Bool) : Option (List Int) :=
 if t74 then
  (hansomref05_two i1.Imm).bind fun r_5 =>
  (cutL r_5 0 n6).bind fun z_8 =>
  (grow 1 b_12 z_8).bind fun z_9 =>
  some z_9
 else
  if (t73 == 4) then
   (hansomref05_two i1.Imm).bind fun r_6 =>
   (grow 1 b_12 r_6).bind fun z_10 =>
   (hansomref05_two i1.Sel).bind fun r_7 =>
   (grow 1 z_10 r_7).bind fun z_11 =>
   some z_11
  else
   some b_12
noncomputable def hansomref05_Put_j34 (i1 : Inst) (r3 : Row) (b_12 : (List Int)) : Option (List Int) :=
 (hansomref05_Imms r3).bind fun r_4 =>
 if (r_4 == 1) then
  hansomref05_Put_j46 i1 b_12 r_4 r_4 true
 else
  hansomref05_Put_j46 i1 b_12 r_4 r_4 (r_4 == 2)
noncomputable def hansomref05_Put_j24 (i1 : Inst) (r3 : Row) (b_12 : (List Int)) : Option (List Int) :=
 (grow 1 b_12 ([i1.Op] : List Int)).bind fun z_4 =>
 if r3.Mod then
  (grow 1 z_4 ([(IntKind.wrap .u8 (IntKind.wrap .i64 ((IntKind.wrap .i64 ((IntKind.wrap .i64 (64 * i1.Mod)) + (IntKind.wrap .i64 (8 * i1.Reg)))) + i1.RM)))] : List Int)).bind fun z_5 =>
  (hansomref05_two i1.Disp).bind fun r_2 =>
  (hansomref05_Disps i1.Mod i1.RM).bind fun r_3 =>
  (cutL r_2 0 r_3).bind fun z_6 =>
  (grow 1 z_5 z_6).bind fun z_7 =>
  hansomref05_Put_j34 i1 r3 z_7
 else
  hansomref05_Put_j34 i1 r3 z_4
noncomputable def hansomref05_Put_j18 (i1 : Inst) (r3 : Row) (b_12 : (List Int)) : Option (List Int) :=
 if (decide (i1.Seg > 0)) then
  (grow 1 b_12 ([(IntKind.wrap .u8 (IntKind.wrap .i64 (30 + (IntKind.wrap .i64 (8 * i1.Seg)))))] : List Int)).bind fun z_3 =>
  hansomref05_Put_j24 i1 r3 z_3
 else
  hansomref05_Put_j24 i1 r3 b_12
noncomputable def hansomref05_Put_j12 (i1 : Inst) (r3 : Row) (b_12 : (List Int)) : Option (List Int) :=
 if (decide (i1.Rep > 0)) then
  (grow 1 b_12 ([(IntKind.wrap .u8 (IntKind.wrap .i64 (241 + i1.Rep)))] : List Int)).bind fun z_2 =>
  hansomref05_Put_j18 i1 r3 z_2
 else
  hansomref05_Put_j18 i1 r3 b_12
noncomputable def hansomref05_Put (i_ : Inst) : Option (List Int) :=
 (hansomref05_Row i_).bind fun r_1 =>
 if i_.Lock then
  (grow 1 ([] : List Int) ([240] : List Int)).bind fun z_1 =>
  hansomref05_Put_j12 ({ i_ with Lock := true } : Inst) r_1.1 z_1
 else
  hansomref05_Put_j12 ({ i_ with Lock := false } : Inst) r_1.1 ([] : List Int)
def inst0 : Inst := { Lock := false, Rep := 0, Seg := 0, Op := 0, Mod := 0, Reg := 0, RM := 0, Disp := 0, Imm := 0, Sel := 0 }
noncomputable def scan_Get (b_ : List Int) : Option (Inst × Int × Int) :=
 match scan_source_take { b := b_, at_ := 0 } with
 | some r => some (r.1, r.2.at_, 0)
 | none => (scan_source_take_D { b := b_, at_ := 0 }).bind fun e => some (inst0, 0, e)
noncomputable def scan_All_l8 (out4 : (List Inst)) (b0 : (List Int)) (at5 : Int) : Option (Lp ((List Inst) × Int) ((List Inst) × Int)) :=
 if (decide (at5 < (b0.length : Int))) then
  (cutL b0 at5 (b0.length : Int)).bind fun z_1 =>
  (scan_Get z_1).bind fun r_1 =>
  if (r_1.2.2 != 0) then
   some (.out (out4, at5))
  else
   (grow 64 out4 ([r_1.1] : List Inst)).bind fun z_2 =>
   some (.next (z_2, (IntKind.wrap .i64 (at5 + r_1.2.1))))
 else
  some (.out (out4, at5))
noncomputable def scan_All (b_ : (List Int)) : Option ((List Inst) × Int) :=
 (loopO (fun x : ((List Inst) × Int) => scan_All_l8 x.1 b_ x.2) (([] : List Inst), 0)).bind fun e_1 =>
 some (e_1.1, e_1.2)
noncomputable def hansomlaw07_awake  : Option Bool :=
 (scan_Get ([184, 52, 18, 144] : List Int)).bind fun r_1 =>
 if (r_1.2.2 == 0) then
  if (r_1.2.1 == 3) then
   if (r_1.1.Imm == 4660) then
    some (r_1.1.Op == 184)
   else
    some false
  else
   some false
 else
  some false
noncomputable def hansomlaw07_ScanAll_l8 (b_14 : (List Inst)) (b_15 : (List Int)) (l0 : (List Inst)) (cut1 : Int) (i7 : Int) : Option (Lp ((List Inst) × (List Int) × Int) ((List Inst) × (List Int))) :=
 if (decide (i7 < (l0.length : Int))) then
  if (decide (i7 < 20)) then
   (idx l0 i7).bind fun z_1 =>
   (hansomref05_Near z_1).bind fun r_1 =>
   (grow 64 b_14 ([r_1] : List Inst)).bind fun z_2 =>
   (idx z_2 i7).bind fun z_3 =>
   (hansomref05_Put z_3).bind fun r_2 =>
   (grow 1 b_15 r_2).bind fun z_4 =>
   some (.next (z_2, z_4, (IntKind.wrap .i64 (i7 + 1))))
  else
   some (.out (b_14, b_15))
 else
  some (.out (b_14, b_15))
noncomputable def hansomlaw07_ScanAll_l41 (b_14 : (List Inst)) (cut1 : Int) (b6 : (List Int)) (n8 : Int) (got9 : (List Inst)) (i11 : Int) : Option (Lp Int (Bool ⊕ Unit)) :=
 if (decide (i11 < (b_14.length : Int))) then
  (idx got9 i11).bind fun z_2 =>
  (idx b_14 i11).bind fun z_3 =>
  if (!(z_2.Lock == z_3.Lock && (z_2.Rep == z_3.Rep && (z_2.Seg == z_3.Seg && (z_2.Op == z_3.Op && (z_2.Mod == z_3.Mod && (z_2.Reg == z_3.Reg && (z_2.RM == z_3.RM && (z_2.Disp == z_3.Disp && (z_2.Imm == z_3.Imm && (z_2.Sel == z_3.Sel && true))))))))))) then
   some (.out (.inl false))
  else
   some (.next (IntKind.wrap .i64 (i11 + 1)))
 else
  some (.out (.inr ()))
noncomputable def hansomlaw07_ScanAll (l_ : (List Inst)) (cut_ : Int) : Option Bool :=
 (loopO (fun x : ((List Inst) × (List Int) × Int) => hansomlaw07_ScanAll_l8 x.1 x.2.1 l_ cut_ x.2.2) (([] : List Inst), ([] : List Int), 0)).bind fun e_1 =>
 (grow 1 e_1.2 ([15, 144] : List Int)).bind fun z_1 =>
 (scan_All z_1).bind fun r_1 =>
 if (r_1.2 != (e_1.2.length : Int)) then
  some false
 else
  if ((r_1.1.length : Int) != (e_1.1.length : Int)) then
   some false
  else
   (loopO (fun x : Int => hansomlaw07_ScanAll_l41 e_1.1 cut_ e_1.2 (e_1.2.length : Int) r_1.1 x) 0).bind fun e_2 =>
   match e_2 with
   | .inl e_3 =>
    some e_3
   | .inr e_4 =>
    (remI .i64 (bitsOp .and .i64 cut_ 65535) (IntKind.wrap .i64 ((e_1.2.length : Int) + 1))).bind fun z_2 =>
    (cutL e_1.2 0 z_2).bind fun z_3 =>
    (scan_All z_3).bind fun r_2 =>
    (hansomlaw07_awake).bind fun r_3 =>
    if r_3 then
     if (decide ((r_2.1.length : Int) ≤ (e_1.1.length : Int))) then
      some (decide (r_2.2 ≤ (e_1.2.length : Int)))
     else
      some false
    else
     some false
end Go.Es.Sca
