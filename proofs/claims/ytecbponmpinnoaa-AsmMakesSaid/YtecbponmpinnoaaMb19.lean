/- A claim's text, put together by a program of this session (wip/tools/shake.py): the declarations that the claim needs. -/
import Derived.Test.YtecbponmpinnoaaMb0
import Derived.Test.YtecbponmpinnoaaMb1
import Derived.Test.YtecbponmpinnoaaMb2
import Derived.Test.YtecbponmpinnoaaMb3
import Derived.Test.YtecbponmpinnoaaMb4
import Derived.Test.YtecbponmpinnoaaMb5
import Derived.Test.YtecbponmpinnoaaMb6
import Derived.Test.YtecbponmpinnoaaMb7
import Derived.Test.YtecbponmpinnoaaMb8
import Derived.Test.YtecbponmpinnoaaMb9
import Derived.Test.YtecbponmpinnoaaMb10
import Derived.Test.YtecbponmpinnoaaMb11
import Derived.Test.YtecbponmpinnoaaMb13
import Derived.Test.YtecbponmpinnoaaMb15
import Derived.Test.YtecbponmpinnoaaMb17
import Derived.Test.YtecbponmpinnoaaProg
import Derived.Below
import Derived.Deep.Draws
import Derived.Deep.AppendLies
import Derived.Maps.AppendAt
import Derived.OwnWalk
import Derived.Laws.BytesArg
import Derived.Laws.MakeOwn
import Derived.Laws.OwnMore
import Derived.Deep.OwnRows
import Derived.Tactics
import Derived.Lib.ConvBytes
import Derived.Laws.Slices
import Derived.WalkKit
import Derived.KernelRfl
import Derived.RowKit3
import Derived.Deep.LoopGhost
import Derived.Deep.QuietTactic
import Derived.BigQuiet
import Derived.WideLaws
import Derived.Deep.DeepCutAuto
import Derived.Deep.CutBlock
import Derived.Deep.RegionHeld3
import Derived.Laws.Rows
import Derived.Lib.AppendStr
import Derived.ArgAppend
import Derived.Laws.IdiomCopy
import Derived.OrdersHeld
import Derived.Laws.BitsLemmas
import Derived.RowKit
import Derived.Deep.WholeRow
import Derived.Outline
import Derived.WalkMore
import Derived.ScopeJumps
import Derived.Deep.DeepFit
import Derived.Maps.OwnOps
import Derived.Maps.Views
import Derived.Carry
import Derived.WalkArith
import Derived.Laws.StructEq
namespace Go
theorem zmb19_0 {p:Prop} (h:p:=by repeat (first|(with_reducible first|exact HB.out|apply below_alloc|apply pw_below_drewN|apply below_drew1)|exact HB.out)):p:=h
theorem zmb19_1 {p:Prop} (h:p:=by first|rfl|(simp [errW_none,errW_some] <;> rfl)|(simp [*,errW_none,errW_some] <;> rfl)):p:=h
theorem zmb19_2 {p:Prop} (h:p:=by (with_reducible repeat (first|apply Kd.R_alloc|apply Kd.R_drewN|apply Kd.R_drew));exact HO383.out):p:=h
theorem zmb19_3 {p:Prop} (h:p:=by (with_reducible repeat (first|apply Kd.R_alloc|apply Kd.R_drewN|apply Kd.R_drew));exact HO388.out):p:=h
theorem zmb19_4 {p:Prop} (h:p:=by (with_reducible repeat (first|apply Kd.R_alloc|apply Kd.R_drewN|apply Kd.R_drew));exact HO390.out):p:=h
theorem zmb19_5 {p:Prop} (h:p:=by (with_reducible repeat (first|apply Kd.R_alloc|apply Kd.R_drewN|apply Kd.R_drew));exact HO393.out):p:=h
theorem zmb19_6 {p:Prop} (h:p:=by (with_reducible repeat (first|apply Kd.R_alloc|apply Kd.R_drewN|apply Kd.R_drew));exact HO396.out):p:=h
theorem zmb19_7 {p:Prop} (h:p:=by (with_reducible repeat (first|apply Kd.R_alloc|apply Kd.R_drewN|apply Kd.R_drew));exact HO399.out):p:=h
theorem zmb19_8 {p:Prop} (h:p:=by first|rfl|(simp;done)|(simp [*];done)):p:=h
theorem zmb19_9 {p:Prop} (h:p:=by (with_reducible repeat (first|refine blk_drewN ?_ _|refine blk_drew ?_|refine blk_alloc ?_ _));refine blk_put (cs:=#[.slice Ao19 t394.length co19,.slice Ao21 t397.length co21,.int .i64 0]) ?_ 2 _ rfl;(with_reducible repeat (first|refine blk_drewN ?_ _|refine blk_drew ?_|refine blk_alloc ?_ _));refine blk_put (cs:=#[.slice Ao19 t394.length co19,.slice none 0 0,.int .i64 0]) ?_ 1 _ rfl;(with_reducible repeat (first|refine blk_drewN ?_ _|refine blk_drew ?_|refine blk_alloc ?_ _));refine blk_put (cs:=#[.slice none 0 0,.slice none 0 0,.int .i64 0]) ?_ 0 _ rfl;(with_reducible repeat (first|refine blk_drewN ?_ _|refine blk_drew ?_|refine blk_alloc ?_ _));exact BK401.out):p:=h
theorem zmb19_10 {p:Prop} (h:p:=by repeat (first|(with_reducible first|exact HB.out|apply below_alloc|apply pw_below_drewN|apply below_drew1|refine below_set ?_ GE401.out)|exact HB.out)):p:=h
theorem zmb19_11 {p:Prop} (h:p:=by (with_reducible repeat (first|apply Kd.R_alloc|apply Kd.R_drewN|apply Kd.R_drew));exact HO_8.out):p:=h
theorem zmb19_12 {p:Prop} (h:p:=by (with_reducible repeat (first|apply Kd.R_alloc|apply Kd.R_drewN|apply Kd.R_drew));exact HO_9.out):p:=h
theorem zmb19_13 {p:Prop} (h:p:=by (with_reducible repeat (first|apply Kd.R_alloc|apply Kd.R_drewN|apply Kd.R_drew));exact HO_402000.out):p:=h
theorem zmb19_14 {p:Prop} (h:p:=by (with_reducible repeat (first|apply Kd.R_alloc|apply Kd.R_drewN|apply Kd.R_drew));exact HO_402001.out):p:=h
theorem zmb19_15 {p:Prop} (h:p:=by (with_reducible repeat (first|refine blk_drewN ?_ _|refine blk_drew ?_|refine blk_alloc ?_ _));exact BK401.out):p:=h
theorem zmb19_16 {p:Prop} (h:p:=by first|(with_reducible assumption)|assumption):p:=h
end Go
set_option linter.unusedVariables false
set_option linter.unusedSimpArgs false
section
namespace Go.Proofs.Ytecbponmpinnoaa.P
open Go.RowKit Go.Proofs.YtecbponmpinnoaaW.PrintWords Go.Proofs.YtecbponmpinnoaaW.PrintLast Go.Proofs.YtecbponmpinnoaaW.PrintMore
attribute [local go_sem] max2_int min2_int max_two min_two max_three min_three max_four min_four   
set_option linter.unusedVariables false
set_option linter.unusedSimpArgs false
mutual
def rushlightlaw05_AsmMakes.j0:Nat→List Int→List Int→Bool→List Int→List Int→Int→Option (Bool)
 | 0,_,_,_,_,_,_=>none
 | k + 1,x8,x9,x50,x402000,x402001,x402002=>if x50 = true then (some false) else (rushlightlaw05_AsmMakes.l0 k x8 x9 0 x402000 x402001 x402002)
def rushlightlaw05_AsmMakes.l0:Nat→List Int→List Int→Int→List Int→List Int→Int→Option (Bool)
 | 0,_,_,_,_,_,_=>none
 | k + 1,x8,x9,x12,x402000,x402001,x402002=>if x12 < (x8.length:Int) then (if 0≤x12 then (if x12 < (x402000.length:Int) then (if (rd x8 x12) = (rd x402000 x12) then (rushlightlaw05_AsmMakes.l0 k x8 x9 (wrap64 (x12 + 1)) x402000 x402001 x402002) else (some false)) else (none)) else (none)) else (rushlightlaw05_AsmMakes.l1 k x9 0 x402000 x402001 x402002)
def rushlightlaw05_AsmMakes.l1:Nat→List Int→Int→List Int→List Int→Int→Option (Bool)
 | 0,_,_,_,_,_=>none
 | k + 1,x9,x13,x402000,x402001,x402002=>if x13 < (x9.length:Int) then (if 0≤x13 then (if x13 < (x402001.length:Int) then (if (rd x9 x13) = (rd x402001 x13) then (rushlightlaw05_AsmMakes.l1 k x9 (wrap64 (x13 + 1)) x402000 x402001 x402002) else (some false)) else (none)) else (none)) else ((rushlightlaw05_awake.f k).bind fun t406=>(some t406))
end
def rushlightlaw05_AsmMakes.f (k:Nat) (l0:List (S41)) (a1:Int) (a2:Int):Option (Bool):=if (l0.length:Int) > 60 then ((rushlightlaw05_awake.f k).bind fun t380=>(some t380)) else ((rushlightlaw05_Padded.f k l0 a1 a2).bind fun t381=>((asm_Assemble.f k t381).bind fun bt384=>((rushlightlaw05_Ref.f k t381).bind fun t391=>((rushlightref05_Assemble.f k t391).bind fun bt394=>(if bt384.2.2 = bt394.2.2 then (if (bt384.1.length:Int) = (bt394.1.length:Int) then (rushlightlaw05_AsmMakes.j0 k bt384.1 bt384.2.1 ((bt384.2.1.length:Int) != (bt394.2.1.length:Int)) bt394.1 bt394.2.1 bt394.2.2) else (rushlightlaw05_AsmMakes.j0 k bt384.1 bt384.2.1 true bt394.1 bt394.2.1 bt394.2.2)) else (rushlightlaw05_AsmMakes.j0 k bt384.1 bt384.2.1 true bt394.1 bt394.2.1 bt394.2.2))))))
set_option maxHeartbeats 8000000 in
set_option maxRecDepth 100000 in
theorem rushlightlaw05_AsmMakes.calls (k:Nat) (A0:Option Addr) (c0:Nat) (l0:List (S41)) (a1:Int) (a2:Int) (r:Bool) (w:World) (hr0:Kd.C k41 w A0 l0.length l0) (hc0:l0.length≤c0) (h:rushlightlaw05_AsmMakes.f k l0 a1 a2 = some r) :
  Calls Try.prog 3 #[.slice A0 l0.length c0,.int .i64 a1,.int .i64 a2] w fun e w'=>e = .returned (.bool r)∧Below w.heap.size w w':=by
 have hu31:=Try.underlying31
 have HR0:=Aside0.mk hr0
 have HC0:=Aside0.mk hc0
 clear hr0 hc0
 have HB:=Aside0.mk (Below.refl w.heap.size w)
 have H:(if (l0.length:Int) > 60 then ((rushlightlaw05_awake.f k).bind fun t380=>(some t380)) else ((rushlightlaw05_Padded.f k l0 a1 a2).bind fun t381=>((asm_Assemble.f k t381).bind fun bt384=>((rushlightlaw05_Ref.f k t381).bind fun t391=>((rushlightref05_Assemble.f k t391).bind fun bt394=>(if bt384.2.2 = bt394.2.2 then (if (bt384.1.length:Int) = (bt394.1.length:Int) then (rushlightlaw05_AsmMakes.j0 k bt384.1 bt384.2.1 ((bt384.2.1.length:Int) != (bt394.2.1.length:Int)) bt394.1 bt394.2.1 bt394.2.2) else (rushlightlaw05_AsmMakes.j0 k bt384.1 bt384.2.1 true bt394.1 bt394.2.1 bt394.2.2)) else (rushlightlaw05_AsmMakes.j0 k bt384.1 bt384.2.1 true bt394.1 bt394.2.1 bt394.2.2))))))) = some r:=h
 clear h
 by_cases c4:(l0.length:Int) > 60
 ·rw [if_pos c4] at H
  have c4b0:decide (60 < (l0.length:Int)) = true:=decide_eq_true c4
  have c4b1:decide (60 < l0.length) = true:=decide_eq_true (by omega)
  clear c4
  replace H:=Option.bind_eq_some_iff.mp H
  obtain ⟨t380,A50,H⟩:=H
  replace H:(some t380) = some r:=H
  have A5:=Aside0.mk A50
  clear A50
  obtain rfl:=Option.some.inj H
  go_enter Try.func3,Try.ntmps3
  go_wp2_with (first|(go_at_call 8;(with_reducible refine (rushlightlaw05_awake.calls k  t380 _ A5.out).mono ?_);rintro e w6 ⟨rfl,hb⟩;have n0_:=Aside0.mk (below_step zmb19_0 hb);clear HB;have HB:=n0_;clear n0_;(try clear hb);(try clear hb2);(try clear hk);(try clear hi)))
  repeat (go_quiet (first|(go_at_call 8;(with_reducible refine (rushlightlaw05_awake.calls k  t380 _ A5.out).mono ?_);rintro e w6 ⟨rfl,hb⟩;have n0_:=Aside0.mk (below_step zmb19_0 hb);clear HB;have HB:=n0_;clear n0_;(try clear hb);(try clear hb2);(try clear hk);(try clear hi)));try go_wp2_with (first|(go_at_call 8;(with_reducible refine (rushlightlaw05_awake.calls k  t380 _ A5.out).mono ?_);rintro e w6 ⟨rfl,hb⟩;have n0_:=Aside0.mk (below_step zmb19_0 hb);clear HB;have HB:=n0_;clear n0_;(try clear hb);(try clear hb2);(try clear hk);(try clear hi))))
  go_ret
  exact ⟨zmb19_1,zmb19_0⟩
 ·rw [if_neg c4] at H
  have c4b0:decide (60 < (l0.length:Int)) = false:=decide_eq_false c4
  have c4b1:decide (60 < l0.length) = false:=decide_eq_false (by omega)
  clear c4
  replace H:=Option.bind_eq_some_iff.mp H
  obtain ⟨t381,A70,H⟩:=H
  replace H:((asm_Assemble.f k t381).bind fun bt384=>((rushlightlaw05_Ref.f k t381).bind fun t391=>((rushlightref05_Assemble.f k t391).bind fun bt394=>(if bt384.2.2 = bt394.2.2 then (if (bt384.1.length:Int) = (bt394.1.length:Int) then (rushlightlaw05_AsmMakes.j0 k bt384.1 bt384.2.1 ((bt384.2.1.length:Int) != (bt394.2.1.length:Int)) bt394.1 bt394.2.1 bt394.2.2) else (rushlightlaw05_AsmMakes.j0 k bt384.1 bt384.2.1 true bt394.1 bt394.2.1 bt394.2.2)) else (rushlightlaw05_AsmMakes.j0 k bt384.1 bt384.2.1 true bt394.1 bt394.2.1 bt394.2.2))))) = some r:=H
  have A7:=Aside0.mk A70
  clear A70
  replace H:=Option.bind_eq_some_iff.mp H
  obtain ⟨⟨t384,t385,t386⟩,A80,H⟩:=H
  replace H:((rushlightlaw05_Ref.f k t381).bind fun t391=>((rushlightref05_Assemble.f k t391).bind fun bt394=>(if t386 = bt394.2.2 then (if (t384.length:Int) = (bt394.1.length:Int) then (rushlightlaw05_AsmMakes.j0 k t384 t385 ((t385.length:Int) != (bt394.2.1.length:Int)) bt394.1 bt394.2.1 bt394.2.2) else (rushlightlaw05_AsmMakes.j0 k t384 t385 true bt394.1 bt394.2.1 bt394.2.2)) else (rushlightlaw05_AsmMakes.j0 k t384 t385 true bt394.1 bt394.2.1 bt394.2.2)))) = some r:=H
  have A8:=Aside0.mk A80
  clear A80
  replace H:=Option.bind_eq_some_iff.mp H
  obtain ⟨t391,A90,H⟩:=H
  replace H:((rushlightref05_Assemble.f k t391).bind fun bt394=>(if t386 = bt394.2.2 then (if (t384.length:Int) = (bt394.1.length:Int) then (rushlightlaw05_AsmMakes.j0 k t384 t385 ((t385.length:Int) != (bt394.2.1.length:Int)) bt394.1 bt394.2.1 bt394.2.2) else (rushlightlaw05_AsmMakes.j0 k t384 t385 true bt394.1 bt394.2.1 bt394.2.2)) else (rushlightlaw05_AsmMakes.j0 k t384 t385 true bt394.1 bt394.2.1 bt394.2.2))) = some r:=H
  have A9:=Aside0.mk A90
  clear A90
  replace H:=Option.bind_eq_some_iff.mp H
  obtain ⟨⟨t394,t397,t400⟩,A100,H⟩:=H
  replace H:(if t386 = t400 then (if (t384.length:Int) = (t394.length:Int) then (rushlightlaw05_AsmMakes.j0 k t384 t385 ((t385.length:Int) != (t397.length:Int)) t394 t397 t400) else (rushlightlaw05_AsmMakes.j0 k t384 t385 true t394 t397 t400)) else (rushlightlaw05_AsmMakes.j0 k t384 t385 true t394 t397 t400)) = some r:=H
  have A10:=Aside0.mk A100
  clear A100
  have HC11:=Aside0.mk H
  clear H
  go_enter Try.func3,Try.ntmps3
  go_upto_region 6 with (first|(go_at_call 9;(with_reducible refine (rushlightlaw05_Padded.calls k _ _ l0 a1 a2 t381 _ ?side1 ?side2 A7.out).mono ?_);(case side1=>repeat (first|exact HR0.out|(with_reducible refine Kd.C_alloc ?_ _)|(with_reducible refine Kd.C_drewN ?_ _)|(with_reducible refine Kd.C_drew ?_)));(case side2=>exact HC0.out);rintro e w12 ⟨v382,rfl,ho0,hb⟩;have n0_:=Aside0.mk (Kd.R_lower ho0 (below_size zmb19_0));have n1_:=Aside0.mk (below_step zmb19_0 hb);clear HB;have HO383:=n0_;have HB:=n1_;clear n0_ n1_;(try clear hb);(try clear hb2);(try clear hk);(try clear hi);(try clear ho0);obtain ⟨Ao13,co13,eo13⟩:=Kd.R_slice HO383.out;subst eo13)|(go_at_call 10;(with_reducible refine (asm_Assemble.calls k _ _ t381 t384 t385 t386 _ ?side1 ?side2 A8.out).mono ?_);(case side1=>repeat (first|exact (Kd.R_reads' HO383.out).2.2|(with_reducible refine Kd.C_alloc ?_ _)|(with_reducible refine Kd.C_drewN ?_ _)|(with_reducible refine Kd.C_drew ?_)));(case side2=>exact (Kd.R_reads' HO383.out).2.1);rintro e w14 ⟨v387,v389,rfl,ho0,ho1,hb⟩;have n0_:=Aside0.mk (Kd.R_below zmb19_2 hb);have n1_:=Aside0.mk (Kd.R_lower ho0 (below_size zmb19_0));have n2_:=Aside0.mk (Kd.R_lower ho1 (below_size zmb19_0));have n3_:=Aside0.mk (below_step zmb19_0 hb);clear HO383 HB;have HO383:=n0_;have HO388:=n1_;have HO390:=n2_;have HB:=n3_;clear n0_ n1_ n2_ n3_;(try clear hb);(try clear hb2);(try clear hk);(try clear hi);(try clear ho0);(try clear ho1))|(go_at_call 12;(with_reducible refine (rushlightlaw05_Ref.calls k _ _ t381 t391 _ ?side1 ?side2 A9.out).mono ?_);(case side1=>repeat (first|exact (Kd.R_reads' HO383.out).2.2|(with_reducible refine Kd.C_alloc ?_ _)|(with_reducible refine Kd.C_drewN ?_ _)|(with_reducible refine Kd.C_drew ?_)));(case side2=>exact (Kd.R_reads' HO383.out).2.1);rintro e w15 ⟨v392,rfl,ho0,hb⟩;have n0_:=Aside0.mk (Kd.R_below zmb19_2 hb);have n1_:=Aside0.mk (Kd.R_below zmb19_3 hb);have n2_:=Aside0.mk (Kd.R_below zmb19_4 hb);have n3_:=Aside0.mk (Kd.R_lower ho0 (below_size zmb19_0));have n4_:=Aside0.mk (below_step zmb19_0 hb);clear HO383 HO388 HO390 HB;have HO383:=n0_;have HO388:=n1_;have HO390:=n2_;have HO393:=n3_;have HB:=n4_;clear n0_ n1_ n2_ n3_ n4_;(try clear hb);(try clear hb2);(try clear hk);(try clear hi);(try clear ho0);obtain ⟨Ao16,co16,eo16⟩:=Kd.R_slice HO393.out;subst eo16)|(go_at_call 11;(with_reducible refine (rushlightref05_Assemble.calls k _ _ t391 t394 t397 t400 _ ?side1 ?side2 A10.out).mono ?_);(case side1=>repeat (first|exact (Kd.R_reads' HO393.out).2.2|(with_reducible refine Kd.C_alloc ?_ _)|(with_reducible refine Kd.C_drewN ?_ _)|(with_reducible refine Kd.C_drew ?_)));(case side2=>exact (Kd.R_reads' HO393.out).2.1);rintro e w17 ⟨v395,v398,rfl,ho0,ho1,hb⟩;have n0_:=Aside0.mk (Kd.R_below zmb19_2 hb);have n1_:=Aside0.mk (Kd.R_elder' zmb19_3 (Kd.R_base ho0) hb);have n2_:=Aside0.mk (Kd.R_elder' zmb19_4 (Kd.R_base ho1) hb);have n3_:=Aside0.mk (Kd.R_below zmb19_5 hb);have n4_:=Aside0.mk (Kd.R_lower (Kd.R_new' ho0 (Kd.R_lt zmb19_3)) (below_size zmb19_0));have n5_:=Aside0.mk (Kd.R_lower (Kd.R_new' ho1 (Kd.R_lt zmb19_4)) (below_size zmb19_0));have n6_:=Aside0.mk (below_step zmb19_0 hb);clear HO383 HO388 HO390 HO393 HB;have HO383:=n0_;have HO388:=n1_;have HO390:=n2_;have HO393:=n3_;have HO396:=n4_;have HO399:=n5_;have HB:=n6_;clear n0_ n1_ n2_ n3_ n4_ n5_ n6_;(try clear hb);(try clear hb2);(try clear hk);(try clear hi);(try clear ho0);(try clear ho1))|((with_reducible refine gate_dst (N:=11) rfl ?_);(try (refine gate_guard (by rfl) ?_;dsimp only));refine box_event ?hg (N:=11) ?hd (cs:=#[.slice none 0 0,.slice none 0 0,.int .i64 0]) (t:=31) ?hr ?_;(case hd=>rfl);(case hg=>rfl);(case hr=>first|(go_simp;done)|(go_simp;rfl));intro gb401 hg w18 hbox hb;have n0_:=Aside0.mk (Kd.R_below zmb19_2 hb);have n1_:=Aside0.mk (Kd.R_below zmb19_3 hb);have n2_:=Aside0.mk (Kd.R_below zmb19_4 hb);have n3_:=Aside0.mk (Kd.R_below zmb19_5 hb);have n4_:=Aside0.mk (Kd.R_below zmb19_6 hb);have n5_:=Aside0.mk (Kd.R_below zmb19_7 hb);have n6_:=Aside0.mk (below_step zmb19_0 hb);have n7_:=Aside0.mk (hbox);have n8_:=Aside0.mk ((by rw [hg];exact (below_size zmb19_0):w.heap.size≤gb401));have n9_:=Aside0.mk ((by rw [hg];exact (below_size zmb19_0):w.heap.size≤gb401));clear HO383 HO388 HO390 HO393 HO396 HO399 HB;have HO383:=n0_;have HO388:=n1_;have HO390:=n2_;have HO393:=n3_;have HO396:=n4_;have HO399:=n5_;have HB:=n6_;have BK401:=n7_;have GW401:=n8_;have GE401:=n9_;clear n0_ n1_ n2_ n3_ n4_ n5_ n6_ n7_ n8_ n9_;clear hb hbox hg;obtain ⟨Ao19,co19,eo19⟩:=Kd.R_slice HO396.out;subst eo19;have hcz20_0:w18.cell? ⟨gb401,0,none⟩ = some (.slice none 0 0):=(blk_cell BK401.out 0).trans rfl;have hcz20_1:w18.cell? ⟨gb401,1,none⟩ = some (.slice none 0 0):=(blk_cell BK401.out 1).trans rfl;have hcz20_2:w18.cell? ⟨gb401,2,none⟩ = some (.int .i64 0):=(blk_cell BK401.out 2).trans rfl;have hfz20_0:=blk_frozen BK401.out 0;have hfz20_1:=blk_frozen BK401.out 1;have hfz20_2:=blk_frozen BK401.out 2;obtain ⟨Ao21,co21,eo21⟩:=Kd.R_slice HO399.out;subst eo21))
  repeat (go_quiet (first|(go_at_call 9;(with_reducible refine (rushlightlaw05_Padded.calls k _ _ l0 a1 a2 t381 _ ?side1 ?side2 A7.out).mono ?_);(case side1=>repeat (first|exact HR0.out|(with_reducible refine Kd.C_alloc ?_ _)|(with_reducible refine Kd.C_drewN ?_ _)|(with_reducible refine Kd.C_drew ?_)));(case side2=>exact HC0.out);rintro e w12 ⟨v382,rfl,ho0,hb⟩;have n0_:=Aside0.mk (Kd.R_lower ho0 (below_size zmb19_0));have n1_:=Aside0.mk (below_step zmb19_0 hb);clear HB;have HO383:=n0_;have HB:=n1_;clear n0_ n1_;(try clear hb);(try clear hb2);(try clear hk);(try clear hi);(try clear ho0);obtain ⟨Ao13,co13,eo13⟩:=Kd.R_slice HO383.out;subst eo13)|(go_at_call 10;(with_reducible refine (asm_Assemble.calls k _ _ t381 t384 t385 t386 _ ?side1 ?side2 A8.out).mono ?_);(case side1=>repeat (first|exact (Kd.R_reads' HO383.out).2.2|(with_reducible refine Kd.C_alloc ?_ _)|(with_reducible refine Kd.C_drewN ?_ _)|(with_reducible refine Kd.C_drew ?_)));(case side2=>exact (Kd.R_reads' HO383.out).2.1);rintro e w14 ⟨v387,v389,rfl,ho0,ho1,hb⟩;have n0_:=Aside0.mk (Kd.R_below zmb19_2 hb);have n1_:=Aside0.mk (Kd.R_lower ho0 (below_size zmb19_0));have n2_:=Aside0.mk (Kd.R_lower ho1 (below_size zmb19_0));have n3_:=Aside0.mk (below_step zmb19_0 hb);clear HO383 HB;have HO383:=n0_;have HO388:=n1_;have HO390:=n2_;have HB:=n3_;clear n0_ n1_ n2_ n3_;(try clear hb);(try clear hb2);(try clear hk);(try clear hi);(try clear ho0);(try clear ho1))|(go_at_call 12;(with_reducible refine (rushlightlaw05_Ref.calls k _ _ t381 t391 _ ?side1 ?side2 A9.out).mono ?_);(case side1=>repeat (first|exact (Kd.R_reads' HO383.out).2.2|(with_reducible refine Kd.C_alloc ?_ _)|(with_reducible refine Kd.C_drewN ?_ _)|(with_reducible refine Kd.C_drew ?_)));(case side2=>exact (Kd.R_reads' HO383.out).2.1);rintro e w15 ⟨v392,rfl,ho0,hb⟩;have n0_:=Aside0.mk (Kd.R_below zmb19_2 hb);have n1_:=Aside0.mk (Kd.R_below zmb19_3 hb);have n2_:=Aside0.mk (Kd.R_below zmb19_4 hb);have n3_:=Aside0.mk (Kd.R_lower ho0 (below_size zmb19_0));have n4_:=Aside0.mk (below_step zmb19_0 hb);clear HO383 HO388 HO390 HB;have HO383:=n0_;have HO388:=n1_;have HO390:=n2_;have HO393:=n3_;have HB:=n4_;clear n0_ n1_ n2_ n3_ n4_;(try clear hb);(try clear hb2);(try clear hk);(try clear hi);(try clear ho0);obtain ⟨Ao16,co16,eo16⟩:=Kd.R_slice HO393.out;subst eo16)|(go_at_call 11;(with_reducible refine (rushlightref05_Assemble.calls k _ _ t391 t394 t397 t400 _ ?side1 ?side2 A10.out).mono ?_);(case side1=>repeat (first|exact (Kd.R_reads' HO393.out).2.2|(with_reducible refine Kd.C_alloc ?_ _)|(with_reducible refine Kd.C_drewN ?_ _)|(with_reducible refine Kd.C_drew ?_)));(case side2=>exact (Kd.R_reads' HO393.out).2.1);rintro e w17 ⟨v395,v398,rfl,ho0,ho1,hb⟩;have n0_:=Aside0.mk (Kd.R_below zmb19_2 hb);have n1_:=Aside0.mk (Kd.R_elder' zmb19_3 (Kd.R_base ho0) hb);have n2_:=Aside0.mk (Kd.R_elder' zmb19_4 (Kd.R_base ho1) hb);have n3_:=Aside0.mk (Kd.R_below zmb19_5 hb);have n4_:=Aside0.mk (Kd.R_lower (Kd.R_new' ho0 (Kd.R_lt zmb19_3)) (below_size zmb19_0));have n5_:=Aside0.mk (Kd.R_lower (Kd.R_new' ho1 (Kd.R_lt zmb19_4)) (below_size zmb19_0));have n6_:=Aside0.mk (below_step zmb19_0 hb);clear HO383 HO388 HO390 HO393 HB;have HO383:=n0_;have HO388:=n1_;have HO390:=n2_;have HO393:=n3_;have HO396:=n4_;have HO399:=n5_;have HB:=n6_;clear n0_ n1_ n2_ n3_ n4_ n5_ n6_;(try clear hb);(try clear hb2);(try clear hk);(try clear hi);(try clear ho0);(try clear ho1))|((with_reducible refine gate_dst (N:=11) rfl ?_);(try (refine gate_guard (by rfl) ?_;dsimp only));refine box_event ?hg (N:=11) ?hd (cs:=#[.slice none 0 0,.slice none 0 0,.int .i64 0]) (t:=31) ?hr ?_;(case hd=>rfl);(case hg=>rfl);(case hr=>first|(go_simp;done)|(go_simp;rfl));intro gb401 hg w18 hbox hb;have n0_:=Aside0.mk (Kd.R_below zmb19_2 hb);have n1_:=Aside0.mk (Kd.R_below zmb19_3 hb);have n2_:=Aside0.mk (Kd.R_below zmb19_4 hb);have n3_:=Aside0.mk (Kd.R_below zmb19_5 hb);have n4_:=Aside0.mk (Kd.R_below zmb19_6 hb);have n5_:=Aside0.mk (Kd.R_below zmb19_7 hb);have n6_:=Aside0.mk (below_step zmb19_0 hb);have n7_:=Aside0.mk (hbox);have n8_:=Aside0.mk ((by rw [hg];exact (below_size zmb19_0):w.heap.size≤gb401));have n9_:=Aside0.mk ((by rw [hg];exact (below_size zmb19_0):w.heap.size≤gb401));clear HO383 HO388 HO390 HO393 HO396 HO399 HB;have HO383:=n0_;have HO388:=n1_;have HO390:=n2_;have HO393:=n3_;have HO396:=n4_;have HO399:=n5_;have HB:=n6_;have BK401:=n7_;have GW401:=n8_;have GE401:=n9_;clear n0_ n1_ n2_ n3_ n4_ n5_ n6_ n7_ n8_ n9_;clear hb hbox hg;obtain ⟨Ao19,co19,eo19⟩:=Kd.R_slice HO396.out;subst eo19;have hcz20_0:w18.cell? ⟨gb401,0,none⟩ = some (.slice none 0 0):=(blk_cell BK401.out 0).trans rfl;have hcz20_1:w18.cell? ⟨gb401,1,none⟩ = some (.slice none 0 0):=(blk_cell BK401.out 1).trans rfl;have hcz20_2:w18.cell? ⟨gb401,2,none⟩ = some (.int .i64 0):=(blk_cell BK401.out 2).trans rfl;have hfz20_0:=blk_frozen BK401.out 0;have hfz20_1:=blk_frozen BK401.out 1;have hfz20_2:=blk_frozen BK401.out 2;obtain ⟨Ao21,co21,eo21⟩:=Kd.R_slice HO399.out;subst eo21));go_upto_region 6 with (first|(go_at_call 9;(with_reducible refine (rushlightlaw05_Padded.calls k _ _ l0 a1 a2 t381 _ ?side1 ?side2 A7.out).mono ?_);(case side1=>repeat (first|exact HR0.out|(with_reducible refine Kd.C_alloc ?_ _)|(with_reducible refine Kd.C_drewN ?_ _)|(with_reducible refine Kd.C_drew ?_)));(case side2=>exact HC0.out);rintro e w12 ⟨v382,rfl,ho0,hb⟩;have n0_:=Aside0.mk (Kd.R_lower ho0 (below_size zmb19_0));have n1_:=Aside0.mk (below_step zmb19_0 hb);clear HB;have HO383:=n0_;have HB:=n1_;clear n0_ n1_;(try clear hb);(try clear hb2);(try clear hk);(try clear hi);(try clear ho0);obtain ⟨Ao13,co13,eo13⟩:=Kd.R_slice HO383.out;subst eo13)|(go_at_call 10;(with_reducible refine (asm_Assemble.calls k _ _ t381 t384 t385 t386 _ ?side1 ?side2 A8.out).mono ?_);(case side1=>repeat (first|exact (Kd.R_reads' HO383.out).2.2|(with_reducible refine Kd.C_alloc ?_ _)|(with_reducible refine Kd.C_drewN ?_ _)|(with_reducible refine Kd.C_drew ?_)));(case side2=>exact (Kd.R_reads' HO383.out).2.1);rintro e w14 ⟨v387,v389,rfl,ho0,ho1,hb⟩;have n0_:=Aside0.mk (Kd.R_below zmb19_2 hb);have n1_:=Aside0.mk (Kd.R_lower ho0 (below_size zmb19_0));have n2_:=Aside0.mk (Kd.R_lower ho1 (below_size zmb19_0));have n3_:=Aside0.mk (below_step zmb19_0 hb);clear HO383 HB;have HO383:=n0_;have HO388:=n1_;have HO390:=n2_;have HB:=n3_;clear n0_ n1_ n2_ n3_;(try clear hb);(try clear hb2);(try clear hk);(try clear hi);(try clear ho0);(try clear ho1))|(go_at_call 12;(with_reducible refine (rushlightlaw05_Ref.calls k _ _ t381 t391 _ ?side1 ?side2 A9.out).mono ?_);(case side1=>repeat (first|exact (Kd.R_reads' HO383.out).2.2|(with_reducible refine Kd.C_alloc ?_ _)|(with_reducible refine Kd.C_drewN ?_ _)|(with_reducible refine Kd.C_drew ?_)));(case side2=>exact (Kd.R_reads' HO383.out).2.1);rintro e w15 ⟨v392,rfl,ho0,hb⟩;have n0_:=Aside0.mk (Kd.R_below zmb19_2 hb);have n1_:=Aside0.mk (Kd.R_below zmb19_3 hb);have n2_:=Aside0.mk (Kd.R_below zmb19_4 hb);have n3_:=Aside0.mk (Kd.R_lower ho0 (below_size zmb19_0));have n4_:=Aside0.mk (below_step zmb19_0 hb);clear HO383 HO388 HO390 HB;have HO383:=n0_;have HO388:=n1_;have HO390:=n2_;have HO393:=n3_;have HB:=n4_;clear n0_ n1_ n2_ n3_ n4_;(try clear hb);(try clear hb2);(try clear hk);(try clear hi);(try clear ho0);obtain ⟨Ao16,co16,eo16⟩:=Kd.R_slice HO393.out;subst eo16)|(go_at_call 11;(with_reducible refine (rushlightref05_Assemble.calls k _ _ t391 t394 t397 t400 _ ?side1 ?side2 A10.out).mono ?_);(case side1=>repeat (first|exact (Kd.R_reads' HO393.out).2.2|(with_reducible refine Kd.C_alloc ?_ _)|(with_reducible refine Kd.C_drewN ?_ _)|(with_reducible refine Kd.C_drew ?_)));(case side2=>exact (Kd.R_reads' HO393.out).2.1);rintro e w17 ⟨v395,v398,rfl,ho0,ho1,hb⟩;have n0_:=Aside0.mk (Kd.R_below zmb19_2 hb);have n1_:=Aside0.mk (Kd.R_elder' zmb19_3 (Kd.R_base ho0) hb);have n2_:=Aside0.mk (Kd.R_elder' zmb19_4 (Kd.R_base ho1) hb);have n3_:=Aside0.mk (Kd.R_below zmb19_5 hb);have n4_:=Aside0.mk (Kd.R_lower (Kd.R_new' ho0 (Kd.R_lt zmb19_3)) (below_size zmb19_0));have n5_:=Aside0.mk (Kd.R_lower (Kd.R_new' ho1 (Kd.R_lt zmb19_4)) (below_size zmb19_0));have n6_:=Aside0.mk (below_step zmb19_0 hb);clear HO383 HO388 HO390 HO393 HB;have HO383:=n0_;have HO388:=n1_;have HO390:=n2_;have HO393:=n3_;have HO396:=n4_;have HO399:=n5_;have HB:=n6_;clear n0_ n1_ n2_ n3_ n4_ n5_ n6_;(try clear hb);(try clear hb2);(try clear hk);(try clear hi);(try clear ho0);(try clear ho1))|((with_reducible refine gate_dst (N:=11) rfl ?_);(try (refine gate_guard (by rfl) ?_;dsimp only));refine box_event ?hg (N:=11) ?hd (cs:=#[.slice none 0 0,.slice none 0 0,.int .i64 0]) (t:=31) ?hr ?_;(case hd=>rfl);(case hg=>rfl);(case hr=>first|(go_simp;done)|(go_simp;rfl));intro gb401 hg w18 hbox hb;have n0_:=Aside0.mk (Kd.R_below zmb19_2 hb);have n1_:=Aside0.mk (Kd.R_below zmb19_3 hb);have n2_:=Aside0.mk (Kd.R_below zmb19_4 hb);have n3_:=Aside0.mk (Kd.R_below zmb19_5 hb);have n4_:=Aside0.mk (Kd.R_below zmb19_6 hb);have n5_:=Aside0.mk (Kd.R_below zmb19_7 hb);have n6_:=Aside0.mk (below_step zmb19_0 hb);have n7_:=Aside0.mk (hbox);have n8_:=Aside0.mk ((by rw [hg];exact (below_size zmb19_0):w.heap.size≤gb401));have n9_:=Aside0.mk ((by rw [hg];exact (below_size zmb19_0):w.heap.size≤gb401));clear HO383 HO388 HO390 HO393 HO396 HO399 HB;have HO383:=n0_;have HO388:=n1_;have HO390:=n2_;have HO393:=n3_;have HO396:=n4_;have HO399:=n5_;have HB:=n6_;have BK401:=n7_;have GW401:=n8_;have GE401:=n9_;clear n0_ n1_ n2_ n3_ n4_ n5_ n6_ n7_ n8_ n9_;clear hb hbox hg;obtain ⟨Ao19,co19,eo19⟩:=Kd.R_slice HO396.out;subst eo19;have hcz20_0:w18.cell? ⟨gb401,0,none⟩ = some (.slice none 0 0):=(blk_cell BK401.out 0).trans rfl;have hcz20_1:w18.cell? ⟨gb401,1,none⟩ = some (.slice none 0 0):=(blk_cell BK401.out 1).trans rfl;have hcz20_2:w18.cell? ⟨gb401,2,none⟩ = some (.int .i64 0):=(blk_cell BK401.out 2).trans rfl;have hfz20_0:=blk_frozen BK401.out 0;have hfz20_1:=blk_frozen BK401.out 1;have hfz20_2:=blk_frozen BK401.out 2;obtain ⟨Ao21,co21,eo21⟩:=Kd.R_slice HO399.out;subst eo21)))
  (try simp only [Act.put,List.setIfInBounds_toArray,List.set_cons_zero,List.set_cons_succ])
  go_cut [50] (fun v50 wc=>∃ (kq:Nat) (x50_10:Bool),v50 = .bool x50_10∧Aside0 (rushlightlaw05_AsmMakes.j0 kq t384 t385 x50_10 t394 t397 t400 = some r)∧Aside0 (kq≤k)∧Aside0 (Kd.R (Kd.int .u32) 35 wc w.heap.size (fun k_=>some k_≠((.slice Ao19 t394.length co19):Value).ownBlock) v387 t384)∧Aside0 (Kd.R (Kd.int .i64) 3 wc w.heap.size (fun k_=>some k_≠((.slice Ao21 t397.length co21):Value).ownBlock) v389 t385)∧Aside0 (Kd.R (Kd.int .u32) 35 wc w.heap.size (fun k_=>some k_≠(v387:Value).ownBlock) (.slice Ao19 t394.length co19) t394)∧Aside0 (Kd.R (Kd.int .i64) 3 wc w.heap.size (fun k_=>some k_≠(v389:Value).ownBlock) (.slice Ao21 t397.length co21) t397)∧Aside0 (wc.heap[gb401]? = some (.cells #[(.slice Ao19 t394.length co19),(.slice Ao21 t397.length co21),.int .i64 t400] 31 (0,0)))∧Aside0 (Below w.heap.size w wc))
  case first =>
   have H:=HC11.out
   clear HC11
   by_cases c22:t386 = t400
   ·rw [if_pos c22] at H
    have c22b0:(t386 == t400) = true:=beq_iff_eq.mpr c22
    have c22b1:(t386 != t400) = false:=bne_eq_false_iff_eq.mpr c22
    clear c22
    (first|rw [c22b0]|(simp only [i64_w,i32_w];rw [c22b0])|skip)
    by_cases c23:(t384.length:Int) = (t394.length:Int)
    ·rw [if_pos c23] at H
     have c23b0:((t384.length:Int) == (t394.length:Int)) = true:=beq_iff_eq.mpr c23
     have c23b1:((t384.length:Int) != (t394.length:Int)) = false:=bne_eq_false_iff_eq.mpr c23
     have c23b2:(t384.length == t394.length) = true:=by first|simpa using c23|(simp at c23 ⊢;omega)
     clear c23
     have H':=Aside0.mk H
     clear H
     have hcz24_0:w18.cell? ⟨gb401,0,none⟩ = some (.slice none 0 0):=(blk_cell BK401.out 0).trans rfl
     have hcz24_1:w18.cell? ⟨gb401,1,none⟩ = some (.slice none 0 0):=(blk_cell BK401.out 1).trans rfl
     have hcz24_2:w18.cell? ⟨gb401,2,none⟩ = some (.int .i64 0):=(blk_cell BK401.out 2).trans rfl
     have hfz24_0:=blk_frozen BK401.out 0
     have hfz24_1:=blk_frozen BK401.out 1
     have hfz24_2:=blk_frozen BK401.out 2
     obtain ⟨Ao25,co25,eo25⟩:=Kd.R_slice HO388.out
     subst eo25
     obtain ⟨Ao26,co26,eo26⟩:=Kd.R_slice HO390.out
     subst eo26
     go_wp2
     repeat (go_quiet (fail);try go_wp2)
     go_meet
     case rel=>exact ⟨_,(((t385.length:Int) != (t397.length:Int))),zmb19_8,H',⟨by first|omega|exact Nat.le_refl _⟩,⟨by (with_reducible repeat (first|apply Kd.R_alloc|apply Kd.R_drewN|apply Kd.R_drew));exact Kd.R_mono (Kd.R_far (p:=⟨gb401,2,none⟩) (Kd.R_far (p:=⟨gb401,1,none⟩) (Kd.R_far (p:=⟨gb401,0,none⟩) (Kd.R_types HO388.out BK401.out (by decide)) (fun _ hk=>hk.2) (.slice Ao19 t394.length co19)) (fun _ hk=>hk.2) (.slice Ao21 t397.length co21)) (fun _ hk=>hk.2) (.int .i64 t400)) (fun _ hk=>hk.1.2)⟩,⟨by (with_reducible repeat (first|apply Kd.R_alloc|apply Kd.R_drewN|apply Kd.R_drew));exact Kd.R_mono (Kd.R_far (p:=⟨gb401,2,none⟩) (Kd.R_far (p:=⟨gb401,1,none⟩) (Kd.R_far (p:=⟨gb401,0,none⟩) (Kd.R_types HO390.out BK401.out (by decide)) (fun _ hk=>hk.2) (.slice Ao19 t394.length co19)) (fun _ hk=>hk.2) (.slice Ao21 t397.length co21)) (fun _ hk=>hk.2) (.int .i64 t400)) (fun _ hk=>hk.1.2)⟩,⟨by (with_reducible repeat (first|apply Kd.R_alloc|apply Kd.R_drewN|apply Kd.R_drew));exact Kd.R_mono (Kd.R_far (p:=⟨gb401,2,none⟩) (Kd.R_far (p:=⟨gb401,1,none⟩) (Kd.R_far (p:=⟨gb401,0,none⟩) (Kd.R_types HO396.out BK401.out (by decide)) (fun _ hk=>hk.2) (.slice Ao19 t394.length co19)) (fun _ hk=>hk.2) (.slice Ao21 t397.length co21)) (fun _ hk=>hk.2) (.int .i64 t400)) (fun _ hk=>hk.1.2)⟩,⟨by (with_reducible repeat (first|apply Kd.R_alloc|apply Kd.R_drewN|apply Kd.R_drew));exact Kd.R_mono (Kd.R_far (p:=⟨gb401,2,none⟩) (Kd.R_far (p:=⟨gb401,1,none⟩) (Kd.R_far (p:=⟨gb401,0,none⟩) (Kd.R_types HO399.out BK401.out (by decide)) (fun _ hk=>hk.2) (.slice Ao19 t394.length co19)) (fun _ hk=>hk.2) (.slice Ao21 t397.length co21)) (fun _ hk=>hk.2) (.int .i64 t400)) (fun _ hk=>hk.1.2)⟩,⟨zmb19_9⟩,⟨zmb19_10⟩⟩
    ·rw [if_neg c23] at H
     have c23b0:((t384.length:Int) == (t394.length:Int)) = false:=beq_eq_false_iff_ne.mpr c23
     have c23b1:((t384.length:Int) != (t394.length:Int)) = true:=bne_iff_ne.mpr c23
     have c23b2:(t384.length == t394.length) = false:=by first|simpa using c23|(simp at c23 ⊢;omega)
     have H':=Aside0.mk H
     clear H
     have hcz27_0:w18.cell? ⟨gb401,0,none⟩ = some (.slice none 0 0):=(blk_cell BK401.out 0).trans rfl
     have hcz27_1:w18.cell? ⟨gb401,1,none⟩ = some (.slice none 0 0):=(blk_cell BK401.out 1).trans rfl
     have hcz27_2:w18.cell? ⟨gb401,2,none⟩ = some (.int .i64 0):=(blk_cell BK401.out 2).trans rfl
     have hfz27_0:=blk_frozen BK401.out 0
     have hfz27_1:=blk_frozen BK401.out 1
     have hfz27_2:=blk_frozen BK401.out 2
     obtain ⟨Ao28,co28,eo28⟩:=Kd.R_slice HO388.out
     subst eo28
     go_wp2
     repeat (go_quiet (fail);try go_wp2)
     go_meet
     case rel=>exact ⟨_,(true),zmb19_8,H',⟨by first|omega|exact Nat.le_refl _⟩,⟨by (with_reducible repeat (first|apply Kd.R_alloc|apply Kd.R_drewN|apply Kd.R_drew));exact Kd.R_mono (Kd.R_far (p:=⟨gb401,2,none⟩) (Kd.R_far (p:=⟨gb401,1,none⟩) (Kd.R_far (p:=⟨gb401,0,none⟩) (Kd.R_types HO388.out BK401.out (by decide)) (fun _ hk=>hk.2) (.slice Ao19 t394.length co19)) (fun _ hk=>hk.2) (.slice Ao21 t397.length co21)) (fun _ hk=>hk.2) (.int .i64 t400)) (fun _ hk=>hk.1.2)⟩,⟨by (with_reducible repeat (first|apply Kd.R_alloc|apply Kd.R_drewN|apply Kd.R_drew));exact Kd.R_mono (Kd.R_far (p:=⟨gb401,2,none⟩) (Kd.R_far (p:=⟨gb401,1,none⟩) (Kd.R_far (p:=⟨gb401,0,none⟩) (Kd.R_types HO390.out BK401.out (by decide)) (fun _ hk=>hk.2) (.slice Ao19 t394.length co19)) (fun _ hk=>hk.2) (.slice Ao21 t397.length co21)) (fun _ hk=>hk.2) (.int .i64 t400)) (fun _ hk=>hk.1.2)⟩,⟨by (with_reducible repeat (first|apply Kd.R_alloc|apply Kd.R_drewN|apply Kd.R_drew));exact Kd.R_mono (Kd.R_far (p:=⟨gb401,2,none⟩) (Kd.R_far (p:=⟨gb401,1,none⟩) (Kd.R_far (p:=⟨gb401,0,none⟩) (Kd.R_types HO396.out BK401.out (by decide)) (fun _ hk=>hk.2) (.slice Ao19 t394.length co19)) (fun _ hk=>hk.2) (.slice Ao21 t397.length co21)) (fun _ hk=>hk.2) (.int .i64 t400)) (fun _ hk=>hk.1.2)⟩,⟨by (with_reducible repeat (first|apply Kd.R_alloc|apply Kd.R_drewN|apply Kd.R_drew));exact Kd.R_mono (Kd.R_far (p:=⟨gb401,2,none⟩) (Kd.R_far (p:=⟨gb401,1,none⟩) (Kd.R_far (p:=⟨gb401,0,none⟩) (Kd.R_types HO399.out BK401.out (by decide)) (fun _ hk=>hk.2) (.slice Ao19 t394.length co19)) (fun _ hk=>hk.2) (.slice Ao21 t397.length co21)) (fun _ hk=>hk.2) (.int .i64 t400)) (fun _ hk=>hk.1.2)⟩,⟨zmb19_9⟩,⟨zmb19_10⟩⟩
   ·rw [if_neg c22] at H
    have c22b0:(t386 == t400) = false:=beq_eq_false_iff_ne.mpr c22
    have c22b1:(t386 != t400) = true:=bne_iff_ne.mpr c22
    (first|rw [c22b0]|(simp only [i64_w,i32_w];rw [c22b0])|skip)
    have H':=Aside0.mk H
    clear H
    have hcz29_0:w18.cell? ⟨gb401,0,none⟩ = some (.slice none 0 0):=(blk_cell BK401.out 0).trans rfl
    have hcz29_1:w18.cell? ⟨gb401,1,none⟩ = some (.slice none 0 0):=(blk_cell BK401.out 1).trans rfl
    have hcz29_2:w18.cell? ⟨gb401,2,none⟩ = some (.int .i64 0):=(blk_cell BK401.out 2).trans rfl
    have hfz29_0:=blk_frozen BK401.out 0
    have hfz29_1:=blk_frozen BK401.out 1
    have hfz29_2:=blk_frozen BK401.out 2
    go_wp2
    repeat (go_quiet (fail);try go_wp2)
    go_meet
    case rel=>exact ⟨_,(true),zmb19_8,H',⟨by first|omega|exact Nat.le_refl _⟩,⟨by (with_reducible repeat (first|apply Kd.R_alloc|apply Kd.R_drewN|apply Kd.R_drew));exact Kd.R_mono (Kd.R_far (p:=⟨gb401,2,none⟩) (Kd.R_far (p:=⟨gb401,1,none⟩) (Kd.R_far (p:=⟨gb401,0,none⟩) (Kd.R_types HO388.out BK401.out (by decide)) (fun _ hk=>hk.2) (.slice Ao19 t394.length co19)) (fun _ hk=>hk.2) (.slice Ao21 t397.length co21)) (fun _ hk=>hk.2) (.int .i64 t400)) (fun _ hk=>hk.1.2)⟩,⟨by (with_reducible repeat (first|apply Kd.R_alloc|apply Kd.R_drewN|apply Kd.R_drew));exact Kd.R_mono (Kd.R_far (p:=⟨gb401,2,none⟩) (Kd.R_far (p:=⟨gb401,1,none⟩) (Kd.R_far (p:=⟨gb401,0,none⟩) (Kd.R_types HO390.out BK401.out (by decide)) (fun _ hk=>hk.2) (.slice Ao19 t394.length co19)) (fun _ hk=>hk.2) (.slice Ao21 t397.length co21)) (fun _ hk=>hk.2) (.int .i64 t400)) (fun _ hk=>hk.1.2)⟩,⟨by (with_reducible repeat (first|apply Kd.R_alloc|apply Kd.R_drewN|apply Kd.R_drew));exact Kd.R_mono (Kd.R_far (p:=⟨gb401,2,none⟩) (Kd.R_far (p:=⟨gb401,1,none⟩) (Kd.R_far (p:=⟨gb401,0,none⟩) (Kd.R_types HO396.out BK401.out (by decide)) (fun _ hk=>hk.2) (.slice Ao19 t394.length co19)) (fun _ hk=>hk.2) (.slice Ao21 t397.length co21)) (fun _ hk=>hk.2) (.int .i64 t400)) (fun _ hk=>hk.1.2)⟩,⟨by (with_reducible repeat (first|apply Kd.R_alloc|apply Kd.R_drewN|apply Kd.R_drew));exact Kd.R_mono (Kd.R_far (p:=⟨gb401,2,none⟩) (Kd.R_far (p:=⟨gb401,1,none⟩) (Kd.R_far (p:=⟨gb401,0,none⟩) (Kd.R_types HO399.out BK401.out (by decide)) (fun _ hk=>hk.2) (.slice Ao19 t394.length co19)) (fun _ hk=>hk.2) (.slice Ao21 t397.length co21)) (fun _ hk=>hk.2) (.int .i64 t400)) (fun _ hk=>hk.1.2)⟩,⟨zmb19_9⟩,⟨zmb19_10⟩⟩
  case rest =>
   clear HC11
   try clear c2
   try clear p2
   try clear c3
   try clear c4
   try clear c4b0
   try clear c4b1
   try clear c22
   try clear c22b0
   try clear c22b1
   try clear c23
   try clear c23b0
   try clear c23b1
   try clear c23b2
   try clear hcz20_0
   try clear hcz20_1
   try clear hcz20_2
   try clear hcz24_0
   try clear hcz24_1
   try clear hcz24_2
   try clear hcz27_0
   try clear hcz27_1
   try clear hcz27_2
   try clear hcz29_0
   try clear hcz29_1
   try clear hcz29_2
   try clear hfz20_0
   try clear hfz20_1
   try clear hfz20_2
   try clear hfz24_0
   try clear hfz24_1
   try clear hfz24_2
   try clear hfz27_0
   try clear hfz27_1
   try clear hfz27_2
   try clear hfz29_0
   try clear hfz29_1
   try clear hfz29_2
   obtain ⟨kq,x50_10,rfl,HA,HJ10,HO_8,HO_9,HO_402000,HO_402001,BK401,HB⟩:=hcut
   cases kq with
   | zero=>exact absurd HA.out (by simp [rushlightlaw05_AsmMakes.j0])
   | succ kj10 =>
    have H:=HA.out
    clear HA
    simp only [rushlightlaw05_AsmMakes.j0] at H
    by_cases c30:x50_10 = true
    ·subst c30
     have H1:(some false) = some r:=by rw [if_pos rfl] at H;exact H
     clear H
     have H:=H1
     clear H1
     obtain rfl:=Option.some.inj H
     go_wp2
     repeat (go_quiet (fail);try go_wp2)
     go_ret
     exact ⟨zmb19_1,zmb19_10⟩
    ·replace c30:=Bool.eq_false_iff.mpr c30
     subst c30
     have H1:(rushlightlaw05_AsmMakes.l0 kj10 t384 t385 0 t394 t397 t400) = some r:=by rw [if_neg (show ¬ (false = true) by decide)] at H;exact H
     clear H
     have H:=H1
     clear H1
     have H':=Aside0.mk H
     clear H
     go_wp2
     repeat (go_quiet (fail);try go_wp2)
     go_loopg [12] kj10 (fun kq v12 w'=>∃ (x12_2:Int),v12 = .int .i64 x12_2∧Aside0 (rushlightlaw05_AsmMakes.l0 kq t384 t385 x12_2 t394 t397 t400 = some r)∧Aside0 (kq≤kj10)∧Aside0 (Kd.R (Kd.int .u32) 35 w' w.heap.size (fun k_=>some k_≠((.slice Ao19 t394.length co19):Value).ownBlock) v387 t384)∧Aside0 (Kd.R (Kd.int .i64) 3 w' w.heap.size (fun k_=>some k_≠((.slice Ao21 t397.length co21):Value).ownBlock) v389 t385)∧Aside0 (Kd.R (Kd.int .u32) 35 w' w.heap.size (fun k_=>some k_≠(v387:Value).ownBlock) (.slice Ao19 t394.length co19) t394)∧Aside0 (Kd.R (Kd.int .i64) 3 w' w.heap.size (fun k_=>some k_≠(v389:Value).ownBlock) (.slice Ao21 t397.length co21) t397)∧Aside0 (w'.heap[gb401]? = some (.cells #[(.slice Ao19 t394.length co19),(.slice Ao21 t397.length co21),.int .i64 t400] 31 (0,0)))∧Aside0 (Below w.heap.size w w'))
     case atStart=>exact ⟨(0),zmb19_8,H',⟨Nat.le_refl _⟩,⟨zmb19_11⟩,⟨zmb19_12⟩,⟨zmb19_13⟩,⟨zmb19_14⟩,⟨zmb19_15⟩,⟨zmb19_10⟩⟩
     case round =>
      clear H'
      try clear c2
      try clear p2
      try clear c3
      try clear c4
      try clear c4b0
      try clear c4b1
      try clear c22
      try clear c22b0
      try clear c22b1
      try clear c23
      try clear c23b0
      try clear c23b1
      try clear c23b2
      try clear c30
      try clear hcz20_0
      try clear hcz20_1
      try clear hcz20_2
      try clear hcz24_0
      try clear hcz24_1
      try clear hcz24_2
      try clear hcz27_0
      try clear hcz27_1
      try clear hcz27_2
      try clear hcz29_0
      try clear hcz29_1
      try clear hcz29_2
      try clear hfz20_0
      try clear hfz20_1
      try clear hfz20_2
      try clear hfz24_0
      try clear hfz24_1
      try clear hfz24_2
      try clear hfz27_0
      try clear hfz27_1
      try clear hfz27_2
      try clear hfz29_0
      try clear hfz29_1
      try clear hfz29_2
      try clear p2
      obtain ⟨x12_2,rfl,HA,HK2,HO_8,HO_9,HO_402000,HO_402001,BK401,HB⟩:=hrel
      cases gk with
      | zero=>exact absurd HA.out (by simp [rushlightlaw05_AsmMakes.l0])
      | succ k2 =>
       have H:=HA.out
       clear HA
       simp only [rushlightlaw05_AsmMakes.l0] at H
       by_cases c31:x12_2 < (t384.length:Int)
       ·rw [if_pos c31] at H
        have c31b0:decide (x12_2 < (t384.length:Int)) = true:=decide_eq_true c31
        clear c31
        by_cases c32:0≤x12_2
        ·rw [if_pos c32] at H
         have c32b0:decide (0≤x12_2) = true:=decide_eq_true c32
         clear c32
         by_cases c33:x12_2 < (t394.length:Int)
         ·rw [if_pos c33] at H
          have c33b0:decide (x12_2 < (t394.length:Int)) = true:=decide_eq_true c33
          clear c33
          by_cases c34:(rd t384 x12_2) = (rd t394 x12_2)
          ·rw [if_pos c34] at H
           have c34b0:((rd t384 x12_2) == (rd t394 x12_2)) = true:=beq_iff_eq.mpr c34
           have c34b1:((rd t384 x12_2) != (rd t394 x12_2)) = false:=bne_eq_false_iff_eq.mpr c34
           clear c34
           have H':=Aside0.mk H
           clear H
           obtain ⟨Ao35,co35,eo35⟩:=Kd.R_slice HO_8.out
           subst eo35
           have p402:0≤(x12_2:Int):=of_decide_eq_true zmb19_16
           have q402:x12_2 < (t384.length:Int):=of_decide_eq_true zmb19_16
           obtain ⟨ad402,e402,hx402_0⟩:=Kd.at_int (Kd.R_reads' HO_8.out).2.2 x12_2 p402 q402
           cases e402
           replace p402:=eq_true p402
           replace q402:=eq_true q402
           have hcz36_0:wr.cell? ⟨gb401,0,none⟩ = some (.slice Ao19 t394.length co19):=(blk_cell BK401.out 0).trans rfl
           have hcz36_1:wr.cell? ⟨gb401,1,none⟩ = some (.slice Ao21 t397.length co21):=(blk_cell BK401.out 1).trans rfl
           have hcz36_2:wr.cell? ⟨gb401,2,none⟩ = some (.int .i64 t400):=(blk_cell BK401.out 2).trans rfl
           have hfz36_0:=blk_frozen BK401.out 0
           have hfz36_1:=blk_frozen BK401.out 1
           have hfz36_2:=blk_frozen BK401.out 2
           have p403:0≤(x12_2:Int):=of_decide_eq_true zmb19_16
           have q403:x12_2 < (t394.length:Int):=of_decide_eq_true zmb19_16
           obtain ⟨ad403,e403,hx403_0⟩:=Kd.at_int (Kd.R_reads' HO_402000.out).2.2 x12_2 p403 q403
           cases e403
           replace p403:=eq_true p403
           replace q403:=eq_true q403
           go_wp2
           repeat (go_quiet (fail);try go_wp2)
           go_roundg k2
           case measure=>have:=HJ10.out;have:=HK2.out;omega
           case rel=>exact ⟨(wrap64 (x12_2 + 1)),zmb19_8,H',⟨by have:=HJ10.out;have:=HK2.out;omega⟩,⟨zmb19_11⟩,⟨zmb19_12⟩,⟨zmb19_13⟩,⟨zmb19_14⟩,⟨zmb19_15⟩,⟨zmb19_10⟩⟩
          ·rw [if_neg c34] at H
           have c34b0:((rd t384 x12_2) == (rd t394 x12_2)) = false:=beq_eq_false_iff_ne.mpr c34
           have c34b1:((rd t384 x12_2) != (rd t394 x12_2)) = true:=bne_iff_ne.mpr c34
           obtain rfl:=Option.some.inj H
           obtain ⟨Ao37,co37,eo37⟩:=Kd.R_slice HO_8.out
           subst eo37
           have p402:0≤(x12_2:Int):=of_decide_eq_true zmb19_16
           have q402:x12_2 < (t384.length:Int):=of_decide_eq_true zmb19_16
           obtain ⟨ad402,e402,hx402_0⟩:=Kd.at_int (Kd.R_reads' HO_8.out).2.2 x12_2 p402 q402
           cases e402
           replace p402:=eq_true p402
           replace q402:=eq_true q402
           have hcz38_0:wr.cell? ⟨gb401,0,none⟩ = some (.slice Ao19 t394.length co19):=(blk_cell BK401.out 0).trans rfl
           have hcz38_1:wr.cell? ⟨gb401,1,none⟩ = some (.slice Ao21 t397.length co21):=(blk_cell BK401.out 1).trans rfl
           have hcz38_2:wr.cell? ⟨gb401,2,none⟩ = some (.int .i64 t400):=(blk_cell BK401.out 2).trans rfl
           have hfz38_0:=blk_frozen BK401.out 0
           have hfz38_1:=blk_frozen BK401.out 1
           have hfz38_2:=blk_frozen BK401.out 2
           have p403:0≤(x12_2:Int):=of_decide_eq_true zmb19_16
           have q403:x12_2 < (t394.length:Int):=of_decide_eq_true zmb19_16
           obtain ⟨ad403,e403,hx403_0⟩:=Kd.at_int (Kd.R_reads' HO_402000.out).2.2 x12_2 p403 q403
           cases e403
           replace p403:=eq_true p403
           replace q403:=eq_true q403
           go_wp2
           repeat (go_quiet (fail);try go_wp2)
           go_ret
           exact ⟨zmb19_1,zmb19_10⟩
         ·rw [if_neg c33] at H
          exact absurd H (by simp)
        ·rw [if_neg c32] at H
         exact absurd H (by simp)
       ·rw [if_neg c31] at H
        have c31b0:decide (x12_2 < (t384.length:Int)) = false:=decide_eq_false c31
        clear c31
        have H':=Aside0.mk H
        clear H
        obtain ⟨Ao39,co39,eo39⟩:=Kd.R_slice HO_8.out
        subst eo39
        go_wp2
        repeat (go_quiet (fail);try go_wp2)
        go_loopg [13] k2 (fun kq v13 w'=>∃ (x13_3:Int),v13 = .int .i64 x13_3∧Aside0 (rushlightlaw05_AsmMakes.l1 kq t385 x13_3 t394 t397 t400 = some r)∧Aside0 (kq≤k2)∧Aside0 (Kd.R (Kd.int .i64) 3 w' w.heap.size (fun k_=>some k_≠((.slice Ao21 t397.length co21):Value).ownBlock) v389 t385)∧Aside0 (Kd.R (Kd.int .u32) 35 w' w.heap.size (fun _=>True) (.slice Ao19 t394.length co19) t394)∧Aside0 (Kd.R (Kd.int .i64) 3 w' w.heap.size (fun k_=>some k_≠(v389:Value).ownBlock) (.slice Ao21 t397.length co21) t397)∧Aside0 (w'.heap[gb401]? = some (.cells #[(.slice Ao19 t394.length co19),(.slice Ao21 t397.length co21),.int .i64 t400] 31 (0,0)))∧Aside0 (Below w.heap.size w w'))
        case atStart=>exact ⟨(0),zmb19_8,H',⟨Nat.le_refl _⟩,⟨zmb19_12⟩,⟨by (with_reducible repeat (first|apply Kd.R_alloc|apply Kd.R_drewN|apply Kd.R_drew));exact Kd.R_mono HO_402000.out (fun _ hk=>trivial)⟩,⟨zmb19_14⟩,⟨zmb19_15⟩,⟨zmb19_10⟩⟩
        case round =>
         clear H'
         try clear c2
         try clear p2
         try clear c3
         try clear c4
         try clear c4b0
         try clear c4b1
         try clear p4
         try clear q4
         try clear hx4
         try clear p6
         try clear c22
         try clear c22b0
         try clear c22b1
         try clear c23
         try clear c23b0
         try clear c23b1
         try clear c23b2
         try clear c30
         try clear c31
         try clear c31b0
         try clear c32
         try clear c32b0
         try clear c33
         try clear c33b0
         try clear c34
         try clear c34b0
         try clear c34b1
         try clear hcz20_0
         try clear hcz20_1
         try clear hcz20_2
         try clear hcz24_0
         try clear hcz24_1
         try clear hcz24_2
         try clear hcz27_0
         try clear hcz27_1
         try clear hcz27_2
         try clear hcz29_0
         try clear hcz29_1
         try clear hcz29_2
         try clear hcz36_0
         try clear hcz36_1
         try clear hcz36_2
         try clear hcz38_0
         try clear hcz38_1
         try clear hcz38_2
         try clear hfz20_0
         try clear hfz20_1
         try clear hfz20_2
         try clear hfz24_0
         try clear hfz24_1
         try clear hfz24_2
         try clear hfz27_0
         try clear hfz27_1
         try clear hfz27_2
         try clear hfz29_0
         try clear hfz29_1
         try clear hfz29_2
         try clear hfz36_0
         try clear hfz36_1
         try clear hfz36_2
         try clear hfz38_0
         try clear hfz38_1
         try clear hfz38_2
         try clear hx402_0
         try clear hx403_0
         try clear p2
         try clear p402
         try clear p403
         try clear q402
         try clear q403
         obtain ⟨x13_3,rfl,HA,HK3,HO_9,HO_402000,HO_402001,BK401,HB⟩:=hrel
         cases gk with
         | zero=>exact absurd HA.out (by simp [rushlightlaw05_AsmMakes.l1])
         | succ k3 =>
          have H:=HA.out
          clear HA
          simp only [rushlightlaw05_AsmMakes.l1] at H
          by_cases c40:x13_3 < (t385.length:Int)
          ·rw [if_pos c40] at H
           have c40b0:decide (x13_3 < (t385.length:Int)) = true:=decide_eq_true c40
           clear c40
           by_cases c41:0≤x13_3
           ·rw [if_pos c41] at H
            have c41b0:decide (0≤x13_3) = true:=decide_eq_true c41
            clear c41
            by_cases c42:x13_3 < (t397.length:Int)
            ·rw [if_pos c42] at H
             have c42b0:decide (x13_3 < (t397.length:Int)) = true:=decide_eq_true c42
             clear c42
             by_cases c43:(rd t385 x13_3) = (rd t397 x13_3)
             ·rw [if_pos c43] at H
              have c43b0:((rd t385 x13_3) == (rd t397 x13_3)) = true:=beq_iff_eq.mpr c43
              have c43b1:((rd t385 x13_3) != (rd t397 x13_3)) = false:=bne_eq_false_iff_eq.mpr c43
              clear c43
              have H':=Aside0.mk H
              clear H
              obtain ⟨Ao44,co44,eo44⟩:=Kd.R_slice HO_9.out
              subst eo44
              have p404:0≤(x13_3:Int):=of_decide_eq_true zmb19_16
              have q404:x13_3 < (t385.length:Int):=of_decide_eq_true zmb19_16
              obtain ⟨ad404,e404,hx404_0⟩:=Kd.at_int (Kd.R_reads' HO_9.out).2.2 x13_3 p404 q404
              cases e404
              replace p404:=eq_true p404
              replace q404:=eq_true q404
              have hcz45_0:wr.cell? ⟨gb401,0,none⟩ = some (.slice Ao19 t394.length co19):=(blk_cell BK401.out 0).trans rfl
              have hcz45_1:wr.cell? ⟨gb401,1,none⟩ = some (.slice Ao21 t397.length co21):=(blk_cell BK401.out 1).trans rfl
              have hcz45_2:wr.cell? ⟨gb401,2,none⟩ = some (.int .i64 t400):=(blk_cell BK401.out 2).trans rfl
              have hfz45_0:=blk_frozen BK401.out 0
              have hfz45_1:=blk_frozen BK401.out 1
              have hfz45_2:=blk_frozen BK401.out 2
              have p405:0≤(x13_3:Int):=of_decide_eq_true zmb19_16
              have q405:x13_3 < (t397.length:Int):=of_decide_eq_true zmb19_16
              obtain ⟨ad405,e405,hx405_0⟩:=Kd.at_int (Kd.R_reads' HO_402001.out).2.2 x13_3 p405 q405
              cases e405
              replace p405:=eq_true p405
              replace q405:=eq_true q405
              go_wp2
              repeat (go_quiet (fail);try go_wp2)
              go_roundg k3
              case measure=>have:=HJ10.out;have:=HK2.out;have:=HK3.out;omega
              case rel=>exact ⟨(wrap64 (x13_3 + 1)),zmb19_8,H',⟨by have:=HJ10.out;have:=HK2.out;have:=HK3.out;omega⟩,⟨zmb19_12⟩,⟨zmb19_13⟩,⟨zmb19_14⟩,⟨zmb19_15⟩,⟨zmb19_10⟩⟩
             ·rw [if_neg c43] at H
              have c43b0:((rd t385 x13_3) == (rd t397 x13_3)) = false:=beq_eq_false_iff_ne.mpr c43
              have c43b1:((rd t385 x13_3) != (rd t397 x13_3)) = true:=bne_iff_ne.mpr c43
              obtain rfl:=Option.some.inj H
              obtain ⟨Ao46,co46,eo46⟩:=Kd.R_slice HO_9.out
              subst eo46
              have p404:0≤(x13_3:Int):=of_decide_eq_true zmb19_16
              have q404:x13_3 < (t385.length:Int):=of_decide_eq_true zmb19_16
              obtain ⟨ad404,e404,hx404_0⟩:=Kd.at_int (Kd.R_reads' HO_9.out).2.2 x13_3 p404 q404
              cases e404
              replace p404:=eq_true p404
              replace q404:=eq_true q404
              have hcz47_0:wr.cell? ⟨gb401,0,none⟩ = some (.slice Ao19 t394.length co19):=(blk_cell BK401.out 0).trans rfl
              have hcz47_1:wr.cell? ⟨gb401,1,none⟩ = some (.slice Ao21 t397.length co21):=(blk_cell BK401.out 1).trans rfl
              have hcz47_2:wr.cell? ⟨gb401,2,none⟩ = some (.int .i64 t400):=(blk_cell BK401.out 2).trans rfl
              have hfz47_0:=blk_frozen BK401.out 0
              have hfz47_1:=blk_frozen BK401.out 1
              have hfz47_2:=blk_frozen BK401.out 2
              have p405:0≤(x13_3:Int):=of_decide_eq_true zmb19_16
              have q405:x13_3 < (t397.length:Int):=of_decide_eq_true zmb19_16
              obtain ⟨ad405,e405,hx405_0⟩:=Kd.at_int (Kd.R_reads' HO_402001.out).2.2 x13_3 p405 q405
              cases e405
              replace p405:=eq_true p405
              replace q405:=eq_true q405
              go_wp2
              repeat (go_quiet (fail);try go_wp2)
              go_ret
              exact ⟨zmb19_1,zmb19_10⟩
            ·rw [if_neg c42] at H
             exact absurd H (by simp)
           ·rw [if_neg c41] at H
            exact absurd H (by simp)
          ·rw [if_neg c40] at H
           have c40b0:decide (x13_3 < (t385.length:Int)) = false:=decide_eq_false c40
           clear c40
           replace H:=Option.bind_eq_some_iff.mp H
           obtain ⟨t406,A480,H⟩:=H
           replace H:(some t406) = some r:=H
           have A48:=Aside0.mk A480
           clear A480
           obtain rfl:=Option.some.inj H
           obtain ⟨Ao49,co49,eo49⟩:=Kd.R_slice HO_9.out
           subst eo49
           go_wp2_with (first|(go_at_call 8;(with_reducible refine (rushlightlaw05_awake.calls k3  t406 _ A48.out).mono ?_);rintro e w50 ⟨rfl,hb⟩;have n0_:=Aside0.mk (Kd.R_below zmb19_12 hb);have n1_:=Aside0.mk (Kd.R_below zmb19_13 hb);have n2_:=Aside0.mk (Kd.R_below zmb19_14 hb);have n3_:=Aside0.mk (blk_below (g:=gb401) (o:=.cells #[.slice Ao19 t394.length co19,.slice Ao21 t397.length co21,.int .i64 t400] 31 (0,0)) zmb19_15 hb);have n4_:=Aside0.mk (below_step zmb19_10 hb);clear HO_9 HO_402000 HO_402001 BK401 HB;have HO_9:=n0_;have HO_402000:=n1_;have HO_402001:=n2_;have BK401:=n3_;have HB:=n4_;clear n0_ n1_ n2_ n3_ n4_;(try clear hb);(try clear hb2);(try clear hk);(try clear hi)))
           repeat (go_quiet (first|(go_at_call 8;(with_reducible refine (rushlightlaw05_awake.calls k3  t406 _ A48.out).mono ?_);rintro e w50 ⟨rfl,hb⟩;have n0_:=Aside0.mk (Kd.R_below zmb19_12 hb);have n1_:=Aside0.mk (Kd.R_below zmb19_13 hb);have n2_:=Aside0.mk (Kd.R_below zmb19_14 hb);have n3_:=Aside0.mk (blk_below (g:=gb401) (o:=.cells #[.slice Ao19 t394.length co19,.slice Ao21 t397.length co21,.int .i64 t400] 31 (0,0)) zmb19_15 hb);have n4_:=Aside0.mk (below_step zmb19_10 hb);clear HO_9 HO_402000 HO_402001 BK401 HB;have HO_9:=n0_;have HO_402000:=n1_;have HO_402001:=n2_;have BK401:=n3_;have HB:=n4_;clear n0_ n1_ n2_ n3_ n4_;(try clear hb);(try clear hb2);(try clear hk);(try clear hi)));try go_wp2_with (first|(go_at_call 8;(with_reducible refine (rushlightlaw05_awake.calls k3  t406 _ A48.out).mono ?_);rintro e w50 ⟨rfl,hb⟩;have n0_:=Aside0.mk (Kd.R_below zmb19_12 hb);have n1_:=Aside0.mk (Kd.R_below zmb19_13 hb);have n2_:=Aside0.mk (Kd.R_below zmb19_14 hb);have n3_:=Aside0.mk (blk_below (g:=gb401) (o:=.cells #[.slice Ao19 t394.length co19,.slice Ao21 t397.length co21,.int .i64 t400] 31 (0,0)) zmb19_15 hb);have n4_:=Aside0.mk (below_step zmb19_10 hb);clear HO_9 HO_402000 HO_402001 BK401 HB;have HO_9:=n0_;have HO_402000:=n1_;have HO_402001:=n2_;have BK401:=n3_;have HB:=n4_;clear n0_ n1_ n2_ n3_ n4_;(try clear hb);(try clear hb2);(try clear hk);(try clear hi))))
           go_ret
           exact ⟨zmb19_1,zmb19_10⟩
end Go.Proofs.Ytecbponmpinnoaa.P
end
