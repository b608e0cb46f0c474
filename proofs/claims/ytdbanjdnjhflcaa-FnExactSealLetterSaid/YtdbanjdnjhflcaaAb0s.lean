-- Laid by wip/abbrev.py of this repo: tactics that stand many times in this claim's texts,named. Not trusted: Lean checks it.
import Derived.Test.YtdbanjdnjhflcaaWs0
theorem zq0 {p:Prop} (h:p:=by repeat (first|(with_reducible first|exact HB.out|apply below_alloc|apply pw_below_drewN|apply below_drew1)|exact HB.out)):p:=h
theorem zq1 {p:Prop} (h:p:=by(try simp only[List.map_toArray,List.map_cons,List.map_nil]);first|done|rfl|(simp only[List.length_drop,List.length_take];rfl)):p:=h
theorem zq2 {p:Prop} (h:p:=by(with_reducible repeat (first|refine blk_drewN ?_ _|refine blk_drew ?_|refine blk_alloc ?_ _));exact BK2.out):p:=h
theorem zq3 {p:Prop} (h:p:=by first|rfl|(simp[errW_none,errW_some] <;> rfl)|(simp[*,errW_none,errW_some] <;> rfl)):p:=h
theorem zq4 {p:Prop} (h:p:=by(with_reducible repeat (first|refine blk_drewN ?_ _|refine blk_drew ?_|refine blk_alloc ?_ _));exact BK1.out):p:=h
theorem zq5 {p:Prop} (h:p:=by(with_reducible repeat (first|refine blk_drewN ?_ _|refine blk_drew ?_|refine blk_alloc ?_ _));exact BK4.out):p:=h
theorem zq6 {p:Prop} (h:p:=by first|(with_reducible assumption)|assumption):p:=h
theorem zq7 {p:Prop} (h:p:=by first|rfl|(simp;done)|(simp[*];done)):p:=h
theorem zq8 {p:Prop} (h:p:=by omega):p:=h
theorem zq9 {p:Prop} (h:p:=by(with_reducible repeat (first|refine blk_drewN ?_ _|refine blk_drew ?_|refine blk_alloc ?_ _));exact BK3.out):p:=h
theorem zq10 {p:Prop} (h:p:=by repeat (first|(with_reducible first|exact HB.out|apply below_alloc|apply pw_below_drewN|apply below_drew1|refine below_set ?_ GE300.out)|exact HB.out)):p:=h
theorem zq11 {p:Prop} (h:p:=by repeat (first|exact(Kd.C_below HR0_1.out HB.out)|(with_reducible refine Kd.C_alloc ?_ _)|(with_reducible refine Kd.C_drewN ?_ _)|(with_reducible refine Kd.C_drew ?_))):p:=h
theorem zq12 {p:Prop} (h:p:=by(with_reducible repeat (first|refine blk_drewN ?_ _|refine blk_drew ?_|refine blk_alloc ?_ _));exact BK6.out):p:=h
theorem zq13 {p:Prop} (h:p:=by(try simp only[List.map_toArray,List.map_cons,List.map_nil]);first|done|rfl):p:=h
theorem zq14 {p:Prop} (h:p:=by(with_reducible repeat (first|refine blk_drewN ?_ _|refine blk_drew ?_|refine blk_alloc ?_ _));exact BK5.out):p:=h
theorem zq15 {p:Prop} (h:p:=by(with_reducible repeat (first|refine blk_drewN ?_ _|refine blk_drew ?_|refine blk_alloc ?_ _));exact BK300.out):p:=h
theorem zq16 {p:Prop} (h:p:=by(with_reducible repeat (first|refine blk_drewN ?_ _|refine blk_drew ?_|refine blk_alloc ?_ _));refine blk_put (cs:=#[.int .i64 ((rd_T54 l0_1 x15_1).f0),.slice none 0 0]) ?_ 1 _ rfl;(with_reducible repeat (first|refine blk_drewN ?_ _|refine blk_drew ?_|refine blk_alloc ?_ _));refine blk_put (cs:=#[.int .i64 0,.slice none 0 0]) ?_ 0 _ rfl;(with_reducible repeat (first|refine blk_drewN ?_ _|refine blk_drew ?_|refine blk_alloc ?_ _));exact BK303.out):p:=h
theorem zq17 {p:Prop} (h:p:=by(with_reducible repeat (first|refine blk_drewN ?_ _|refine blk_drew ?_|refine blk_alloc ?_ _));exact BK8.out):p:=h
theorem zq18 {p:Prop} (h:p:=by repeat (first|(with_reducible first|exact HB.out|apply below_alloc|apply pw_below_drewN|apply below_drew1|refine below_set ?_ GE402.out)|exact HB.out)):p:=h
theorem zq19 {p:Prop} (h:p:=by repeat (first|(with_reducible first|exact HB.out|apply below_alloc|apply pw_below_drewN|apply below_drew1|refine below_set ?_ GE300.out|refine below_set ?_ GE303.out)|exact HB.out)):p:=h
theorem zq20 {p:Prop} (h:p:=by(with_reducible repeat (first|apply Kd.R_alloc|apply Kd.R_drewN|apply Kd.R_drew));exact HO201.out):p:=h
theorem zq21 {p:Prop} (h:p:=by(with_reducible repeat (first|refine blk_drewN ?_ _|refine blk_drew ?_|refine blk_alloc ?_ _));refine blk_far ?_ NB300_303.out _;(with_reducible repeat (first|refine blk_drewN ?_ _|refine blk_drew ?_|refine blk_alloc ?_ _));refine blk_far ?_ NB300_303.out _;(with_reducible repeat (first|refine blk_drewN ?_ _|refine blk_drew ?_|refine blk_alloc ?_ _));exact BK300.out):p:=h
theorem zq22 {p:Prop} (h:p:=by(with_reducible repeat (first|apply Kd.R_alloc|apply Kd.R_drewN|apply Kd.R_drew));exact HO204.out):p:=h
theorem zq23 {p:Prop} (h:p:=by(with_reducible repeat (first|refine blk_drewN ?_ _|refine blk_drew ?_|refine blk_alloc ?_ _));exact BK318.out):p:=h
theorem zq24 {p:Prop} (h:p:=by(with_reducible repeat (first|refine blk_drewN ?_ _|refine blk_drew ?_|refine blk_alloc ?_ _));exact BK402.out):p:=h
theorem zq25 {p:Prop} (h:p:=by repeat (first|exact Drawn0.refl _|apply Drawn0.step)):p:=h
theorem zq26 {p:Prop} (h:p:=by repeat (first|(with_reducible first|exact HB.out|apply below_alloc|apply pw_below_drewN|apply below_drew1|refine below_set ?_ GE331.out)|exact HB.out)):p:=h
theorem zq27 {p:Prop} (h:p:=by(with_reducible repeat (first|apply Kd.R_alloc|apply Kd.R_drewN|apply Kd.R_drew));exact HO210.out):p:=h
theorem zq28 {p:Prop} (h:p:=by(with_reducible repeat (first|refine blk_drewN ?_ _|refine blk_drew ?_|refine blk_alloc ?_ _));exact BKL.out):p:=h
theorem zq29 {p:Prop} (h:p:=by repeat (first|(with_reducible first|exact HB.out|apply below_alloc|apply pw_below_drewN|apply below_drew1|refine below_set ?_ GE390.out)|exact HB.out)):p:=h
theorem zq30 {p:Prop} (h:p:=by repeat (first|(with_reducible first|exact HB.out|apply below_alloc|apply pw_below_drewN|apply below_drew1|refine below_set ?_ GE393.out)|exact HB.out)):p:=h
theorem zq31 {p:Prop} (h:p:=by repeat (first|(with_reducible first|exact HB.out|apply below_alloc|apply pw_below_drewN|apply below_drew1|refine below_set ?_ GE318.out)|exact HB.out)):p:=h
theorem zq32 {p:Prop} (h:p:=by repeat (first|(with_reducible first|exact HB.out|apply below_alloc|apply pw_below_drewN|apply below_drew1|refine below_set ?_ GE399.out)|exact HB.out)):p:=h
theorem zq33 {p:Prop} (h:p:=by(with_reducible repeat (first|refine blk_drewN ?_ _|refine blk_drew ?_|refine blk_alloc ?_ _));exact BK349.out):p:=h
theorem zq34 {p:Prop} (h:p:=by repeat (first|(with_reducible first|exact HB.out|apply below_alloc|apply pw_below_drewN|apply below_drew1|refine below_set ?_ GE352.out|refine below_set ?_ GE353.out|refine below_set ?_ GE354.out|refine below_set ?_ GE355.out)|exact HB.out)):p:=h
theorem zq35 {p:Prop} (h:p:=by(with_reducible repeat (first|refine blk_drewN ?_ _|refine blk_drew ?_|refine blk_alloc ?_ _));exact BK10.out):p:=h
theorem zq36 {p:Prop} (h:p:=by decide):p:=h
theorem zq37 {p:Prop} (h:p:=by repeat (first|(with_reducible first|exact HB.out|apply below_alloc|apply pw_below_drewN|apply below_drew1|refine below_set ?_ GE318.out|refine below_set ?_ GE319.out)|exact HB.out)):p:=h
theorem zq38 {p:Prop} (h:p:=by(with_reducible repeat (first|refine blk_drewN ?_ _|refine blk_drew ?_|refine blk_alloc ?_ _));exact BK399.out):p:=h
theorem zq39 {p:Prop} (h:p:=by(with_reducible repeat (first|refine blk_drewN ?_ _|refine blk_drew ?_|refine blk_alloc ?_ _));exact BK352.out):p:=h
theorem zq40 {p:Prop} (h:p:=by repeat (first|(with_reducible first|exact HB.out|apply below_alloc|apply pw_below_drewN|apply below_drew1|refine below_set ?_ GE372.out)|exact HB.out)):p:=h
theorem zq41 {p:Prop} (h:p:=by(with_reducible repeat (first|apply Kd.R_alloc|apply Kd.R_drewN|apply Kd.R_drew));exact HO216.out):p:=h
theorem zq42 {p:Prop} (h:p:=by(with_reducible repeat (first|apply Kd.R_alloc|apply Kd.R_drewN|apply Kd.R_drew));exact HOl.out):p:=h
theorem zq43 {p:Prop} (h:p:=by repeat (first|(with_reducible first|exact HB.out|apply below_alloc|apply pw_below_drewN|apply below_drew1|refine below_set ?_ GE349.out|refine below_set ?_ GE350.out)|exact HB.out)):p:=h
theorem zq44 {p:Prop} (h:p:=by simp only[putAll,Act.put,List.setIfInBounds_toArray,List.set_cons_zero,List.set_cons_succ]):p:=h
theorem zq45 {p:Prop} (h:p:=by(with_reducible repeat (first|refine blk_drewN ?_ _|refine blk_drew ?_|refine blk_alloc ?_ _));exact BK390.out):p:=h
theorem zq46 {p:Prop} (h:p:=by(with_reducible repeat (first|refine blk_drewN ?_ _|refine blk_drew ?_|refine blk_alloc ?_ _));exact BK393.out):p:=h
theorem zq47 {p:Prop} (h:p:=by(with_reducible repeat (first|refine blk_drewN ?_ _|refine blk_drew ?_|refine blk_alloc ?_ _));exact BK7.out):p:=h
theorem zq48 {p:Prop} (h:p:=by(with_reducible repeat (first|apply Kd.R_alloc|apply Kd.R_drewN|apply Kd.R_drew));exact HO7.out):p:=h
theorem zq49 {p:Prop} (h:p:=by(with_reducible repeat (first|apply Kd.R_alloc|apply Kd.R_drewN|apply Kd.R_drew));exact HOd.out):p:=h
theorem zq50 {p:Prop} (h:p:=by repeat (first|(with_reducible first|exact HK.out|apply KeepBut.set_|apply keep_drewN|apply keep_drew|apply keep_alloc)|exact HK.out)):p:=h
theorem zq51 {p:Prop} (h:p:=by(with_reducible repeat (first|apply Kd.R_alloc|apply Kd.R_drewN|apply Kd.R_drew));exact HO222.out):p:=h
theorem zq52 {p:Prop} (h:p:=by(with_reducible repeat (first|apply Kd.R_alloc|apply Kd.R_drewN|apply Kd.R_drew));exact HO240.out):p:=h
theorem zq53 {p:Prop} (h:p:=by(with_reducible repeat (first|refine blk_drewN ?_ _|refine blk_drew ?_|refine blk_alloc ?_ _));exact BK353.out):p:=h
theorem zq54 {p:Prop} (h:p:=by repeat (first|(with_reducible first|exact HB.out|apply below_alloc|apply pw_below_drewN|apply below_drew1|refine below_set ?_ GE349.out)|exact HB.out)):p:=h
theorem zq55 {p:Prop} (h:p:=by(with_reducible repeat (first|apply Kd.R_alloc|apply Kd.R_drewN|apply Kd.R_drew));exact HOe.out):p:=h
theorem zq56 {p:Prop} (h:p:=by repeat (first|(with_reducible first|exact HB.out|apply below_alloc|apply pw_below_drewN|apply below_drew1|refine below_set ?_ GE308.out)|exact HB.out)):p:=h
theorem zq57 {p:Prop} (h:p:=by(with_reducible repeat (first|refine blk_drewN ?_ _|refine blk_drew ?_|refine blk_alloc ?_ _));exact BKK.out):p:=h
theorem zq58 {p:Prop} (h:p:=by repeat (first|exact(Kd.C_below HR1_1.out HB.out)|(with_reducible refine Kd.C_alloc ?_ _)|(with_reducible refine Kd.C_drewN ?_ _)|(with_reducible refine Kd.C_drew ?_))):p:=h
theorem zq59 {p:Prop} (h:p:=by repeat (first|(with_reducible first|exact HB.out|apply below_alloc|apply pw_below_drewN|apply below_drew1|refine below_set ?_ GE402.out|refine below_set ?_ GE403.out)|exact HB.out)):p:=h
theorem zq60 {p:Prop} (h:p:=by(with_reducible repeat (first|apply Kd.R_alloc|apply Kd.R_drewN|apply Kd.R_drew));exact HO225.out):p:=h
theorem zq61 {p:Prop} (h:p:=by(with_reducible repeat (first|apply Kd.R_alloc|apply Kd.R_drewN|apply Kd.R_drew));exact HO_5.out):p:=h
theorem zq62 {p:Prop} (h:p:=by(with_reducible repeat (first|apply Kd.R_alloc|apply Kd.R_drewN|apply Kd.R_drew));exact HO243.out):p:=h
theorem zq63 {p:Prop} (h:p:=by(with_reducible repeat (first|apply Kd.R_alloc|apply Kd.R_drewN|apply Kd.R_drew));exact HO_7.out):p:=h
theorem zq64 {p:Prop} (h:p:=by(with_reducible repeat (first|apply Kd.R_alloc|apply Kd.R_drewN|apply Kd.R_drew));exact HOf.out):p:=h
theorem zq65 {p:Prop} (h:p:=by(with_reducible repeat (first|refine blk_drewN ?_ _|refine blk_drew ?_|refine blk_alloc ?_ _));exact BK331.out):p:=h
theorem zq66 {p:Prop} (h:p:=by(with_reducible repeat (first|refine blk_drewN ?_ _|refine blk_drew ?_|refine blk_alloc ?_ _));exact BK319.out):p:=h
theorem zq67 {p:Prop} (h:p:=by(with_reducible repeat (first|refine blk_drewN ?_ _|refine blk_drew ?_|refine blk_alloc ?_ _));exact BK285.out):p:=h
theorem zq68 {p:Prop} (h:p:=by(with_reducible repeat (first|refine blk_drewN ?_ _|refine blk_drew ?_|refine blk_alloc ?_ _));exact BK291.out):p:=h
theorem zq69 {p:Prop} (h:p:=by(with_reducible repeat (first|refine blk_drewN ?_ _|refine blk_drew ?_|refine blk_alloc ?_ _));exact BK346.out):p:=h
theorem zq70 {p:Prop} (h:p:=by(with_reducible repeat (first|refine blk_drewN ?_ _|refine blk_drew ?_|refine blk_alloc ?_ _));exact BK350.out):p:=h
theorem zq71 {p:Prop} (h:p:=by(with_reducible repeat (first|refine blk_drewN ?_ _|refine blk_drew ?_|refine blk_alloc ?_ _));exact BK270.out):p:=h
theorem zq72 {p:Prop} (h:p:=by(with_reducible repeat (first|refine blk_drewN ?_ _|refine blk_drew ?_|refine blk_alloc ?_ _));exact BK9.out):p:=h
theorem zq73 {p:Prop} (h:p:=by simp):p:=h
theorem zq74 {p:Prop} (h:p:=by repeat (first|exact HR0.out|(with_reducible refine Kd.C_alloc ?_ _)|(with_reducible refine Kd.C_drewN ?_ _)|(with_reducible refine Kd.C_drew ?_))):p:=h
theorem zq75 {p:Prop} (h:p:=by(with_reducible repeat (first|apply Kd.R_alloc|apply Kd.R_drewN|apply Kd.R_drew));exact HO228.out):p:=h
theorem zq76 {p:Prop} (h:p:=by(with_reducible repeat (first|apply Kd.R_alloc|apply Kd.R_drewN|apply Kd.R_drew));exact HO_9.out):p:=h
theorem zq77 {p:Prop} (h:p:=by repeat (first|(with_reducible first|exact HB.out|apply below_alloc|apply pw_below_drewN|apply below_drew1|refine below_set ?_ (IsS35.ge HI0.out))|exact HB.out)):p:=h
theorem zq78 {p:Prop} (h:p:=by simpa using heap_alloc_new wr (.cells #[.int .u8 (bI (by_ L (i - 4))),.int .u8 (bI (by_ L (i - 3))),.int .u8 (bI (by_ L (i - 2))),.int .u8 (bI (by_ L (i - 1)))] 103)):p:=h
theorem zq79 {p:Prop} (h:p:=by have:=HK1.out;omega):p:=h
theorem zq80 {p:Prop} (h:p:=by repeat (first|exact(Kd.C_below HR0_3.out HB.out)|(with_reducible refine Kd.C_alloc ?_ _)|(with_reducible refine Kd.C_drewN ?_ _)|(with_reducible refine Kd.C_drew ?_))):p:=h
theorem zq81 {p:Prop} (h:p:=by(with_reducible repeat (first|refine blk_drewN ?_ _|refine blk_drew ?_|refine blk_alloc ?_ _));exact BK354.out):p:=h
theorem zq82 {p:Prop} (h:p:=by(with_reducible repeat (first|refine blk_drewN ?_ _|refine blk_drew ?_|refine blk_alloc ?_ _));exact BK11.out):p:=h
theorem zq83 {p:Prop} (h:p:=by repeat (first|(with_reducible first|exact HB.out|apply below_alloc|apply pw_below_drewN|apply below_drew1|refine below_set ?_ GE285.out|refine below_set ?_ GE286.out|refine below_set ?_ GE287.out)|exact HB.out)):p:=h
theorem zq84 {p:Prop} (h:p:=by repeat (first|(with_reducible first|exact HB.out|apply below_alloc|apply pw_below_drewN|apply below_drew1|refine below_set ?_ GE291.out|refine below_set ?_ GE292.out|refine below_set ?_ GE293.out)|exact HB.out)):p:=h
theorem zq85 {p:Prop} (h:p:=by repeat (first|(with_reducible first|exact HB.out|apply below_alloc|apply pw_below_drewN|apply below_drew1|refine below_set ?_ GE352.out|refine below_set ?_ GE353.out|refine below_set ?_ GE354.out)|exact HB.out)):p:=h
theorem zq86 {p:Prop} (h:p:=by repeat (first|(with_reducible first|exact HB.out|apply below_alloc|apply pw_below_drewN|apply below_drew1|refine below_set ?_ GE270.out|refine below_set ?_ GE271.out|refine below_set ?_ GE272.out)|exact HB.out)):p:=h
theorem zq87 {p:Prop} (h:p:=by have:=hcb.out;have:=hR.out;have:=hi4.out;omega):p:=h
theorem zq88 {p:Prop} (h:p:=by repeat (first|(with_reducible first|exact HI0.out|apply IsS35.alloc|apply IsS35.drewN|apply IsS35.drew|apply IsS35.set_0)|exact HI0.out)):p:=h
theorem zq89 {p:Prop} (h:p:=by(with_reducible repeat (first|apply Kd.R_alloc|apply Kd.R_drewN|apply Kd.R_drew));exact HO246.out):p:=h
theorem zq90 {p:Prop} (h:p:=by repeat (first|(with_reducible first|exact HB.out|apply below_alloc|apply pw_below_drewN|apply below_drew1|refine below_set ?_ GE285.out|refine below_set ?_ GE286.out)|exact HB.out)):p:=h
theorem zq91 {p:Prop} (h:p:=by repeat (first|(with_reducible first|exact HB.out|apply below_alloc|apply pw_below_drewN|apply below_drew1|refine below_set ?_ GE291.out|refine below_set ?_ GE292.out)|exact HB.out)):p:=h
theorem zq92 {p:Prop} (h:p:=by repeat (first|(with_reducible first|exact HB.out|apply below_alloc|apply pw_below_drewN|apply below_drew1|refine below_set ?_ GE346.out|refine below_set ?_ GE347.out)|exact HB.out)):p:=h
theorem zq93 {p:Prop} (h:p:=by repeat (first|(with_reducible first|exact HB.out|apply below_alloc|apply pw_below_drewN|apply below_drew1|refine below_set ?_ GE352.out|refine below_set ?_ GE353.out)|exact HB.out)):p:=h
theorem zq94 {p:Prop} (h:p:=by repeat (first|(with_reducible first|exact HB.out|apply below_alloc|apply pw_below_drewN|apply below_drew1|refine below_set ?_ GE270.out|refine below_set ?_ GE271.out)|exact HB.out)):p:=h
theorem zq95 {p:Prop} (h:p:=by(with_reducible repeat (first|refine blk_drewN ?_ _|refine blk_drew ?_|refine blk_alloc ?_ _));refine blk_far ?_ NB352_355.out _;(with_reducible repeat (first|refine blk_drewN ?_ _|refine blk_drew ?_|refine blk_alloc ?_ _));refine blk_far ?_ NB352_355.out _;(with_reducible repeat (first|refine blk_drewN ?_ _|refine blk_drew ?_|refine blk_alloc ?_ _));exact BK352.out):p:=h
theorem zq96 {p:Prop} (h:p:=by(with_reducible repeat (first|refine blk_drewN ?_ _|refine blk_drew ?_|refine blk_alloc ?_ _));refine blk_far ?_ NB353_355.out _;(with_reducible repeat (first|refine blk_drewN ?_ _|refine blk_drew ?_|refine blk_alloc ?_ _));refine blk_far ?_ NB353_355.out _;(with_reducible repeat (first|refine blk_drewN ?_ _|refine blk_drew ?_|refine blk_alloc ?_ _));exact BK353.out):p:=h
theorem zq97 {p:Prop} (h:p:=by(with_reducible repeat (first|refine blk_drewN ?_ _|refine blk_drew ?_|refine blk_alloc ?_ _));refine blk_far ?_ NB354_355.out _;(with_reducible repeat (first|refine blk_drewN ?_ _|refine blk_drew ?_|refine blk_alloc ?_ _));refine blk_far ?_ NB354_355.out _;(with_reducible repeat (first|refine blk_drewN ?_ _|refine blk_drew ?_|refine blk_alloc ?_ _));exact BK354.out):p:=h
theorem zq98 {p:Prop} (h:p:=by repeat (first|(with_reducible first|exact HB.out|apply below_alloc|apply pw_below_drewN|apply below_drew1|refine below_set ?_ GE390.out|refine below_set ?_ GE391.out)|exact HB.out)):p:=h
theorem zq99 {p:Prop} (h:p:=by repeat (first|(with_reducible first|exact HB.out|apply below_alloc|apply pw_below_drewN|apply below_drew1|refine below_set ?_ GE393.out|refine below_set ?_ GE394.out)|exact HB.out)):p:=h
theorem zq100 {p:Prop} (h:p:=by repeat (first|(with_reducible first|exact HB.out|apply below_alloc|apply pw_below_drewN|apply below_drew1|refine below_set ?_ GE399.out|refine below_set ?_ GE400.out)|exact HB.out)):p:=h
theorem zq101 {p:Prop} (h:p:=by(with_reducible repeat (first|refine blk_drewN ?_ _|refine blk_drew ?_|refine blk_alloc ?_ _));refine blk_far ?_ NB353_352.out _;(with_reducible repeat (first|refine blk_drewN ?_ _|refine blk_drew ?_|refine blk_alloc ?_ _));refine blk_far ?_ NB353_352.out _;(with_reducible repeat (first|refine blk_drewN ?_ _|refine blk_drew ?_|refine blk_alloc ?_ _));exact BK353.out):p:=h
theorem zq102 {p:Prop} (h:p:=by(with_reducible repeat (first|refine blk_drewN ?_ _|refine blk_drew ?_|refine blk_alloc ?_ _));refine blk_far ?_ NB354_352.out _;(with_reducible repeat (first|refine blk_drewN ?_ _|refine blk_drew ?_|refine blk_alloc ?_ _));refine blk_far ?_ NB354_352.out _;(with_reducible repeat (first|refine blk_drewN ?_ _|refine blk_drew ?_|refine blk_alloc ?_ _));exact BK354.out):p:=h
theorem zq103 {p:Prop} (h:p:=by(with_reducible repeat (first|refine blk_drewN ?_ _|refine blk_drew ?_|refine blk_alloc ?_ _));refine blk_far ?_ NB355_352.out _;(with_reducible repeat (first|refine blk_drewN ?_ _|refine blk_drew ?_|refine blk_alloc ?_ _));refine blk_far ?_ NB355_352.out _;(with_reducible repeat (first|refine blk_drewN ?_ _|refine blk_drew ?_|refine blk_alloc ?_ _));exact BK355.out):p:=h
theorem zq104 {p:Prop} (h:p:=by repeat (first|(with_reducible first|exact HI0.out|apply IsS37.alloc|apply IsS37.drewN|apply IsS37.drew|apply IsS37.set_0|apply IsS37.set_1|apply IsS37.set_2)|exact HI0.out)):p:=h
theorem zq105 {p:Prop} (h:p:=by rw[P176_length];omega):p:=h
theorem zq106 {p:Prop} (h:p:=by(with_reducible repeat (first|refine blk_drewN ?_ _|refine blk_drew ?_|refine blk_alloc ?_ _));exact BK372.out):p:=h
theorem zq107 {p:Prop} (h:p:=by(with_reducible repeat (first|refine blk_drewN ?_ _|refine blk_drew ?_|refine blk_alloc ?_ _));exact BK313.out):p:=h
theorem zq108 {p:Prop} (h:p:=by repeat (first|(with_reducible first|exact HB.out|apply below_alloc|apply pw_below_drewN|apply below_drew1|refine below_set ?_ (IsS37.ge HI0.out))|exact HB.out)):p:=h
theorem zq109 {p:Prop} (h:p:=by repeat (first|(with_reducible first|exact HB.out|apply below_alloc|apply pw_below_drewN|apply below_drew1|refine below_set ?_ GE313.out)|exact HB.out)):p:=h
theorem zq110 {p:Prop} (h:p:=by repeat (first|(with_reducible first|exact HB.out|apply below_alloc|apply pw_below_drewN|apply below_drew1|refine below_set ?_ GE285.out)|exact HB.out)):p:=h
theorem zq111 {p:Prop} (h:p:=by repeat (first|(with_reducible first|exact HB.out|apply below_alloc|apply pw_below_drewN|apply below_drew1|refine below_set ?_ GE291.out)|exact HB.out)):p:=h
theorem zq112 {p:Prop} (h:p:=by repeat (first|(with_reducible first|exact HB.out|apply below_alloc|apply pw_below_drewN|apply below_drew1|refine below_set ?_ GE346.out)|exact HB.out)):p:=h
theorem zq113 {p:Prop} (h:p:=by repeat (first|(with_reducible first|exact HB.out|apply below_alloc|apply pw_below_drewN|apply below_drew1|refine below_set ?_ GE352.out)|exact HB.out)):p:=h
theorem zq114 {p:Prop} (h:p:=by repeat (first|(with_reducible first|exact HB.out|apply below_alloc|apply pw_below_drewN|apply below_drew1|refine below_set ?_ GE270.out)|exact HB.out)):p:=h
theorem zq115 {p:Prop} (h:p:=by repeat (first|(with_reducible first|exact HB.out|apply below_alloc|apply pw_below_drewN|apply below_drew1|refine below_set ?_ GE298.out)|exact HB.out)):p:=h
theorem zq116 {p:Prop} (h:p:=by(with_reducible repeat (first|apply Kd.R_alloc|apply Kd.R_drewN|apply Kd.R_drew));exact HO231.out):p:=h
theorem zq117 {p:Prop} (h:p:=by(with_reducible repeat (first|apply Kd.R_alloc|apply Kd.R_drewN|apply Kd.R_drew));exact HOh.out):p:=h
theorem zq118 {p:Prop} (h:p:=by repeat (first|exact(Kd.C_below HR0.out HB.out)|(with_reducible refine Kd.C_alloc ?_ _)|(with_reducible refine Kd.C_drewN ?_ _)|(with_reducible refine Kd.C_drew ?_))):p:=h
theorem zq119 {p:Prop} (h:p:=by repeat (first|exact Below.refl _ _|apply below_alloc|apply pw_below_drewN|apply below_drew1)):p:=h
theorem zq120 {p:Prop} (h:p:=by rw[P176_length];have:=hi4.out;omega):p:=h
theorem zq121 {p:Prop} (h:p:=by rw[bL_length];omega):p:=h
theorem zq122 {p:Prop} (h:p:=by first|exact Kd.R_nil _ _ _ _ _|exact Kd.N_nil _ _ _ _ _|exact Kd.V_nil _ _ _ _ _|exact Kd.Q_nil _ _ _ _ _|exact Kd.S_nil _ _ _ _ _):p:=h
theorem zq123 {p:Prop} (h:p:=by have:=hi4.out;omega):p:=h
theorem zq124 {p:Prop} (h:p:=by repeat (first|(with_reducible first|exact HK.out|apply Kept.alloc|apply Kept.drewN|apply Kept.drew)|exact HK.out)):p:=h
theorem zq125 {p:Prop} (h:p:=by rfl):p:=h
theorem zq126 {p:Prop} (h:p:=by(with_reducible repeat (first|refine blk_drewN ?_ _|refine blk_drew ?_|refine blk_alloc ?_ _));exact BK286.out):p:=h
theorem zq127 {p:Prop} (h:p:=by(with_reducible repeat (first|refine blk_drewN ?_ _|refine blk_drew ?_|refine blk_alloc ?_ _));exact BK292.out):p:=h
theorem zq128 {p:Prop} (h:p:=by(with_reducible repeat (first|refine blk_drewN ?_ _|refine blk_drew ?_|refine blk_alloc ?_ _));exact BK347.out):p:=h
theorem zq129 {p:Prop} (h:p:=by(with_reducible repeat (first|refine blk_drewN ?_ _|refine blk_drew ?_|refine blk_alloc ?_ _));exact BK271.out):p:=h
theorem zq130 {p:Prop} (h:p:=by(with_reducible repeat (first|refine blk_drewN ?_ _|refine blk_drew ?_|refine blk_alloc ?_ _));exact BK308.out):p:=h
theorem zq131 {p:Prop} (h:p:=by(with_reducible repeat (first|refine blk_drewN ?_ _|refine blk_drew ?_|refine blk_alloc ?_ _));exact BK355.out):p:=h
theorem zq132 {p:Prop} (h:p:=by have:=HK1.out;have:=HK2.out;omega):p:=h
theorem zq133 {p:Prop} (h:p:=by repeat (first|(with_reducible first|exact HB.out|apply below_alloc|apply pw_below_drewN|apply below_drew1|refine below_set ?_ GE349.out|refine below_set ?_ GE350.out|refine below_set ?_ GE351.out)|exact HB.out)):p:=h
theorem zq134 {p:Prop} (h:p:=by rw[List.length_set];omega):p:=h
theorem zq135 {p:Prop} (h:p:=by simp[Value.oneCell']):p:=h
theorem zq136 {p:Prop} (h:p:=by(with_reducible repeat (first|apply Kd.V_alloc|apply Kd.V_drewN|apply Kd.V_drew));exact HO_1.out):p:=h
theorem zq137 {p:Prop} (h:p:=by(with_reducible repeat (first|apply Kd.R_alloc|apply Kd.R_drewN|apply Kd.R_drew));exact HOt.out):p:=h
theorem zq138 {p:Prop} (h:p:=by(with_reducible repeat (first|apply Kd.R_alloc|apply Kd.R_drewN|apply Kd.R_drew));exact HO_3.out):p:=h
theorem zq139 {p:Prop} (h:p:=by repeat (first|(with_reducible first|exact HB.out|apply below_alloc|apply pw_below_drewN|apply below_drew1|refine below_set ?_ GE313.out|refine below_set ?_ GE314.out)|exact HB.out)):p:=h
theorem zq140 {p:Prop} (h:p:=by rw[show newW L i 0=[] from rfl,List.append_nil];exact BK3.out):p:=h
theorem zq141 {p:Prop} (h:p:=by rw[bI_xor,cB_set];exact congrArg cB (P176_set L i k hL.out hk4.out hi4.out)):p:=h
theorem zq142 {p:Prop} (h:p:=by repeat (first|(with_reducible first|exact HB.out|apply below_alloc|apply pw_below_drewN|apply below_drew1|refine below_set ?_ GE105.out)|exact HB.out)):p:=h
theorem zq143 {p:Prop} (h:p:=by repeat (first|(with_reducible first|exact HB.out|apply below_alloc|apply pw_below_drewN|apply below_drew1|refine below_set ?_ GE101.out)|exact HB.out)):p:=h
theorem zq144 {p:Prop} (h:p:=by repeat (first|(with_reducible first|exact HB.out|apply below_alloc|apply pw_below_drewN|apply below_drew1|refine below_set ?_ GE107.out)|exact HB.out)):p:=h
theorem zq145 {p:Prop} (h:p:=by repeat (first|(with_reducible first|exact HB.out|apply below_alloc|apply pw_below_drewN|apply below_drew1|refine below_set ?_ GE413.out)|exact HB.out)):p:=h
theorem zq146 {p:Prop} (h:p:=by first|exact Kd.C_below HR.out zq0|exact(Kd.C_below HR.out HB.out)):p:=h
theorem zq147 {p:Prop} (h:p:=by repeat (first|exact Below.refl _ _|apply pw_below_drewN|apply below_drew1)):p:=h
theorem zq148 {p:Prop} (h:p:=by rw[blk_cell BK1.out,cB_get _ _ (by rw[List.length_set,hx.out];exact hi16.out),set_get _ _ _ _ (by rw[hx.out];exact hi16.out),if_pos rfl,bI_succ]):p:=h
theorem zq149 {p:Prop} (h:p:=by rw[keyTo_succ,hLE.out,← hin.out];exact BK3.out):p:=h
theorem zq150 {p:Prop} (h:p:=by repeat (first|exact(Kd.C_below HR103_1.out HB.out)|(with_reducible refine Kd.C_alloc ?_ _)|(with_reducible refine Kd.C_drewN ?_ _)|(with_reducible refine Kd.C_drew ?_))):p:=h
theorem zq151 {p:Prop} (h:p:=by repeat (first|exact(Kd.C_below HR396_1.out HB.out)|(with_reducible refine Kd.C_alloc ?_ _)|(with_reducible refine Kd.C_drewN ?_ _)|(with_reducible refine Kd.C_drew ?_))):p:=h
theorem zq152 {p:Prop} (h:p:=by repeat (first|exact(Kd.C_below HR397_1.out HB.out)|(with_reducible refine Kd.C_alloc ?_ _)|(with_reducible refine Kd.C_drewN ?_ _)|(with_reducible refine Kd.C_drew ?_))):p:=h
theorem zq153 {p:Prop} (h:p:=by repeat (first|exact(Kd.C_below HR1_3.out HB.out)|(with_reducible refine Kd.C_alloc ?_ _)|(with_reducible refine Kd.C_drewN ?_ _)|(with_reducible refine Kd.C_drew ?_))):p:=h
theorem zq154 {p:Prop} (h:p:=by repeat (first|exact(Kd.C_below HR1.out HB.out)|(with_reducible refine Kd.C_alloc ?_ _)|(with_reducible refine Kd.C_drewN ?_ _)|(with_reducible refine Kd.C_drew ?_))):p:=h
theorem zq155 {p:Prop} (h:p:=by repeat (first|exact(Kd.R_reads' HO240.out).2.2|(with_reducible refine Kd.C_alloc ?_ _)|(with_reducible refine Kd.C_drewN ?_ _)|(with_reducible refine Kd.C_drew ?_))):p:=h
theorem zq156 {p:Prop} (h:p:=by rw[fillL_length];exact hl):p:=h
theorem zq157 {p:Prop} (h:p:=by repeat (first|exact(Kd.V_reads' HO_1.out).2.2|(with_reducible refine Kd.C_alloc ?_ _)|(with_reducible refine Kd.C_drewN ?_ _)|(with_reducible refine Kd.C_drew ?_))):p:=h
theorem zq158 {p:Prop} (h:p:=by first|omega|exact Nat.le_refl _):p:=h
theorem zq159 {p:Prop} (h:p:=by rw[blk_cell BK1.out];rfl):p:=h
theorem zq160 {p:Prop} (h:p:=by(with_reducible repeat (first|apply Kd.R_alloc|apply Kd.R_drewN|apply Kd.R_drew));exact Kd.R_mono HO_7.out (fun _ hk=>hk.1.1)):p:=h
theorem zq161 {p:Prop} (h:p:=by(with_reducible repeat (first|refine blk_drewN ?_ _|refine blk_drew ?_|refine blk_alloc ?_ _));exact BK105.out):p:=h
theorem zq162 {p:Prop} (h:p:=by(with_reducible repeat (first|refine blk_drewN ?_ _|refine blk_drew ?_|refine blk_alloc ?_ _));exact BK400.out):p:=h
theorem zq163 {p:Prop} (h:p:=by rw[cB_size,tab_length];rfl):p:=h
theorem zq164 {p:Prop} (h:p:=by rw[List.length_append,List.length_singleton];omega):p:=h
theorem zq165 {p:Prop} (h:p:=by(with_reducible repeat (first|apply Kd.R_alloc|apply Kd.R_drewN|apply Kd.R_drew));exact HO195.out):p:=h
theorem zq166 {p:Prop} (h:p:=by(with_reducible repeat (first|apply Kd.R_alloc|apply Kd.R_drewN|apply Kd.R_drew));exact HO155.out):p:=h
theorem zq167 {p:Prop} (h:p:=by(with_reducible repeat (first|apply Kd.R_alloc|apply Kd.R_drewN|apply Kd.R_drew));exact HO158.out):p:=h
theorem zq168 {p:Prop} (h:p:=by(with_reducible repeat (first|apply Kd.R_alloc|apply Kd.R_drewN|apply Kd.R_drew));exact HO381.out):p:=h
theorem zq169 {p:Prop} (h:p:=by(with_reducible repeat (first|apply Kd.R_alloc|apply Kd.R_drewN|apply Kd.R_drew));exact HO384.out):p:=h
theorem zq170 {p:Prop} (h:p:=by(with_reducible repeat (first|apply Kd.R_alloc|apply Kd.R_drewN|apply Kd.R_drew));exact HO335.out):p:=h
theorem zq171 {p:Prop} (h:p:=by(with_reducible repeat (first|apply Kd.R_alloc|apply Kd.R_drewN|apply Kd.R_drew));exact HO338.out):p:=h
theorem zq172 {p:Prop} (h:p:=by(with_reducible repeat (first|apply Kd.R_alloc|apply Kd.R_drewN|apply Kd.R_drew));exact HO207.out):p:=h
theorem zq173 {p:Prop} (h:p:=by(with_reducible repeat (first|apply Kd.R_alloc|apply Kd.R_drewN|apply Kd.R_drew));exact HO213.out):p:=h
theorem zq174 {p:Prop} (h:p:=by(with_reducible repeat (first|apply Kd.R_alloc|apply Kd.R_drewN|apply Kd.R_drew));exact HO219.out):p:=h
theorem zq175 {p:Prop} (h:p:=by(with_reducible repeat (first|apply Kd.R_alloc|apply Kd.R_drewN|apply Kd.R_drew));exact HO234.out):p:=h
theorem zq176 {p:Prop} (h:p:=by(with_reducible repeat (first|apply Kd.R_alloc|apply Kd.R_drewN|apply Kd.R_drew));exact HO249.out):p:=h
theorem zq177 {p:Prop} (h:p:=by(with_reducible repeat (first|apply Kd.R_alloc|apply Kd.R_drewN|apply Kd.R_drew));exact HO258.out):p:=h
theorem zq178 {p:Prop} (h:p:=by(with_reducible repeat (first|apply Kd.R_alloc|apply Kd.R_drewN|apply Kd.R_drew));exact HO261.out):p:=h
theorem zq179 {p:Prop} (h:p:=by(with_reducible repeat (first|apply Kd.R_alloc|apply Kd.R_drewN|apply Kd.R_drew));exact HO129.out):p:=h
theorem zq180 {p:Prop} (h:p:=by(with_reducible repeat (first|apply Kd.R_alloc|apply Kd.R_drewN|apply Kd.R_drew));exact HO132.out):p:=h
theorem zq181 {p:Prop} (h:p:=by(with_reducible repeat (first|apply Kd.R_alloc|apply Kd.R_drewN|apply Kd.R_drew));exact HO_14.out):p:=h
theorem zq182 {p:Prop} (h:p:=by(with_reducible repeat (first|apply Kd.R_alloc|apply Kd.R_drewN|apply Kd.R_drew));exact HO1.out):p:=h
theorem zq183 {p:Prop} (h:p:=by(with_reducible repeat (first|apply Kd.R_alloc|apply Kd.R_drewN|apply Kd.R_drew));exact HO_0.out):p:=h
theorem zq184 {p:Prop} (h:p:=by(with_reducible repeat (first|apply Kd.S_alloc|apply Kd.S_drewN|apply Kd.S_drew));exact HO_3.out):p:=h
theorem zq185 {p:Prop} (h:p:=by(with_reducible repeat (first|apply Kd.R_alloc|apply Kd.R_drewN|apply Kd.R_drew));exact HO2.out):p:=h
theorem zq186 {p:Prop} (h:p:=by rw[show (i+4 - 1) / 16=(i - 1) / 16+1 by have:=h16.out;have:=hi16.out;omega];rfl):p:=h
theorem zq187 {p:Prop} (h:p:=by repeat (first|exact HB.out|apply below_alloc|apply pw_below_drewN|apply below_drew1)):p:=h
theorem zq188 {p:Prop} (h:p:=by decide +kernel):p:=h
theorem zq189 {p:Prop} (h:p:=by rw[← keyT_plain L i h16.out (by have:=hi16.out;omega)];exact keyT_at L i k hl):p:=h
theorem zq190 {p:Prop} (h:p:=by have:=hin.out;omega):p:=h
theorem zq191 {p:Prop} (h:p:=by rw[show (i+4 - 1) / 16=(i - 1) / 16 by have:=h16.out;have:=hin.out;omega]):p:=h
theorem zq192 {p:Prop} (h:p:=by rw[streamL_length];omega):p:=h
