-- Laid by wip/abbrev.py of this repo: tactics that stand many times in this claim's texts,named. Not trusted: Lean checks it.
import Derived.Test.YtmnhddedcbkpoaaWs0
theorem zq0 {p:Prop} (h:p:=by repeat (first|(with_reducible first|exact HB.out|apply below_alloc|apply pw_below_drewN|apply below_drew1)|exact HB.out)):p:=h
theorem zq1 {p:Prop} (h:p:=by(with_reducible repeat (first|refine blk_drewN ?_ _|refine blk_drew ?_|refine blk_alloc ?_ _));exact BK2.out):p:=h
theorem zq2 {p:Prop} (h:p:=by(with_reducible repeat (first|refine blk_drewN ?_ _|refine blk_drew ?_|refine blk_alloc ?_ _));exact BK4.out):p:=h
theorem zq3 {p:Prop} (h:p:=by(with_reducible repeat (first|refine blk_drewN ?_ _|refine blk_drew ?_|refine blk_alloc ?_ _));exact BK3.out):p:=h
theorem zq4 {p:Prop} (h:p:=by repeat (first|(with_reducible first|exact HK.out|apply keep_drewN|apply keep_drew|apply keep_alloc)|exact HK.out)):p:=h
theorem zq5 {p:Prop} (h:p:=by(try simp only[List.map_toArray,List.map_cons,List.map_nil]);first|done|rfl|(simp only[List.length_drop,List.length_take];rfl)):p:=h
theorem zq6 {p:Prop} (h:p:=by repeat (first|(with_reducible first|exact HI.out|apply IsS112.alloc|apply IsS112.drewN|apply IsS112.drew)|exact HI.out)):p:=h
theorem zq7 {p:Prop} (h:p:=by repeat (first|(with_reducible first|exact HK.out|apply KeepBut.set_|apply keep_drewN|apply keep_drew|apply keep_alloc|refine keep_far ?_ GW114.out _)|exact HK.out)):p:=h
theorem zq8 {p:Prop} (h:p:=by repeat (first|(with_reducible first|exact HB.out|apply below_alloc|apply pw_below_drewN|apply below_drew1|refine below_set ?_ GE147.out)|exact HB.out)):p:=h
theorem zq9 {p:Prop} (h:p:=by(with_reducible repeat (first|refine blk_drewN ?_ _|refine blk_drew ?_|refine blk_alloc ?_ _));exact BK6.out):p:=h
theorem zq10 {p:Prop} (h:p:=by first|rfl|(simp[errW_none,errW_some] <;> rfl)|(simp[*,errW_none,errW_some] <;> rfl)):p:=h
theorem zq11 {p:Prop} (h:p:=by(try simp only[List.map_toArray,List.map_cons,List.map_nil]);first|done|rfl):p:=h
theorem zq12 {p:Prop} (h:p:=by(with_reducible repeat (first|refine blk_drewN ?_ _|refine blk_drew ?_|refine blk_alloc ?_ _));exact BK147.out):p:=h
theorem zq13 {p:Prop} (h:p:=by repeat (first|(with_reducible first|exact HK.out|apply KeepBut.set_|apply keep_drewN|apply keep_drew|apply keep_alloc)|exact HK.out)):p:=h
theorem zq14 {p:Prop} (h:p:=by(with_reducible repeat (first|refine blk_drewN ?_ _|refine blk_drew ?_|refine blk_alloc ?_ _));refine blk_put (cs:=#[.int .i64 ((rd_T25 l0_1 x15_1).f0),.slice none 0 0]) ?_ 1 _ rfl;(with_reducible repeat (first|refine blk_drewN ?_ _|refine blk_drew ?_|refine blk_alloc ?_ _));refine blk_put (cs:=#[.int .i64 0,.slice none 0 0]) ?_ 0 _ rfl;(with_reducible repeat (first|refine blk_drewN ?_ _|refine blk_drew ?_|refine blk_alloc ?_ _));exact BK150.out):p:=h
theorem zq15 {p:Prop} (h:p:=by repeat (first|(with_reducible first|exact HK.out|apply KeepBut.set_|apply keep_drewN|apply keep_drew|apply keep_alloc|refine keep_far ?_ GW172.out _|refine keep_far ?_ GW173.out _)|exact HK.out)):p:=h
theorem zq16 {p:Prop} (h:p:=by repeat (first|exact(Kd.C_below HR0_1.out HB.out)|(with_reducible refine Kd.C_alloc ?_ _)|(with_reducible refine Kd.C_drewN ?_ _)|(with_reducible refine Kd.C_drew ?_))):p:=h
theorem zq17 {p:Prop} (h:p:=by decide):p:=h
theorem zq18 {p:Prop} (h:p:=by(with_reducible repeat (first|refine blk_drewN ?_ _|refine blk_drew ?_|refine blk_alloc ?_ _));exact BK114.out):p:=h
theorem zq19 {p:Prop} (h:p:=by repeat (first|(with_reducible first|exact HB.out|apply below_alloc|apply pw_below_drewN|apply below_drew1|refine below_set ?_ GE147.out|refine below_set ?_ GE150.out)|exact HB.out)):p:=h
theorem zq20 {p:Prop} (h:p:=by(with_reducible repeat (first|refine blk_drewN ?_ _|refine blk_drew ?_|refine blk_alloc ?_ _));exact BK5.out):p:=h
theorem zq21 {p:Prop} (h:p:=by omega):p:=h
theorem zq22 {p:Prop} (h:p:=by(with_reducible repeat (first|apply Kd.S_alloc|apply Kd.S_drewN|apply Kd.S_drew));exact HO.out):p:=h
theorem zq23 {p:Prop} (h:p:=by first|(with_reducible assumption)|assumption):p:=h
theorem zq24 {p:Prop} (h:p:=by(with_reducible repeat (first|refine blk_drewN ?_ _|refine blk_drew ?_|refine blk_alloc ?_ _));refine blk_far ?_ NB147_150.out _;(with_reducible repeat (first|refine blk_drewN ?_ _|refine blk_drew ?_|refine blk_alloc ?_ _));refine blk_far ?_ NB147_150.out _;(with_reducible repeat (first|refine blk_drewN ?_ _|refine blk_drew ?_|refine blk_alloc ?_ _));exact BK147.out):p:=h
theorem zq25 {p:Prop} (h:p:=by(with_reducible repeat (first|refine blk_drewN ?_ _|refine blk_drew ?_|refine blk_alloc ?_ _));exact BK243.out):p:=h
theorem zq26 {p:Prop} (h:p:=by repeat (first|(with_reducible first|exact HB.out|apply below_alloc|apply pw_below_drewN|apply below_drew1|refine below_set ?_ GE243.out|refine below_set ?_ GE244.out)|exact HB.out)):p:=h
theorem zq27 {p:Prop} (h:p:=by repeat (first|(with_reducible first|exact HB.out|apply below_alloc|apply pw_below_drewN|apply below_drew1|refine below_set ?_ (IsS112.ge HI0.out)|refine below_set ?_ GE114.out)|exact HB.out)):p:=h
theorem zq28 {p:Prop} (h:p:=by(with_reducible repeat (first|refine blk_drewN ?_ _|refine blk_drew ?_|refine blk_alloc ?_ _));exact BK234.out):p:=h
theorem zq29 {p:Prop} (h:p:=by(with_reducible repeat (first|apply Kd.S_alloc|apply Kd.S_drewN|apply Kd.S_drew));exact HOo.out):p:=h
theorem zq30 {p:Prop} (h:p:=by repeat (first|(with_reducible first|exact HB.out|apply below_alloc|apply pw_below_drewN|apply below_drew1|refine below_set ?_ (IsS112.ge HI0.out))|exact HB.out)):p:=h
theorem zq31 {p:Prop} (h:p:=by repeat (first|(with_reducible first|exact HI0.out|apply IsS112.alloc|apply IsS112.drewN|apply IsS112.drew|apply IsS112.set_1|refine IsS112.far ?_ NB0_114.out _)|exact HI0.out)):p:=h
theorem zq32 {p:Prop} (h:p:=by repeat (first|(with_reducible first|exact HI0.out|apply IsS112.alloc|apply IsS112.drewN|apply IsS112.drew|apply IsS112.set_1)|exact HI0.out)):p:=h
theorem zq33 {p:Prop} (h:p:=by repeat (first|(with_reducible first|exact HB.out|apply below_alloc|apply pw_below_drewN|apply below_drew1|refine below_set ?_ GE234.out)|exact HB.out)):p:=h
theorem zq34 {p:Prop} (h:p:=by repeat (first|(with_reducible first|exact HB.out|apply below_alloc|apply pw_below_drewN|apply below_drew1|refine below_set ?_ GE234.out|refine below_set ?_ GE235.out)|exact HB.out)):p:=h
theorem zq35 {p:Prop} (h:p:=by(with_reducible repeat (first|refine blk_drewN ?_ _|refine blk_drew ?_|refine blk_alloc ?_ _));exact BK160.out):p:=h
theorem zq36 {p:Prop} (h:p:=by(with_reducible repeat (first|refine blk_drewN ?_ _|refine blk_drew ?_|refine blk_alloc ?_ _));exact BK244.out):p:=h
theorem zq37 {p:Prop} (h:p:=by(with_reducible repeat (first|apply Kd.R_alloc|apply Kd.R_drewN|apply Kd.R_drew));exact HO117.out):p:=h
theorem zq38 {p:Prop} (h:p:=by repeat (first|(with_reducible first|exact HB.out|apply below_alloc|apply pw_below_drewN|apply below_drew1|refine below_set ?_ GE243.out|refine below_set ?_ GE244.out|refine below_set ?_ GE250.out)|exact HB.out)):p:=h
theorem zq39 {p:Prop} (h:p:=by repeat (first|(with_reducible first|exact HK.out|apply KeepBut.set_|apply keep_drewN|apply keep_drew|apply keep_alloc|refine keep_far ?_ GW114.out _|refine keep_far ?_ GW123.out _)|exact HK.out)):p:=h
theorem zq40 {p:Prop} (h:p:=by(with_reducible repeat (first|refine blk_drewN ?_ _|refine blk_drew ?_|refine blk_alloc ?_ _));exact BK496.out):p:=h
theorem zq41 {p:Prop} (h:p:=by(with_reducible repeat (first|refine blk_drewN ?_ _|refine blk_drew ?_|refine blk_alloc ?_ _));exact BK172.out):p:=h
theorem zq42 {p:Prop} (h:p:=by(with_reducible repeat (first|refine blk_drewN ?_ _|refine blk_drew ?_|refine blk_alloc ?_ _));exact BK7.out):p:=h
theorem zq43 {p:Prop} (h:p:=by(with_reducible repeat (first|refine blk_drewN ?_ _|refine blk_drew ?_|refine blk_alloc ?_ _));refine blk_put (cs:=#[.int .i64 t118,.slice none 0 0]) ?_ 1 _ rfl;(with_reducible repeat (first|refine blk_drewN ?_ _|refine blk_drew ?_|refine blk_alloc ?_ _));refine blk_put (cs:=#[.int .i64 0,.slice none 0 0]) ?_ 0 _ rfl;(with_reducible repeat (first|refine blk_drewN ?_ _|refine blk_drew ?_|refine blk_alloc ?_ _));exact BK123.out):p:=h
theorem zq44 {p:Prop} (h:p:=by repeat (first|(with_reducible first|exact HB.out|apply below_alloc|apply pw_below_drewN|apply below_drew1|refine below_set ?_ (IsS112.ge HI514.out)|refine below_set ?_ GE511.out)|exact HB.out)):p:=h
theorem zq45 {p:Prop} (h:p:=by(with_reducible repeat (first|refine blk_drewN ?_ _|refine blk_drew ?_|refine blk_alloc ?_ _));exact BK161.out):p:=h
theorem zq46 {p:Prop} (h:p:=by repeat (first|(with_reducible first|exact HB.out|apply below_alloc|apply pw_below_drewN|apply below_drew1|refine below_set ?_ GE314.out)|exact HB.out)):p:=h
theorem zq47 {p:Prop} (h:p:=by repeat (first|(with_reducible first|exact HB.out|apply below_alloc|apply pw_below_drewN|apply below_drew1|refine below_set ?_ GE243.out)|exact HB.out)):p:=h
theorem zq48 {p:Prop} (h:p:=by(with_reducible repeat (first|refine blk_drewN ?_ _|refine blk_drew ?_|refine blk_alloc ?_ _));refine blk_far ?_ NB114_123.out _;(with_reducible repeat (first|refine blk_drewN ?_ _|refine blk_drew ?_|refine blk_alloc ?_ _));refine blk_far ?_ NB114_123.out _;(with_reducible repeat (first|refine blk_drewN ?_ _|refine blk_drew ?_|refine blk_alloc ?_ _));exact BK114.out):p:=h
theorem zq49 {p:Prop} (h:p:=by repeat (first|(with_reducible first|exact HB.out|apply below_alloc|apply pw_below_drewN|apply below_drew1|refine below_set ?_ GE160.out|refine below_set ?_ GE161.out|refine below_set ?_ GE162.out|refine below_set ?_ GE164.out)|exact HB.out)):p:=h
theorem zq50 {p:Prop} (h:p:=by repeat (first|(with_reducible first|exact HB.out|apply below_alloc|apply pw_below_drewN|apply below_drew1|refine below_set ?_ (IsS112.ge HI500.out)|refine below_set ?_ GE496.out|refine below_set ?_ GE497.out)|exact HB.out)):p:=h
theorem zq51 {p:Prop} (h:p:=by repeat (first|(with_reducible first|exact HB.out|apply below_alloc|apply pw_below_drewN|apply below_drew1|refine below_set ?_ (IsS112.ge HI0.out)|refine below_set ?_ GE172.out|refine below_set ?_ GE173.out)|exact HB.out)):p:=h
theorem zq52 {p:Prop} (h:p:=by(with_reducible repeat (first|refine blk_drewN ?_ _|refine blk_drew ?_|refine blk_alloc ?_ _));exact BK511.out):p:=h
theorem zq53 {p:Prop} (h:p:=by first|rfl|(simp;done)|(simp[*];done)):p:=h
theorem zq54 {p:Prop} (h:p:=by repeat (first|(with_reducible first|exact HB.out|apply below_alloc|apply pw_below_drewN|apply below_drew1|refine below_set ?_ (IsS112.ge HI0.out)|refine below_set ?_ GE114.out|refine below_set ?_ GE123.out)|exact HB.out)):p:=h
theorem zq55 {p:Prop} (h:p:=by repeat (first|(with_reducible first|exact HI0.out|apply IsS112.alloc|apply IsS112.drewN|apply IsS112.drew|apply IsS112.set_1|refine IsS112.far ?_ NB0_114.out _|refine IsS112.far ?_ NB0_123.out _)|exact HI0.out)):p:=h
theorem zq56 {p:Prop} (h:p:=by repeat (first|(with_reducible first|exact HI0.out|apply IsS112.alloc|apply IsS112.drewN|apply IsS112.drew|apply IsS112.set_1|refine IsS112.far ?_ NB0_172.out _|refine IsS112.far ?_ NB0_173.out _)|exact HI0.out)):p:=h
theorem zq57 {p:Prop} (h:p:=by(with_reducible repeat (first|refine blk_drewN ?_ _|refine blk_drew ?_|refine blk_alloc ?_ _));exact BK314.out):p:=h
theorem zq58 {p:Prop} (h:p:=by simp):p:=h
theorem zq59 {p:Prop} (h:p:=by(with_reducible repeat (first|refine blk_drewN ?_ _|refine blk_drew ?_|refine blk_alloc ?_ _));exact BK235.out):p:=h
theorem zq60 {p:Prop} (h:p:=by(with_reducible repeat (first|refine blk_drewN ?_ _|refine blk_drew ?_|refine blk_alloc ?_ _));exact BK497.out):p:=h
theorem zq61 {p:Prop} (h:p:=by(with_reducible repeat (first|refine blk_drewN ?_ _|refine blk_drew ?_|refine blk_alloc ?_ _));exact BK173.out):p:=h
theorem zq62 {p:Prop} (h:p:=by first|exact NE2_3.out|exact NE3_2.out):p:=h
theorem zq63 {p:Prop} (h:p:=by simp[Value.oneCell']):p:=h
theorem zq64 {p:Prop} (h:p:=by rfl):p:=h
theorem zq65 {p:Prop} (h:p:=by repeat (first|(with_reducible first|exact HB.out|apply below_alloc|apply pw_below_drewN|apply below_drew1|refine below_set ?_ (IsS29.ge HI0.out))|exact HB.out)):p:=h
theorem zq66 {p:Prop} (h:p:=by(with_reducible repeat (first|refine blk_drewN ?_ _|refine blk_drew ?_|refine blk_alloc ?_ _));exact BK162.out):p:=h
theorem zq67 {p:Prop} (h:p:=by repeat (first|(with_reducible first|exact HB.out|apply below_alloc|apply pw_below_drewN|apply below_drew1|refine below_set ?_ GE160.out|refine below_set ?_ GE161.out|refine below_set ?_ GE162.out)|exact HB.out)):p:=h
theorem zq68 {p:Prop} (h:p:=by repeat (first|(with_reducible first|exact HI0.out|apply IsS29.alloc|apply IsS29.drewN|apply IsS29.drew|apply IsS29.set_0)|exact HI0.out)):p:=h
theorem zq69 {p:Prop} (h:p:=by(with_reducible repeat (first|apply Kd.R_alloc|apply Kd.R_drewN|apply Kd.R_drew));exact HO122.out):p:=h
theorem zq70 {p:Prop} (h:p:=by(with_reducible repeat (first|apply Kd.R_alloc|apply Kd.R_drewN|apply Kd.R_drew));exact(Kd.R_mono (Kd.R_far (p:=⟨gb250,2,none⟩) (Kd.R_far (p:=⟨gb250,1,none⟩) (Kd.R_far (p:=⟨gb250,0,none⟩) (Kd.R_types HO249.out BK250.out zq17) (fun _ hk=>hk.2) (.int .i64 t245)) (fun _ hk=>hk.2) (.int .i64 t246)) (fun _ hk=>hk.2) (.slice Ao15 t247.length co15)) (fun _ h_=>h_.1))):p:=h
theorem zq71 {p:Prop} (h:p:=by repeat (first|(with_reducible first|exact HB.out|apply below_alloc|apply pw_below_drewN|apply below_drew1|refine below_set ?_ GE160.out|refine below_set ?_ GE161.out)|exact HB.out)):p:=h
theorem zq72 {p:Prop} (h:p:=by repeat (first|exact Drawn0.refl _|apply Drawn0.step)):p:=h
theorem zq73 {p:Prop} (h:p:=by repeat (first|(with_reducible first|exact HB.out|apply below_alloc|apply pw_below_drewN|apply below_drew1|refine below_set ?_ GE3.out|refine below_set ?_ GE2.out)|exact HB.out)):p:=h
theorem zq74 {p:Prop} (h:p:=by have:=NG3.out;intro e_;injection e_;omega):p:=h
theorem zq75 {p:Prop} (h:p:=by first|(rw[add_block];exact hn101_0)|(show (Addr.add _ _).block≠_;rw[add_block];exact hn101_0)|exact hn101_0):p:=h
theorem zq76 {p:Prop} (h:p:=by repeat (first|(with_reducible first|exact HK.out|apply KeepBut.set_|apply keep_drewN|apply keep_drew|apply keep_alloc|refine keep_far ?_ GW172.out _)|exact HK.out)):p:=h
theorem zq77 {p:Prop} (h:p:=by(with_reducible repeat (first|refine blk_drewN ?_ _|refine blk_drew ?_|refine blk_alloc ?_ _));exact BK155.out):p:=h
theorem zq78 {p:Prop} (h:p:=by have:=NG2.out;omega):p:=h
theorem zq79 {p:Prop} (h:p:=by repeat (first|(with_reducible first|exact HB.out|apply below_alloc|apply pw_below_drewN|apply below_drew1|refine below_set ?_ GE160.out)|exact HB.out)):p:=h
theorem zq80 {p:Prop} (h:p:=by repeat (first|(with_reducible first|exact HB.out|apply below_alloc|apply pw_below_drewN|apply below_drew1|refine below_set ?_ GE496.out)|exact HB.out)):p:=h
theorem zq81 {p:Prop} (h:p:=by repeat (first|(with_reducible first|exact HB.out|apply below_alloc|apply pw_below_drewN|apply below_drew1|refine below_set ?_ GE525.out)|exact HB.out)):p:=h
theorem zq82 {p:Prop} (h:p:=by repeat (first|(with_reducible first|exact HB.out|apply below_alloc|apply pw_below_drewN|apply below_drew1|refine below_set ?_ GE155.out)|exact HB.out)):p:=h
theorem zq83 {p:Prop} (h:p:=by repeat (first|(with_reducible first|exact HB.out|apply below_alloc|apply pw_below_drewN|apply below_drew1|refine below_set ?_ GE145.out)|exact HB.out)):p:=h
theorem zq84 {p:Prop} (h:p:=by(with_reducible repeat (first|apply Kd.R_alloc|apply Kd.R_drewN|apply Kd.R_drew));exact HO176.out):p:=h
theorem zq85 {p:Prop} (h:p:=by repeat (first|exact(Kd.R_reads' HO117.out).2.2|(with_reducible refine Kd.C_alloc ?_ _)|(with_reducible refine Kd.C_drewN ?_ _)|(with_reducible refine Kd.C_drew ?_))):p:=h
theorem zq86 {p:Prop} (h:p:=by first|exact Kd.S_nil _ _ _ _ _|exact Kd.N_nil _ _ _ _ _|exact Kd.V_nil _ _ _ _ _|exact Kd.Q_nil _ _ _ _ _|exact Kd.R_nil _ _ _ _ _):p:=h
theorem zq87 {p:Prop} (h:p:=by first|(rw[add_block];exact Kd.own_blk (IsS112.own_neS HI0.out HO_174001.out zq17))|(show (Addr.add _ _).block≠_;rw[add_block];exact Kd.own_blk (IsS112.own_neS HI0.out HO_174001.out zq17))|exact Kd.own_blk (IsS112.own_neS HI0.out HO_174001.out zq17)):p:=h
theorem zq88 {p:Prop} (h:p:=by(with_reducible repeat (first|refine blk_drewN ?_ _|refine blk_drew ?_|refine blk_alloc ?_ _));exact BK164.out):p:=h
theorem zq89 {p:Prop} (h:p:=by(with_reducible repeat (first|refine blk_drewN ?_ _|refine blk_drew ?_|refine blk_alloc ?_ _));exact BK250.out):p:=h
theorem zq90 {p:Prop} (h:p:=by have:=NG2.out;intro e_;injection e_;omega):p:=h
theorem zq91 {p:Prop} (h:p:=by(with_reducible repeat (first|refine blk_drewN ?_ _|refine blk_drew ?_|refine blk_alloc ?_ _));exact BK8.out):p:=h
theorem zq92 {p:Prop} (h:p:=by(with_reducible repeat (first|apply Kd.R_alloc|apply Kd.R_drewN|apply Kd.R_drew));exact HO249.out):p:=h
theorem zq93 {p:Prop} (h:p:=by have:=NG3.out;omega):p:=h
theorem zq94 {p:Prop} (h:p:=by repeat (first|(with_reducible first|exact HI500.out|apply IsS112.alloc|apply IsS112.drewN|apply IsS112.drew|apply IsS112.set_1|refine IsS112.far ?_ NB500_496.out _|refine IsS112.far ?_ NB500_497.out _)|exact HI500.out)):p:=h
theorem zq95 {p:Prop} (h:p:=by repeat (first|(with_reducible first|exact HI514.out|apply IsS112.alloc|apply IsS112.drewN|apply IsS112.drew|apply IsS112.set_1|refine IsS112.far ?_ NB514_511.out _)|exact HI514.out)):p:=h
theorem zq96 {p:Prop} (h:p:=by repeat (first|(with_reducible first|exact HB.out|apply below_alloc|apply pw_below_drewN|apply below_drew1|refine below_set ?_ GE155.out|refine below_set ?_ GE156.out)|exact HB.out)):p:=h
theorem zq97 {p:Prop} (h:p:=by repeat (first|(with_reducible first|exact HB.out|apply below_alloc|apply pw_below_drewN|apply below_drew1|refine below_set ?_ GE314.out|refine below_set ?_ GE315.out)|exact HB.out)):p:=h
theorem zq98 {p:Prop} (h:p:=by rw[List.length_append,List.length_singleton];omega):p:=h
theorem zq99 {p:Prop} (h:p:=by repeat (first|exact Below.refl _ _|apply pw_below_drewN|apply below_drew1)):p:=h
theorem zq100 {p:Prop} (h:p:=by repeat (first|exact(Kd.C_below HR0.out HB.out)|(with_reducible refine Kd.C_alloc ?_ _)|(with_reducible refine Kd.C_drewN ?_ _)|(with_reducible refine Kd.C_drew ?_))):p:=h
theorem zq101 {p:Prop} (h:p:=by simpa [World.setCell] using HBS.out):p:=h
theorem zq102 {p:Prop} (h:p:=by first|exact Kd.R_nil _ _ _ _ _|exact Kd.N_nil _ _ _ _ _|exact Kd.V_nil _ _ _ _ _|exact Kd.Q_nil _ _ _ _ _|exact Kd.S_nil _ _ _ _ _):p:=h
theorem zq103 {p:Prop} (h:p:=by repeat (first|(with_reducible first|exact HBW.out|apply below_alloc|apply pw_below_drewN|apply below_drew1)|exact HBW.out)):p:=h
theorem zq104 {p:Prop} (h:p:=by simp only[Nat.min_def];split <;> omega):p:=h
theorem zq105 {p:Prop} (h:p:=by first|(rw[add_block];exact hn102_0)|(show (Addr.add _ _).block≠_;rw[add_block];exact hn102_0)|exact hn102_0):p:=h
theorem zq106 {p:Prop} (h:p:=by(with_reducible repeat (first|refine blk_drewN ?_ _|refine blk_drew ?_|refine blk_alloc ?_ _));exact BK525.out):p:=h
theorem zq107 {p:Prop} (h:p:=by(with_reducible repeat (first|refine blk_drewN ?_ _|refine blk_drew ?_|refine blk_alloc ?_ _));exact BK123.out):p:=h
theorem zq108 {p:Prop} (h:p:=by(with_reducible repeat (first|refine blk_drewN ?_ _|refine blk_drew ?_|refine blk_alloc ?_ _));exact BK.out):p:=h
theorem zq109 {p:Prop} (h:p:=by(with_reducible repeat (first|apply Kd.S_alloc|apply Kd.S_drewN|apply Kd.S_drew));exact HO_163001.out):p:=h
theorem zq110 {p:Prop} (h:p:=by(with_reducible repeat (first|apply Kd.S_alloc|apply Kd.S_drewN|apply Kd.S_drew));exact HO_174001.out):p:=h
