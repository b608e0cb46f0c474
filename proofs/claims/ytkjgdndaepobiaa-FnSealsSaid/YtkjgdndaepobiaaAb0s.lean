-- Laid by wip/abbrev.py of this repo: tactics that stand many times in this claim's texts,named. Not trusted: Lean checks it.
import Derived.Test.YtkjgdndaepobiaaWs0
theorem zq0 {p:Prop} (h:p:=by repeat (first|(with_reducible first|exact HB.out|apply below_alloc|apply pw_below_drewN|apply below_drew1)|exact HB.out)):p:=h
theorem zq1 {p:Prop} (h:p:=by(try simp only[List.map_toArray,List.map_cons,List.map_nil]);first|done|rfl|(simp only[List.length_drop,List.length_take];rfl)):p:=h
theorem zq2 {p:Prop} (h:p:=by first|exact hk.2|exact fun e9=>hk.2 (e9.trans (by cases Ao76 <;> rfl))|exact fun e9=>hk.2 (e9.trans (by cases Ao75 <;> rfl))|exact fun e9=>hk.2 (e9.trans (by cases Ao74 <;> rfl))|exact fun e9=>hk.2 (e9.trans (by cases Ao73 <;> rfl))|exact fun e9=>hk.2 (e9.trans (by cases Ao69 <;> rfl))|exact fun e9=>hk.2 (e9.trans (by cases Ao68 <;> rfl))|exact fun e9=>hk.2 (e9.trans (by cases Ao67 <;> rfl))|exact fun e9=>hk.2 (e9.trans (by cases Ao66 <;> rfl))|exact fun e9=>hk.2 (e9.trans (by cases Ao59 <;> rfl))|exact fun e9=>hk.2 (e9.trans (by cases Ao58 <;> rfl))|exact fun e9=>hk.2 (e9.trans (by cases Ao57 <;> rfl))|exact fun e9=>hk.2 (e9.trans (by cases Ao56 <;> rfl))|exact fun e9=>hk.2 (e9.trans (by cases Ao50 <;> rfl))|exact fun e9=>hk.2 (e9.trans (by cases Ao47 <;> rfl))|exact fun e9=>hk.2 (e9.trans (by cases Ao46 <;> rfl))|exact fun e9=>hk.2 (e9.trans (by cases Ao45 <;> rfl))|exact fun e9=>hk.2 (e9.trans (by cases Ao44 <;> rfl))|exact fun e9=>hk.2 (e9.trans (by cases Ao36 <;> rfl))|exact fun e9=>hk.2 (e9.trans (by cases Ao32 <;> rfl))|exact fun e9=>hk.2 (e9.trans (by cases Ao31 <;> rfl))|exact fun e9=>hk.2 (e9.trans (by cases Ao30 <;> rfl))|exact fun e9=>hk.2 (e9.trans (by cases Ao29 <;> rfl))|exact fun e9=>hk.2 (e9.trans (by cases Ao19 <;> rfl))|exact fun e9=>hk.2 (e9.trans (by cases Ao18 <;> rfl))|exact fun e9=>hk.2 (e9.trans (by cases Ao17 <;> rfl))|exact fun e9=>hk.2 (e9.trans (by cases Ao16 <;> rfl))|exact fun e9=>hk.2 (e9.trans (by cases Ao15 <;> rfl))|exact fun e9=>hk.2 (e9.trans (by cases Ao14 <;> rfl))|exact fun e9=>hk.2 (e9.trans (by cases Ao13 <;> rfl))|exact fun e9=>hk.2 (e9.trans (by cases Ao12 <;> rfl))|exact fun e9=>hk.2 (e9.trans (by cases Ao11 <;> rfl))|exact fun e9=>hk.2 (e9.trans (by cases Ao10 <;> rfl))):p:=h
theorem zq3 {p:Prop} (h:p:=by(with_reducible repeat (first|refine blk_drewN ?_ _|refine blk_drew ?_|refine blk_alloc ?_ _));exact BK2.out):p:=h
theorem zq4 {p:Prop} (h:p:=by(with_reducible repeat (first|refine blk_drewN ?_ _|refine blk_drew ?_|refine blk_alloc ?_ _));exact BK1.out):p:=h
theorem zq5 {p:Prop} (h:p:=by(with_reducible repeat (first|refine blk_drewN ?_ _|refine blk_drew ?_|refine blk_alloc ?_ _));exact BK8.out):p:=h
theorem zq6 {p:Prop} (h:p:=by(with_reducible repeat (first|refine blk_drewN ?_ _|refine blk_drew ?_|refine blk_alloc ?_ _));exact BK4.out):p:=h
theorem zq7 {p:Prop} (h:p:=by first|(with_reducible assumption)|assumption):p:=h
theorem zq8 {p:Prop} (h:p:=by first|rfl|(simp;done)|(simp[*];done)):p:=h
theorem zq9 {p:Prop} (h:p:=by omega):p:=h
theorem zq10 {p:Prop} (h:p:=by(with_reducible repeat (first|refine blk_drewN ?_ _|refine blk_drew ?_|refine blk_alloc ?_ _));exact BK3.out):p:=h
theorem zq11 {p:Prop} (h:p:=by(with_reducible repeat (first|refine blk_drewN ?_ _|refine blk_drew ?_|refine blk_alloc ?_ _));exact BK6.out):p:=h
theorem zq12 {p:Prop} (h:p:=by repeat(first|(with_reducible first|exact HB.out|apply by5|apply ay5|apply cy5|refine dy5 ?_ GE559.out|refine dy5 ?_ GE576.out)|exact HB.out)):p:=h
theorem zq13 {p:Prop} (h:p:=by(with_reducible repeat (first|refine blk_drewN ?_ _|refine blk_drew ?_|refine blk_alloc ?_ _));exact BK5.out):p:=h
theorem zq14 {p:Prop} (h:p:=by first|rfl|(simp[errW_none,errW_some] <;> rfl)|(simp[*,errW_none,errW_some] <;> rfl)):p:=h
theorem zq15 {p:Prop} (h:p:=by repeat (first|(with_reducible first|exact HB.out|apply below_alloc|apply pw_below_drewN|apply below_drew1|refine below_set ?_ (IsS73.ge HI477.out))|exact HB.out)):p:=h
theorem zq16 {p:Prop} (h:p:=by repeat (first|(with_reducible first|exact HB.out|apply below_alloc|apply pw_below_drewN|apply below_drew1|refine below_set ?_ (IsS73.ge HI258.out))|exact HB.out)):p:=h
theorem zq17 {p:Prop} (h:p:=by(with_reducible repeat (first|apply Kd.R_alloc|apply Kd.R_drewN|apply Kd.R_drew));exact HO_7.out):p:=h
theorem zq18 {p:Prop} (h:p:=by(with_reducible repeat (first|refine blk_drewN ?_ _|refine blk_drew ?_|refine blk_alloc ?_ _));exact BKK.out):p:=h
theorem zq19 {p:Prop} (h:p:=by(with_reducible repeat (first|apply Kd.R_alloc|apply Kd.R_drewN|apply Kd.R_drew));exact HO_9.out):p:=h
theorem zq20 {p:Prop} (h:p:=by(try simp only[List.map_toArray,List.map_cons,List.map_nil]);first|done|rfl|(simp only[List.length_drop,List.length_take];rfl)):p:=h
theorem zq21 {p:Prop} (h:p:=by(with_reducible repeat (first|apply Kd.R_alloc|apply Kd.R_drewN|apply Kd.R_drew));exact HO420.out):p:=h
theorem zq22 {p:Prop} (h:p:=by decide):p:=h
theorem zq23 {p:Prop} (h:p:=by(with_reducible repeat (first|apply Kd.R_alloc|apply Kd.R_drewN|apply Kd.R_drew));exact HO423.out):p:=h
theorem zq24 {p:Prop} (h:p:=by(with_reducible repeat (first|apply Kd.R_alloc|apply Kd.R_drewN|apply Kd.R_drew));exact HO_10.out):p:=h
theorem zq25 {p:Prop} (h:p:=by(with_reducible repeat (first|apply Kd.R_alloc|apply Kd.R_drewN|apply Kd.R_drew));exact HO_8.out):p:=h
theorem zq26 {p:Prop} (h:p:=by repeat (first|exact(Kd.C_below HR0.out HB.out)|(with_reducible refine Kd.C_alloc ?_ _)|(with_reducible refine Kd.C_drewN ?_ _)|(with_reducible refine Kd.C_drew ?_))):p:=h
theorem zq27 {p:Prop} (h:p:=by repeat (first|(with_reducible first|exact HB.out|apply below_alloc|apply pw_below_drewN|apply below_drew1|refine below_set ?_ (IsS73.ge HI0.out))|exact HB.out)):p:=h
theorem zq28 {p:Prop} (h:p:=by repeat (first|exact(Kd.C_below HR1.out HB.out)|(with_reducible refine Kd.C_alloc ?_ _)|(with_reducible refine Kd.C_drewN ?_ _)|(with_reducible refine Kd.C_drew ?_))):p:=h
theorem zq29 {p:Prop} (h:p:=by repeat (first|exact(Kd.C_below HR2.out HB.out)|(with_reducible refine Kd.C_alloc ?_ _)|(with_reducible refine Kd.C_drewN ?_ _)|(with_reducible refine Kd.C_drew ?_))):p:=h
theorem zq30 {p:Prop} (h:p:=by repeat (first|(with_reducible first|exact HI0.out|apply IsS73.alloc|apply IsS73.drewN|apply IsS73.drew|apply IsS73.set_1)|exact HI0.out)):p:=h
theorem zq31 {p:Prop} (h:p:=by(with_reducible repeat (first|apply Kd.R_alloc|apply Kd.R_drewN|apply Kd.R_drew));exact HO429.out):p:=h
theorem zq32 {p:Prop} (h:p:=by repeat (first|(with_reducible first|exact HK.out|apply KeepBut.set_|apply keep_drewN|apply keep_drew|apply keep_alloc)|exact HK.out)):p:=h
theorem zq33 {p:Prop} (h:p:=by repeat (first|(with_reducible first|exact HI258.out|apply IsS73.alloc|apply IsS73.drewN|apply IsS73.drew|apply IsS73.set_1)|exact HI258.out)):p:=h
theorem zq34 {p:Prop} (h:p:=by(with_reducible repeat (first|refine ey5 ?_ _|refine gy5 ?_|refine fy5 ?_ _));exact BK559.out):p:=h
theorem zq35 {p:Prop} (h:p:=by(with_reducible repeat (first|refine blk_drewN ?_ _|refine blk_drew ?_|refine blk_alloc ?_ _));exact BKL.out):p:=h
theorem zq36 {p:Prop} (h:p:=by(with_reducible repeat (first|apply az5|apply bz5|apply cz5));exact HO548.out):p:=h
theorem zq37 {p:Prop} (h:p:=by(with_reducible repeat (first|apply az5|apply bz5|apply cz5));exact HO550.out):p:=h
theorem zq38 {p:Prop} (h:p:=by(with_reducible repeat (first|apply az5|apply bz5|apply cz5));exact HO552.out):p:=h
theorem zq39 {p:Prop} (h:p:=by(with_reducible repeat (first|apply az5|apply bz5|apply cz5));exact HO554.out):p:=h
theorem zq40 {p:Prop} (h:p:=by(with_reducible repeat (first|refine blk_drewN ?_ _|refine blk_drew ?_|refine blk_alloc ?_ _));exact BK315.out):p:=h
theorem zq41 {p:Prop} (h:p:=by repeat (first|(with_reducible first|exact HB.out|apply below_alloc|apply pw_below_drewN|apply below_drew1|refine below_set ?_ GE318.out|refine below_set ?_ GE319.out|refine below_set ?_ GE320.out|refine below_set ?_ GE321.out)|exact HB.out)):p:=h
theorem zq42 {p:Prop} (h:p:=by(with_reducible repeat (first|refine blk_drewN ?_ _|refine blk_drew ?_|refine blk_alloc ?_ _));exact BK10.out):p:=h
theorem zq43 {p:Prop} (h:p:=by repeat (first|(with_reducible first|exact HB.out|apply by5|apply ay5|apply cy5|refine dy5 ?_ GE559.out|refine dy5 ?_ GE576.out)|exact HB.out)):p:=h
theorem zq44 {p:Prop} (h:p:=by(with_reducible repeat (first|refine blk_drewN ?_ _|refine blk_drew ?_|refine blk_alloc ?_ _));exact BK318.out):p:=h
theorem zq45 {p:Prop} (h:p:=by(with_reducible repeat (first|apply az5|apply bz5|apply cz5));exact HO558.out):p:=h
theorem zq46 {p:Prop} (h:p:=by repeat(first|(with_reducible first|exact HB.out|apply by5|apply ay5|apply cy5|refine dy5 ?_ GE559.out)|exact HB.out)):p:=h
theorem zq47 {p:Prop} (h:p:=by repeat (first|exact Drawn0.refl _|apply Drawn0.step)):p:=h
theorem zq48 {p:Prop} (h:p:=by(with_reducible repeat (first|apply Kd.R_alloc|apply Kd.R_drewN|apply Kd.R_drew));exact HO435.out):p:=h
theorem zq49 {p:Prop} (h:p:=by(with_reducible repeat (first|apply Kd.R_alloc|apply Kd.R_drewN|apply Kd.R_drew));exact HOl.out):p:=h
theorem zq50 {p:Prop} (h:p:=by(with_reducible repeat (first|apply az5|apply bz5|apply cz5));exact HO565.out):p:=h
theorem zq51 {p:Prop} (h:p:=by(with_reducible repeat (first|apply az5|apply bz5|apply cz5));exact HO567.out):p:=h
theorem zq52 {p:Prop} (h:p:=by(with_reducible repeat (first|apply az5|apply bz5|apply cz5));exact HO569.out):p:=h
theorem zq53 {p:Prop} (h:p:=by(with_reducible repeat (first|apply az5|apply bz5|apply cz5));exact HO571.out):p:=h
theorem zq54 {p:Prop} (h:p:=by repeat (first|(with_reducible first|exact HI477.out|apply IsS73.alloc|apply IsS73.drewN|apply IsS73.drew|apply IsS73.set_1)|exact HI477.out)):p:=h
theorem zq55 {p:Prop} (h:p:=by(with_reducible repeat (first|apply az5|apply bz5|apply cz5));exact(gz5 (ez5 (p:=⟨gb559,1,none⟩) (ez5 (p:=⟨gb559,0,none⟩) (hz5 HO548.out BK559.out zq22) (fun _ hk=>hk.2) (.int .i64 t555)) (fun _ hk=>hk.2) (.slice Ao17 t556.length co17)) (fun _ h_=>h_.1))):p:=h
theorem zq56 {p:Prop} (h:p:=by(with_reducible repeat (first|apply az5|apply bz5|apply cz5));exact(gz5 (ez5 (p:=⟨gb559,1,none⟩) (ez5 (p:=⟨gb559,0,none⟩) (hz5 HO550.out BK559.out zq22) (fun _ hk=>hk.2) (.int .i64 t555)) (fun _ hk=>hk.2) (.slice Ao17 t556.length co17)) (fun _ h_=>h_.1))):p:=h
theorem zq57 {p:Prop} (h:p:=by(with_reducible repeat (first|apply az5|apply bz5|apply cz5));exact(gz5 (ez5 (p:=⟨gb559,1,none⟩) (ez5 (p:=⟨gb559,0,none⟩) (hz5 HO552.out BK559.out zq22) (fun _ hk=>hk.2) (.int .i64 t555)) (fun _ hk=>hk.2) (.slice Ao17 t556.length co17)) (fun _ h_=>h_.1))):p:=h
theorem zq58 {p:Prop} (h:p:=by(with_reducible repeat (first|apply az5|apply bz5|apply cz5));exact(gz5 (ez5 (p:=⟨gb559,1,none⟩) (ez5 (p:=⟨gb559,0,none⟩) (hz5 HO554.out BK559.out zq22) (fun _ hk=>hk.2) (.int .i64 t555)) (fun _ hk=>hk.2) (.slice Ao17 t556.length co17)) (fun _ h_=>h_.1))):p:=h
theorem zq59 {p:Prop} (h:p:=by(with_reducible repeat (first|apply az5|apply bz5|apply cz5));exact(gz5 (ez5 (p:=⟨gb559,1,none⟩) (ez5 (p:=⟨gb559,0,none⟩) (hz5 HO558.out BK559.out zq22) (fun _ hk=>hk.2) (.int .i64 t555)) (fun _ hk=>hk.2) (.slice Ao17 t556.length co17)) (fun _ h_=>h_.1))):p:=h
theorem zq60 {p:Prop} (h:p:=by(with_reducible repeat (first|apply Kd.R_alloc|apply Kd.R_drewN|apply Kd.R_drew));exact HO261.out):p:=h
theorem zq61 {p:Prop} (h:p:=by(with_reducible repeat (first|refine ey5 ?_ _|refine gy5 ?_|refine fy5 ?_ _));exact BK576.out):p:=h
theorem zq62 {p:Prop} (h:p:=by(with_reducible repeat (first|apply Kd.R_alloc|apply Kd.R_drewN|apply Kd.R_drew));exact HOt.out):p:=h
theorem zq63 {p:Prop} (h:p:=by repeat (first|(with_reducible first|exact HB.out|apply below_alloc|apply pw_below_drewN|apply below_drew1|refine below_set ?_ GE315.out|refine below_set ?_ GE316.out)|exact HB.out)):p:=h
theorem zq64 {p:Prop} (h:p:=by(with_reducible repeat (first|apply Kd.R_alloc|apply Kd.R_drewN|apply Kd.R_drew));exact HO518.out):p:=h
theorem zq65 {p:Prop} (h:p:=by(with_reducible repeat (first|apply az5|apply bz5|apply cz5));exact HO575.out):p:=h
theorem zq66 {p:Prop} (h:p:=by(with_reducible repeat (first|refine blk_drewN ?_ _|refine blk_drew ?_|refine blk_alloc ?_ _));exact BK7.out):p:=h
theorem zq67 {p:Prop} (h:p:=by(with_reducible repeat (first|apply Kd.R_alloc|apply Kd.R_drewN|apply Kd.R_drew));exact HO7.out):p:=h
theorem zq68 {p:Prop} (h:p:=by(with_reducible repeat (first|apply Kd.R_alloc|apply Kd.R_drewN|apply Kd.R_drew));exact HOd.out):p:=h
theorem zq69 {p:Prop} (h:p:=by(with_reducible repeat (first|apply az5|apply bz5|apply cz5));exact HO_560001.out):p:=h
theorem zq70 {p:Prop} (h:p:=by(with_reducible repeat (first|apply az5|apply bz5|apply cz5));exact HO_577001.out):p:=h
theorem zq71 {p:Prop} (h:p:=by(with_reducible repeat (first|apply az5|apply bz5|apply cz5));exact gz5 (ez5 (p:=⟨gb576,1,none⟩) (ez5 (p:=⟨gb576,0,none⟩) (hz5 HO558.out BK576.out zq22) (fun _ hk=>hk.2) (.int .i64 t572)) (fun _ hk=>hk.2) (.slice Ao27 t573.length co27)) (fun _ hk=>⟨hk.1.1.1.1.1.1.1.1.1.2,⟨hk.1.1.1.1.1.1.1.1.2,⟨hk.1.1.1.1.1.1.1.2,⟨hk.1.1.1.1.1.1.2,⟨hk.1.1.1.1.1.2,⟨hk.1.1.1.1.2,⟨hk.1.1.1.2,⟨hk.1.1.2,hk.1.2⟩⟩⟩⟩⟩⟩⟩⟩)):p:=h
theorem zq72 {p:Prop} (h:p:=by(with_reducible repeat (first|apply az5|apply bz5|apply cz5));exact gz5 (ez5 (p:=⟨gb576,1,none⟩) (ez5 (p:=⟨gb576,0,none⟩) (hz5 HO575.out BK576.out zq22) (fun _ hk=>hk.2) (.int .i64 t572)) (fun _ hk=>hk.2) (.slice Ao27 t573.length co27)) (fun _ hk=>⟨hk.1.1.1.1.1.1.1.1.1.2,⟨hk.1.1.1.1.1.1.1.1.2,⟨hk.1.1.1.1.1.1.1.2,⟨hk.1.1.1.1.1.1.2,⟨hk.1.1.1.1.1.2,⟨hk.1.1.1.1.2,⟨hk.1.1.1.2,⟨hk.1.1.2,hk.1.2⟩⟩⟩⟩⟩⟩⟩⟩)):p:=h
theorem zq73 {p:Prop} (h:p:=by(with_reducible repeat (first|apply az5|apply bz5|apply cz5));exact gz5 (ez5 (p:=⟨gb576,1,none⟩) (ez5 (p:=⟨gb576,0,none⟩) (hz5 HO548.out BK576.out zq22) (fun _ hk=>hk.2) (.int .i64 t572)) (fun _ hk=>hk.2) (.slice Ao27 t573.length co27)) (fun _ hk=>⟨hk.1.1.1.1.1.1.1.1,⟨hk.1.1.1.1.1.1.1.2.1,⟨hk.1.1.1.1.1.1.1.2.2,⟨hk.1.1.1.1.1.1.2,⟨hk.1.1.1.1.1.2,⟨hk.1.1.1.1.2,⟨hk.1.1.1.2,⟨hk.1.1.2,hk.1.2⟩⟩⟩⟩⟩⟩⟩⟩)):p:=h
theorem zq74 {p:Prop} (h:p:=by(with_reducible repeat (first|apply az5|apply bz5|apply cz5));exact gz5 (ez5 (p:=⟨gb576,1,none⟩) (ez5 (p:=⟨gb576,0,none⟩) (hz5 HO550.out BK576.out zq22) (fun _ hk=>hk.2) (.int .i64 t572)) (fun _ hk=>hk.2) (.slice Ao27 t573.length co27)) (fun _ hk=>⟨hk.1.1.1.1.1.1.1.1,⟨hk.1.1.1.1.1.1.1.2.1,⟨hk.1.1.1.1.1.1.1.2.2,⟨hk.1.1.1.1.1.1.2,⟨hk.1.1.1.1.1.2,⟨hk.1.1.1.1.2,⟨hk.1.1.1.2,⟨hk.1.1.2,hk.1.2⟩⟩⟩⟩⟩⟩⟩⟩)):p:=h
theorem zq75 {p:Prop} (h:p:=by(with_reducible repeat (first|apply az5|apply bz5|apply cz5));exact gz5 (ez5 (p:=⟨gb576,1,none⟩) (ez5 (p:=⟨gb576,0,none⟩) (hz5 HO552.out BK576.out zq22) (fun _ hk=>hk.2) (.int .i64 t572)) (fun _ hk=>hk.2) (.slice Ao27 t573.length co27)) (fun _ hk=>⟨hk.1.1.1.1.1.1.1.1,⟨hk.1.1.1.1.1.1.1.2.1,⟨hk.1.1.1.1.1.1.1.2.2,⟨hk.1.1.1.1.1.1.2,⟨hk.1.1.1.1.1.2,⟨hk.1.1.1.1.2,⟨hk.1.1.1.2,⟨hk.1.1.2,hk.1.2⟩⟩⟩⟩⟩⟩⟩⟩)):p:=h
theorem zq76 {p:Prop} (h:p:=by(with_reducible repeat (first|apply az5|apply bz5|apply cz5));exact gz5 (ez5 (p:=⟨gb576,1,none⟩) (ez5 (p:=⟨gb576,0,none⟩) (hz5 HO554.out BK576.out zq22) (fun _ hk=>hk.2) (.int .i64 t572)) (fun _ hk=>hk.2) (.slice Ao27 t573.length co27)) (fun _ hk=>⟨hk.1.1.1.1.1.1.1.1,⟨hk.1.1.1.1.1.1.1.2.1,⟨hk.1.1.1.1.1.1.1.2.2,⟨hk.1.1.1.1.1.1.2,⟨hk.1.1.1.1.1.2,⟨hk.1.1.1.1.2,⟨hk.1.1.1.2,⟨hk.1.1.2,hk.1.2⟩⟩⟩⟩⟩⟩⟩⟩)):p:=h
theorem zq77 {p:Prop} (h:p:=by(with_reducible repeat (first|apply az5|apply bz5|apply cz5));exact gz5 (ez5 (p:=⟨gb576,1,none⟩) (ez5 (p:=⟨gb576,0,none⟩) (hz5 HO565.out BK576.out zq22) (fun _ hk=>hk.2) (.int .i64 t572)) (fun _ hk=>hk.2) (.slice Ao27 t573.length co27)) (fun _ hk=>⟨hk.1.1.1.1.1.1.2,⟨hk.1.1.1.1.1.2,⟨hk.1.1.1.1.2,⟨hk.1.1.1.2,⟨hk.1.1.2,⟨hk.1.1.1.1.1.1.1.1,⟨hk.1.1.1.1.1.1.1.2.1,⟨hk.1.1.1.1.1.1.1.2.2,hk.1.2⟩⟩⟩⟩⟩⟩⟩⟩)):p:=h
theorem zq78 {p:Prop} (h:p:=by(with_reducible repeat (first|apply az5|apply bz5|apply cz5));exact gz5 (ez5 (p:=⟨gb576,1,none⟩) (ez5 (p:=⟨gb576,0,none⟩) (hz5 HO567.out BK576.out zq22) (fun _ hk=>hk.2) (.int .i64 t572)) (fun _ hk=>hk.2) (.slice Ao27 t573.length co27)) (fun _ hk=>⟨hk.1.1.1.1.1.1.2,⟨hk.1.1.1.1.1.2,⟨hk.1.1.1.1.2,⟨hk.1.1.1.2,⟨hk.1.1.2,⟨hk.1.1.1.1.1.1.1.1,⟨hk.1.1.1.1.1.1.1.2.1,⟨hk.1.1.1.1.1.1.1.2.2,hk.1.2⟩⟩⟩⟩⟩⟩⟩⟩)):p:=h
theorem zq79 {p:Prop} (h:p:=by(with_reducible repeat (first|apply az5|apply bz5|apply cz5));exact gz5 (ez5 (p:=⟨gb576,1,none⟩) (ez5 (p:=⟨gb576,0,none⟩) (hz5 HO569.out BK576.out zq22) (fun _ hk=>hk.2) (.int .i64 t572)) (fun _ hk=>hk.2) (.slice Ao27 t573.length co27)) (fun _ hk=>⟨hk.1.1.1.1.1.1.2,⟨hk.1.1.1.1.1.2,⟨hk.1.1.1.1.2,⟨hk.1.1.1.2,⟨hk.1.1.2,⟨hk.1.1.1.1.1.1.1.1,⟨hk.1.1.1.1.1.1.1.2.1,⟨hk.1.1.1.1.1.1.1.2.2,hk.1.2⟩⟩⟩⟩⟩⟩⟩⟩)):p:=h
theorem zq80 {p:Prop} (h:p:=by(with_reducible repeat (first|apply az5|apply bz5|apply cz5));exact gz5 (ez5 (p:=⟨gb576,1,none⟩) (ez5 (p:=⟨gb576,0,none⟩) (hz5 HO571.out BK576.out zq22) (fun _ hk=>hk.2) (.int .i64 t572)) (fun _ hk=>hk.2) (.slice Ao27 t573.length co27)) (fun _ hk=>⟨hk.1.1.1.1.1.1.2,⟨hk.1.1.1.1.1.2,⟨hk.1.1.1.1.2,⟨hk.1.1.1.2,⟨hk.1.1.2,⟨hk.1.1.1.1.1.1.1.1,⟨hk.1.1.1.1.1.1.1.2.1,⟨hk.1.1.1.1.1.1.1.2.2,hk.1.2⟩⟩⟩⟩⟩⟩⟩⟩)):p:=h
theorem zq81 {p:Prop} (h:p:=by(with_reducible repeat (first|apply az5|apply bz5|apply cz5));exact HO_3.out):p:=h
theorem zq82 {p:Prop} (h:p:=by(with_reducible repeat (first|apply az5|apply bz5|apply cz5));exact HO_4.out):p:=h
theorem zq83 {p:Prop} (h:p:=by(with_reducible repeat (first|apply az5|apply bz5|apply cz5));exact HO_5.out):p:=h
theorem zq84 {p:Prop} (h:p:=by(with_reducible repeat (first|apply az5|apply bz5|apply cz5));exact HO_6.out):p:=h
theorem zq85 {p:Prop} (h:p:=by(with_reducible repeat (first|apply Kd.R_alloc|apply Kd.R_drewN|apply Kd.R_drew));exact HO441.out):p:=h
theorem zq86 {p:Prop} (h:p:=by(with_reducible repeat (first|apply Kd.R_alloc|apply Kd.R_drewN|apply Kd.R_drew));exact HO459.out):p:=h
theorem zq87 {p:Prop} (h:p:=by(with_reducible repeat (first|apply Kd.R_alloc|apply Kd.R_drewN|apply Kd.R_drew));exact HO492.out):p:=h
theorem zq88 {p:Prop} (h:p:=by repeat(first|(with_reducible first|exact HB.out|apply by5|apply ay5|apply cy5)|exact HB.out)):p:=h
theorem zq89 {p:Prop} (h:p:=by repeat (first|exact HR0.out|(with_reducible refine Kd.C_alloc ?_ _)|(with_reducible refine Kd.C_drewN ?_ _)|(with_reducible refine Kd.C_drew ?_))):p:=h
theorem zq90 {p:Prop} (h:p:=by(with_reducible repeat (first|refine blk_drewN ?_ _|refine blk_drew ?_|refine blk_alloc ?_ _));exact BK319.out):p:=h
theorem zq91 {p:Prop} (h:p:=by repeat (first|(with_reducible first|exact HB.out|apply below_alloc|apply pw_below_drewN|apply below_drew1|refine below_set ?_ GE315.out)|exact HB.out)):p:=h
theorem zq92 {p:Prop} (h:p:=by(with_reducible repeat (first|apply Kd.R_alloc|apply Kd.R_drewN|apply Kd.R_drew));exact HOe.out):p:=h
theorem zq93 {p:Prop} (h:p:=by(with_reducible repeat (first|apply Kd.R_alloc|apply Kd.R_drewN|apply Kd.R_drew));exact HO_5.out):p:=h
theorem zq94 {p:Prop} (h:p:=by(with_reducible repeat (first|refine ey5 ?_ _|refine gy5 ?_|refine fy5 ?_ _));refine blk_put (cs:=#[.int .i64 t572,.slice none 0 0]) ?_ 1 _ rfl;(with_reducible repeat (first|refine ey5 ?_ _|refine gy5 ?_|refine fy5 ?_ _));refine blk_put (cs:=#[.int .i64 0,.slice none 0 0]) ?_ 0 _ rfl;(with_reducible repeat (first|refine ey5 ?_ _|refine gy5 ?_|refine fy5 ?_ _));exact BK576.out):p:=h
theorem zq95 {p:Prop} (h:p:=by(with_reducible repeat (first|apply Kd.R_alloc|apply Kd.R_drewN|apply Kd.R_drew));exact HO444.out):p:=h
theorem zq96 {p:Prop} (h:p:=by(with_reducible repeat (first|apply Kd.R_alloc|apply Kd.R_drewN|apply Kd.R_drew));exact HO266.out):p:=h
theorem zq97 {p:Prop} (h:p:=by(with_reducible repeat (first|apply Kd.R_alloc|apply Kd.R_drewN|apply Kd.R_drew));exact HO283.out):p:=h
theorem zq98 {p:Prop} (h:p:=by(with_reducible repeat (first|apply Kd.R_alloc|apply Kd.R_drewN|apply Kd.R_drew));exact HO288.out):p:=h
theorem zq99 {p:Prop} (h:p:=by(try simp only[List.map_toArray,List.map_cons,List.map_nil]);first|done|(rw[show (l3.take ((ji7):Int).toNat).length=(ji7).toNat from (by rw[List.length_take];have h_:((ji7):Int)≤(l3.length:Int):=of_decide_eq_true zq7;omega)] <;> rfl)|(simp only[hji7];rfl)|rfl|(simp only[List.length_drop,List.length_take];rfl)):p:=h
theorem zq100 {p:Prop} (h:p:=by first|exact Kd.R_nil _ _ _ _ _|exact Kd.N_nil _ _ _ _ _|exact Kd.V_nil _ _ _ _ _|exact Kd.Q_nil _ _ _ _ _|exact Kd.S_nil _ _ _ _ _):p:=h
theorem zq101 {p:Prop} (h:p:=by simp):p:=h
theorem zq102 {p:Prop} (h:p:=by repeat (first|(with_reducible first|exact HB.out|apply below_alloc|apply pw_below_drewN|apply below_drew1|refine below_set ?_ GE511.out)|exact HB.out)):p:=h
theorem zq103 {p:Prop} (h:p:=by repeat (first|(with_reducible first|exact HB.out|apply below_alloc|apply pw_below_drewN|apply below_drew1|refine below_set ?_ GE534.out)|exact HB.out)):p:=h
theorem zq104 {p:Prop} (h:p:=by(with_reducible repeat (first|apply az5|apply bz5|apply cz5));exact(gz5 (ez5 (p:=⟨go77,((ji73):Int).toNat,none⟩) (gz5 HO_560001.out (fun k_ hk=>(⟨hk,fun e_=>hk.2 (by rw[e_];rfl)⟩:_∧k_≠go77))) (fun _ hk=>hk.2) (.int .u8 (Go.bits .xor .u8 (rd y603 (ji73)) ((wrap64 (1+t608)) % 256)))) (fun _ h_=>h_.1))):p:=h
theorem zq105 {p:Prop} (h:p:=by(with_reducible repeat (first|apply az5|apply bz5|apply cz5));exact(gz5 (ez5 (p:=⟨go77,((ji73):Int).toNat,none⟩) (gz5 HO_3.out (fun k_ hk=>(⟨hk,fun e_=>hk.2 (by rw[e_];rfl)⟩:_∧k_≠go77))) (fun _ hk=>hk.2) (.int .u8 (Go.bits .xor .u8 (rd y603 (ji73)) ((wrap64 (1+t608)) % 256)))) (fun _ h_=>h_.1))):p:=h
theorem zq106 {p:Prop} (h:p:=by(with_reducible repeat (first|apply az5|apply bz5|apply cz5));exact(gz5 (ez5 (p:=⟨go77,((ji73):Int).toNat,none⟩) (gz5 HO_4.out (fun k_ hk=>(⟨hk,fun e_=>hk.2 (by rw[e_];rfl)⟩:_∧k_≠go77))) (fun _ hk=>hk.2) (.int .u8 (Go.bits .xor .u8 (rd y603 (ji73)) ((wrap64 (1+t608)) % 256)))) (fun _ h_=>h_.1))):p:=h
theorem zq107 {p:Prop} (h:p:=by(with_reducible repeat (first|apply az5|apply bz5|apply cz5));exact(gz5 (ez5 (p:=⟨go77,((ji73):Int).toNat,none⟩) (gz5 HO_5.out (fun k_ hk=>(⟨hk,fun e_=>hk.2 (by rw[e_];rfl)⟩:_∧k_≠go77))) (fun _ hk=>hk.2) (.int .u8 (Go.bits .xor .u8 (rd y603 (ji73)) ((wrap64 (1+t608)) % 256)))) (fun _ h_=>h_.1))):p:=h
theorem zq108 {p:Prop} (h:p:=by(with_reducible repeat (first|refine ey5 ?_ _|refine gy5 ?_|refine fy5 ?_ _));refine blk_far ?_ NB559_576.out _;(with_reducible repeat (first|refine ey5 ?_ _|refine gy5 ?_|refine fy5 ?_ _));refine blk_far ?_ NB559_576.out _;(with_reducible repeat (first|refine ey5 ?_ _|refine gy5 ?_|refine fy5 ?_ _));exact BK559.out):p:=h
theorem zq109 {p:Prop} (h:p:=by(with_reducible repeat (first|apply Kd.R_alloc|apply Kd.R_drewN|apply Kd.R_drew));exact HO462.out):p:=h
theorem zq110 {p:Prop} (h:p:=by repeat (first|exact(Kd.R_reads' HO_10.out).2.2|(with_reducible refine Kd.C_alloc ?_ _)|(with_reducible refine Kd.C_drewN ?_ _)|(with_reducible refine Kd.C_drew ?_))):p:=h
theorem zq111 {p:Prop} (h:p:=by repeat (first|exact(Kd.R_reads' HO_7.out).2.2|(with_reducible refine Kd.C_alloc ?_ _)|(with_reducible refine Kd.C_drewN ?_ _)|(with_reducible refine Kd.C_drew ?_))):p:=h
theorem zq112 {p:Prop} (h:p:=by repeat (first|exact(Kd.R_reads' HO_8.out).2.2|(with_reducible refine Kd.C_alloc ?_ _)|(with_reducible refine Kd.C_drewN ?_ _)|(with_reducible refine Kd.C_drew ?_))):p:=h
theorem zq113 {p:Prop} (h:p:=by repeat (first|exact(Kd.R_reads' HO_9.out).2.2|(with_reducible refine Kd.C_alloc ?_ _)|(with_reducible refine Kd.C_drewN ?_ _)|(with_reducible refine Kd.C_drew ?_))):p:=h
theorem zq114 {p:Prop} (h:p:=by(with_reducible repeat (first|apply Kd.R_alloc|apply Kd.R_drewN|apply Kd.R_drew));exact HOf.out):p:=h
theorem zq115 {p:Prop} (h:p:=by(with_reducible repeat (first|refine blk_drewN ?_ _|refine blk_drew ?_|refine blk_alloc ?_ _));exact BK316.out):p:=h
theorem zq116 {p:Prop} (h:p:=by(with_reducible repeat (first|refine blk_drewN ?_ _|refine blk_drew ?_|refine blk_alloc ?_ _));exact BK312.out):p:=h
theorem zq117 {p:Prop} (h:p:=by(with_reducible repeat (first|refine blk_drewN ?_ _|refine blk_drew ?_|refine blk_alloc ?_ _));exact BK9.out):p:=h
theorem zq118 {p:Prop} (h:p:=by rw[bL_length];omega):p:=h
theorem zq119 {p:Prop} (h:p:=by(with_reducible repeat (first|apply Kd.R_alloc|apply Kd.R_drewN|apply Kd.R_drew));exact HO447.out):p:=h
theorem zq120 {p:Prop} (h:p:=by(with_reducible repeat (first|apply Kd.R_alloc|apply Kd.R_drewN|apply Kd.R_drew));exact HO522.out):p:=h
theorem zq121 {p:Prop} (h:p:=by simpa using heap_alloc_new wr (.cells #[.int .u8 (bI (by_ L (i - 4))),.int .u8 (bI (by_ L (i - 3))),.int .u8 (bI (by_ L (i - 2))),.int .u8 (bI (by_ L (i - 1)))] 75)):p:=h
theorem zq122 {p:Prop} (h:p:=by(with_reducible repeat (first|refine blk_drewN ?_ _|refine blk_drew ?_|refine blk_alloc ?_ _));exact BK320.out):p:=h
theorem zq123 {p:Prop} (h:p:=by(with_reducible repeat (first|refine blk_drewN ?_ _|refine blk_drew ?_|refine blk_alloc ?_ _));exact BK11.out):p:=h
theorem zq124 {p:Prop} (h:p:=by repeat (first|(with_reducible first|exact HB.out|apply below_alloc|apply pw_below_drewN|apply below_drew1|refine below_set ?_ GE318.out|refine below_set ?_ GE319.out|refine below_set ?_ GE320.out)|exact HB.out)):p:=h
theorem zq125 {p:Prop} (h:p:=by(with_reducible repeat (first|refine blk_drewN ?_ _|refine blk_drew ?_|refine blk_alloc ?_ _));refine blk_put (cs:=#[.int .i64 2,.slice none 0 0]) ?_ 1 _ rfl;(with_reducible repeat (first|refine blk_drewN ?_ _|refine blk_drew ?_|refine blk_alloc ?_ _));refine blk_put (cs:=#[.int .i64 0,.slice none 0 0]) ?_ 0 _ rfl;(with_reducible repeat (first|refine blk_drewN ?_ _|refine blk_drew ?_|refine blk_alloc ?_ _));exact BK511.out):p:=h
theorem zq126 {p:Prop} (h:p:=by have:=hcb.out;have:=hR.out;have:=hi4.out;omega):p:=h
theorem zq127 {p:Prop} (h:p:=by repeat (first|exact(iz5 HO548.out).2.2|(with_reducible refine Kd.C_alloc ?_ _)|(with_reducible refine Kd.C_drewN ?_ _)|(with_reducible refine Kd.C_drew ?_))):p:=h
theorem zq128 {p:Prop} (h:p:=by repeat (first|exact(iz5 HO550.out).2.2|(with_reducible refine Kd.C_alloc ?_ _)|(with_reducible refine Kd.C_drewN ?_ _)|(with_reducible refine Kd.C_drew ?_))):p:=h
theorem zq129 {p:Prop} (h:p:=by repeat (first|exact(iz5 HO552.out).2.2|(with_reducible refine Kd.C_alloc ?_ _)|(with_reducible refine Kd.C_drewN ?_ _)|(with_reducible refine Kd.C_drew ?_))):p:=h
theorem zq130 {p:Prop} (h:p:=by repeat (first|exact(iz5 HO554.out).2.2|(with_reducible refine Kd.C_alloc ?_ _)|(with_reducible refine Kd.C_drewN ?_ _)|(with_reducible refine Kd.C_drew ?_))):p:=h
theorem zq131 {p:Prop} (h:p:=by repeat (first|exact(iz5 HO565.out).2.2|(with_reducible refine Kd.C_alloc ?_ _)|(with_reducible refine Kd.C_drewN ?_ _)|(with_reducible refine Kd.C_drew ?_))):p:=h
theorem zq132 {p:Prop} (h:p:=by repeat (first|exact(iz5 HO567.out).2.2|(with_reducible refine Kd.C_alloc ?_ _)|(with_reducible refine Kd.C_drewN ?_ _)|(with_reducible refine Kd.C_drew ?_))):p:=h
theorem zq133 {p:Prop} (h:p:=by repeat (first|exact(iz5 HO569.out).2.2|(with_reducible refine Kd.C_alloc ?_ _)|(with_reducible refine Kd.C_drewN ?_ _)|(with_reducible refine Kd.C_drew ?_))):p:=h
theorem zq134 {p:Prop} (h:p:=by repeat (first|exact(iz5 HO571.out).2.2|(with_reducible refine Kd.C_alloc ?_ _)|(with_reducible refine Kd.C_drewN ?_ _)|(with_reducible refine Kd.C_drew ?_))):p:=h
theorem zq135 {p:Prop} (h:p:=by(with_reducible repeat (first|apply Kd.R_alloc|apply Kd.R_drewN|apply Kd.R_drew));exact HO465.out):p:=h
theorem zq136 {p:Prop} (h:p:=by(with_reducible repeat (first|apply Kd.R_alloc|apply Kd.R_drewN|apply Kd.R_drew));exact HOh.out):p:=h
theorem zq137 {p:Prop} (h:p:=by repeat (first|(with_reducible first|exact HBW.out|apply below_alloc|apply pw_below_drewN|apply below_drew1)|exact HBW.out)):p:=h
theorem zq138 {p:Prop} (h:p:=by rfl):p:=h
theorem zq139 {p:Prop} (h:p:=by repeat (first|(with_reducible first|exact HB.out|apply below_alloc|apply pw_below_drewN|apply below_drew1|refine below_set ?_ GE312.out|refine below_set ?_ GE313.out)|exact HB.out)):p:=h
theorem zq140 {p:Prop} (h:p:=by repeat (first|(with_reducible first|exact HB.out|apply below_alloc|apply pw_below_drewN|apply below_drew1|refine below_set ?_ GE318.out|refine below_set ?_ GE319.out)|exact HB.out)):p:=h
theorem zq141 {p:Prop} (h:p:=by(with_reducible repeat (first|refine blk_drewN ?_ _|refine blk_drew ?_|refine blk_alloc ?_ _));refine blk_far ?_ NB318_321.out _;(with_reducible repeat (first|refine blk_drewN ?_ _|refine blk_drew ?_|refine blk_alloc ?_ _));refine blk_far ?_ NB318_321.out _;(with_reducible repeat (first|refine blk_drewN ?_ _|refine blk_drew ?_|refine blk_alloc ?_ _));exact BK318.out):p:=h
theorem zq142 {p:Prop} (h:p:=by(with_reducible repeat (first|refine blk_drewN ?_ _|refine blk_drew ?_|refine blk_alloc ?_ _));refine blk_far ?_ NB319_321.out _;(with_reducible repeat (first|refine blk_drewN ?_ _|refine blk_drew ?_|refine blk_alloc ?_ _));refine blk_far ?_ NB319_321.out _;(with_reducible repeat (first|refine blk_drewN ?_ _|refine blk_drew ?_|refine blk_alloc ?_ _));exact BK319.out):p:=h
theorem zq143 {p:Prop} (h:p:=by(with_reducible repeat (first|refine blk_drewN ?_ _|refine blk_drew ?_|refine blk_alloc ?_ _));refine blk_far ?_ NB320_321.out _;(with_reducible repeat (first|refine blk_drewN ?_ _|refine blk_drew ?_|refine blk_alloc ?_ _));refine blk_far ?_ NB320_321.out _;(with_reducible repeat (first|refine blk_drewN ?_ _|refine blk_drew ?_|refine blk_alloc ?_ _));exact BK320.out):p:=h
theorem zq144 {p:Prop} (h:p:=by(with_reducible repeat (first|apply az5|apply bz5|apply cz5));exact HO580.out):p:=h
theorem zq145 {p:Prop} (h:p:=by(with_reducible repeat (first|refine blk_drewN ?_ _|refine blk_drew ?_|refine blk_alloc ?_ _));refine blk_far ?_ NB319_318.out _;(with_reducible repeat (first|refine blk_drewN ?_ _|refine blk_drew ?_|refine blk_alloc ?_ _));refine blk_far ?_ NB319_318.out _;(with_reducible repeat (first|refine blk_drewN ?_ _|refine blk_drew ?_|refine blk_alloc ?_ _));exact BK319.out):p:=h
theorem zq146 {p:Prop} (h:p:=by(with_reducible repeat (first|refine blk_drewN ?_ _|refine blk_drew ?_|refine blk_alloc ?_ _));refine blk_far ?_ NB320_318.out _;(with_reducible repeat (first|refine blk_drewN ?_ _|refine blk_drew ?_|refine blk_alloc ?_ _));refine blk_far ?_ NB320_318.out _;(with_reducible repeat (first|refine blk_drewN ?_ _|refine blk_drew ?_|refine blk_alloc ?_ _));exact BK320.out):p:=h
theorem zq147 {p:Prop} (h:p:=by(with_reducible repeat (first|refine blk_drewN ?_ _|refine blk_drew ?_|refine blk_alloc ?_ _));refine blk_far ?_ NB321_318.out _;(with_reducible repeat (first|refine blk_drewN ?_ _|refine blk_drew ?_|refine blk_alloc ?_ _));refine blk_far ?_ NB321_318.out _;(with_reducible repeat (first|refine blk_drewN ?_ _|refine blk_drew ?_|refine blk_alloc ?_ _));exact BK321.out):p:=h
theorem zq148 {p:Prop} (h:p:=by have h_:=Kd.C_string (P:=Try.prog) (A:=A23) (c:=(c3 - (ji7).toNat)) Try.underlying22 Try.underlying5 Try.underlying9 (Kd.C_below HR523.out HB.out);rw[List.length_drop] at h_;exact h_):p:=h
theorem zq149 {p:Prop} (h:p:=by have h_:=Kd.C_string (P:=Try.prog) (A:=A39) (c:=(c3 - (ji7).toNat)) Try.underlying22 Try.underlying5 Try.underlying9 (Kd.C_below HR523.out HB.out);rw[List.length_drop] at h_;exact h_):p:=h
theorem zq150 {p:Prop} (h:p:=by first|(rw[add_block];exact hn102_0)|(show (Addr.add _ _).block≠_;rw[add_block];exact hn102_0)|exact hn102_0):p:=h
theorem zq151 {p:Prop} (h:p:=by rw[P176_length];omega):p:=h
theorem zq152 {p:Prop} (h:p:=by(with_reducible repeat (first|refine blk_drewN ?_ _|refine blk_drew ?_|refine blk_alloc ?_ _));exact BK511.out):p:=h
theorem zq153 {p:Prop} (h:p:=by have:=HK1.out;omega):p:=h
theorem zq154 {p:Prop} (h:p:=by repeat (first|(with_reducible first|exact HB.out|apply below_alloc|apply pw_below_drewN|apply below_drew1|refine below_set ?_ GE312.out)|exact HB.out)):p:=h
theorem zq155 {p:Prop} (h:p:=by repeat (first|(with_reducible first|exact HB.out|apply below_alloc|apply pw_below_drewN|apply below_drew1|refine below_set ?_ GE318.out)|exact HB.out)):p:=h
theorem zq156 {p:Prop} (h:p:=by(with_reducible repeat (first|apply az5|apply bz5|apply cz5));exact(gz5 (ez5 (p:=⟨go77,((ji73):Int).toNat,none⟩) (gz5 HO_577001.out (fun k_ hk=>(⟨hk,fun e_=>hk.2 (by rw[e_];rfl)⟩:_∧k_≠go77))) (fun _ hk=>hk.2) (.int .u8 (Go.bits .xor .u8 (rd y603 (ji73)) ((wrap64 (1+t608)) % 256)))) (fun _ h_=>h_.1))):p:=h
theorem zq157 {p:Prop} (h:p:=by(with_reducible repeat (first|apply az5|apply bz5|apply cz5));exact(gz5 (ez5 (p:=⟨go77,((ji73):Int).toNat,none⟩) (gz5 HO_6.out (fun k_ hk=>(⟨hk,fun e_=>hk.2 (by rw[e_];rfl)⟩:_∧k_≠go77))) (fun _ hk=>hk.2) (.int .u8 (Go.bits .xor .u8 (rd y603 (ji73)) ((wrap64 (1+t608)) % 256)))) (fun _ h_=>h_.1))):p:=h
theorem zq158 {p:Prop} (h:p:=by(with_reducible repeat (first|apply Kd.R_alloc|apply Kd.R_drewN|apply Kd.R_drew));exact HO450.out):p:=h
theorem zq159 {p:Prop} (h:p:=by(with_reducible repeat (first|apply Kd.R_alloc|apply Kd.R_drewN|apply Kd.R_drew));exact HO526.out):p:=h
theorem zq160 {p:Prop} (h:p:=by(with_reducible repeat (first|apply Kd.R_alloc|apply Kd.R_drewN|apply Kd.R_drew));exact HO273.out):p:=h
theorem zq161 {p:Prop} (h:p:=by(with_reducible repeat (first|apply Kd.R_alloc|apply Kd.R_drewN|apply Kd.R_drew));exact HO292.out):p:=h
theorem zq162 {p:Prop} (h:p:=by(with_reducible repeat (first|apply Kd.R_alloc|apply Kd.R_drewN|apply Kd.R_drew));exact HO297.out):p:=h
theorem zq163 {p:Prop} (h:p:=by(with_reducible repeat (first|apply Kd.R_alloc|apply Kd.R_drewN|apply Kd.R_drew));exact HO483.out):p:=h
theorem zq164 {p:Prop} (h:p:=by(with_reducible repeat (first|apply Kd.R_alloc|apply Kd.R_drewN|apply Kd.R_drew));exact HO485.out):p:=h
theorem zq165 {p:Prop} (h:p:=by(with_reducible repeat (first|apply Kd.R_alloc|apply Kd.R_drewN|apply Kd.R_drew));exact HO487.out):p:=h
theorem zq166 {p:Prop} (h:p:=by(with_reducible repeat (first|apply Kd.R_alloc|apply Kd.R_drewN|apply Kd.R_drew));exact HO489.out):p:=h
theorem zq167 {p:Prop} (h:p:=by repeat (first|exact(Kd.C_below HR3.out HB.out)|(with_reducible refine Kd.C_alloc ?_ _)|(with_reducible refine Kd.C_drewN ?_ _)|(with_reducible refine Kd.C_drew ?_))):p:=h
theorem zq168 {p:Prop} (h:p:=by repeat (first|exact(Kd.R_reads' HO518.out).2.2|(with_reducible refine Kd.C_alloc ?_ _)|(with_reducible refine Kd.C_drewN ?_ _)|(with_reducible refine Kd.C_drew ?_))):p:=h
theorem zq169 {p:Prop} (h:p:=by rw[P176_length];have:=hi4.out;omega):p:=h
theorem zq170 {p:Prop} (h:p:=by repeat (first|exact(iz5 HO_3.out).2.2|(with_reducible refine Kd.C_alloc ?_ _)|(with_reducible refine Kd.C_drewN ?_ _)|(with_reducible refine Kd.C_drew ?_))):p:=h
theorem zq171 {p:Prop} (h:p:=by repeat (first|exact(iz5 HO_4.out).2.2|(with_reducible refine Kd.C_alloc ?_ _)|(with_reducible refine Kd.C_drewN ?_ _)|(with_reducible refine Kd.C_drew ?_))):p:=h
theorem zq172 {p:Prop} (h:p:=by repeat (first|exact(iz5 HO_5.out).2.2|(with_reducible refine Kd.C_alloc ?_ _)|(with_reducible refine Kd.C_drewN ?_ _)|(with_reducible refine Kd.C_drew ?_))):p:=h
theorem zq173 {p:Prop} (h:p:=by have:=hi4.out;omega):p:=h
theorem zq174 {p:Prop} (h:p:=by first|(rw[add_block];exact Kd.own_blk (IsS73.own_ne HI477.out HO492.out zq22))|(show (Addr.add _ _).block≠_;rw[add_block];exact Kd.own_blk (IsS73.own_ne HI477.out HO492.out zq22))|exact Kd.own_blk (IsS73.own_ne HI477.out HO492.out zq22)):p:=h
theorem zq175 {p:Prop} (h:p:=by repeat (first|exact HR0.out|(with_reducible refine Kd.C_alloc ?_ _)|(with_reducible refine Kd.C_drewN ?_ _)|(with_reducible refine Kd.C_drew ?_))):p:=h
theorem zq176 {p:Prop} (h:p:=by first|omega|exact Nat.le_refl _):p:=h
theorem zq177 {p:Prop} (h:p:=by(with_reducible repeat (first|refine blk_drewN ?_ _|refine blk_drew ?_|refine blk_alloc ?_ _));exact BK313.out):p:=h
theorem zq178 {p:Prop} (h:p:=by(with_reducible repeat (first|apply az5|apply bz5|apply cz5));exact HO605.out):p:=h
theorem zq179 {p:Prop} (h:p:=by(with_reducible repeat (first|apply az5|apply bz5|apply cz5));exact HO613.out):p:=h
theorem zq180 {p:Prop} (h:p:=by(with_reducible repeat (first|refine blk_drewN ?_ _|refine blk_drew ?_|refine blk_alloc ?_ _));exact BK321.out):p:=h
theorem zq181 {p:Prop} (h:p:=by first|rfl|(simp;done)|(simp[*];done)):p:=h
theorem zq182 {p:Prop} (h:p:=by repeat (first|(with_reducible first|exact HB.out|apply below_alloc|apply pw_below_drewN|apply below_drew1|refine below_set ?_ GE315.out|refine below_set ?_ GE316.out|refine below_set ?_ GE317.out)|exact HB.out)):p:=h
theorem zq183 {p:Prop} (h:p:=by(with_reducible repeat (first|apply Kd.V_alloc|apply Kd.V_drewN|apply Kd.V_drew));exact HO_1.out):p:=h
theorem zq184 {p:Prop} (h:p:=by rw[show newW L i 0=[] from rfl,List.append_nil];exact BK3.out):p:=h
theorem zq185 {p:Prop} (h:p:=by have:=HK1.out;have:=HK2.out;omega):p:=h
theorem zq186 {p:Prop} (h:p:=by rw[bI_xor,cB_set];exact congrArg cB (P176_set L i k hL.out hk4.out hi4.out)):p:=h
theorem zq187 {p:Prop} (h:p:=by first|rfl|(simp[errW_none,errW_some] <;> rfl)|(simp only[← hji7];first|rfl|(simp[errW_none,errW_some] <;> rfl))|(simp[*,errW_none,errW_some] <;> rfl)):p:=h
theorem zq188 {p:Prop} (h:p:=by repeat(first|(with_reducible first|exact HB.out|apply by5|apply ay5|apply cy5|refine dy5 ?_ GB77.out|refine dy5 ?_ GE559.out|refine dy5 ?_ GE576.out)|exact HB.out)):p:=h
theorem zq189 {p:Prop} (h:p:=by rw[List.length_append,List.length_singleton];omega):p:=h
theorem zq190 {p:Prop} (h:p:=by first|exact Kd.C_below HR.out zq0|exact(Kd.C_below HR.out HB.out)):p:=h
theorem zq191 {p:Prop} (h:p:=by(with_reducible repeat (first|apply Kd.R_alloc|apply Kd.R_drewN|apply Kd.R_drew));exact Kd.R_mono HO_7.out (fun _ hk=>⟨hk.1.1,⟨hk.1.2.1,zq2⟩⟩)):p:=h
theorem zq192 {p:Prop} (h:p:=by(with_reducible repeat (first|apply Kd.R_alloc|apply Kd.R_drewN|apply Kd.R_drew));exact Kd.R_mono HO_8.out (fun _ hk=>⟨hk.1.1,⟨hk.1.2.1,zq2⟩⟩)):p:=h
theorem zq193 {p:Prop} (h:p:=by(with_reducible repeat (first|apply Kd.R_alloc|apply Kd.R_drewN|apply Kd.R_drew));exact Kd.R_mono HO_9.out (fun _ hk=>⟨hk.1.1,⟨hk.1.2.1,zq2⟩⟩)):p:=h
theorem zq194 {p:Prop} (h:p:=by simp[Value.oneCell']):p:=h
theorem zq195 {p:Prop} (h:p:=by rw[blk_cell BK1.out,cB_get _ _ (by rw[List.length_set,hx.out];exact hi16.out),set_get _ _ _ _ (by rw[hx.out];exact hi16.out),if_pos rfl,bI_succ]):p:=h
theorem zq196 {p:Prop} (h:p:=by rw[keyTo_succ,hLE.out,← hin.out];exact BK3.out):p:=h
theorem zq197 {p:Prop} (h:p:=by rw[List.length_take];omega):p:=h
theorem zq198 {p:Prop} (h:p:=by repeat (first|exact(Kd.C_below HR519.out HB.out)|(with_reducible refine Kd.C_alloc ?_ _)|(with_reducible refine Kd.C_drewN ?_ _)|(with_reducible refine Kd.C_drew ?_))):p:=h
theorem zq199 {p:Prop} (h:p:=by repeat (first|exact(Kd.R_reads' HO459.out).2.2|(with_reducible refine Kd.C_alloc ?_ _)|(with_reducible refine Kd.C_drewN ?_ _)|(with_reducible refine Kd.C_drew ?_))):p:=h
theorem zq200 {p:Prop} (h:p:=by repeat (first|exact(Kd.V_reads' HO_1.out).2.2|(with_reducible refine Kd.C_alloc ?_ _)|(with_reducible refine Kd.C_drewN ?_ _)|(with_reducible refine Kd.C_drew ?_))):p:=h
theorem zq201 {p:Prop} (h:p:=by rw[fillL_length];exact hl):p:=h
theorem zq202 {p:Prop} (h:p:=by first|(with_reducible assumption)|assumption):p:=h
theorem zq203 {p:Prop} (h:p:=by rw[streamL_length];omega):p:=h
theorem zq204 {p:Prop} (h:p:=by(with_reducible repeat (first|apply Kd.R_alloc|apply Kd.R_drewN|apply Kd.R_drew));exact Kd.R_mono HO_7.out (fun _ hk=>hk.1.1)):p:=h
theorem zq205 {p:Prop} (h:p:=by first|(rw[add_block];exact hn103_0)|(show (Addr.add _ _).block≠_;rw[add_block];exact hn103_0)|exact hn103_0):p:=h
theorem zq206 {p:Prop} (h:p:=by(with_reducible repeat (first|refine blk_drewN ?_ _|refine blk_drew ?_|refine blk_alloc ?_ _));exact BK534.out):p:=h
theorem zq207 {p:Prop} (h:p:=by rw[cB_size,tab_length];rfl):p:=h
