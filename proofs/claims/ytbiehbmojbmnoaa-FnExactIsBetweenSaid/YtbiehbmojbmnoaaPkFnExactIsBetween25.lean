/- Joined texts: Qx42, Qx43, Qx44, SeqCoreW, SeqIsM, SeqStarM, SeqPointM, MidPts, MidVote, MidSame, MidScan, MidMove, MidLoop, MidTop, MidCode, MidThree, PureFnExactIsBetween -/
import Derived.Test.YtbiehbmojbmnoaaPkFnExactIsBetween22
import Derived.Test.YtbiehbmojbmnoaaPkFnExactIsBetween24
import Derived.Test.YtbiehbmojbmnoaaPkFnExactIsBetween23
import Derived.Lib.IndexLaws
section
namespace Go.Proofs.Ytbiehbmojbmnoaa.Q
open Go.Proofs.YtbiehbmojbmnoaaW.Ext
open Go.RowKit Go.Proofs.YtbiehbmojbmnoaaW.PrintWords Go.Proofs.YtbiehbmojbmnoaaW.PrintLast Go.Proofs.YtbiehbmojbmnoaaW.PrintMore
attribute [local go_sem] max2_int min2_int max_two min_two max_three min_three max_four min_four   -- for this text's walks alone
set_option linter.unusedVariables false
set_option linter.unusedSimpArgs false
def impl_MiddleOf.f (k:Nat) (a0_0:ByteArray) (a0_1:ByteArray) (a1_0:ByteArray) (a1_1:ByteArray) (a2_0:ByteArray) (a2_1:ByteArray) (a3_0:ByteArray) (a3_1:ByteArray):Option (ByteArray × ByteArray × Int):=(impl_differentCode.f k a0_0 a0_1 a1_0 a1_1 a2_0 a2_1 a3_0 a3_1).bind fun t248=>(if t248 = 0 then ((impl_Sequence_middle.f k a0_0 a0_1 a1_0 a1_1 a2_0 a2_1 a3_0 a3_1).bind fun bt249=>(some (bt249.1,bt249.2.1,bt249.2.2))) else (some ((⟨#[]⟩:ByteArray),(⟨#[]⟩:ByteArray),t248)))
theorem impl_MiddleOf.mono:∀ a0 a1 a2 a3 a4 a5 a6 a7 k,LeO (impl_MiddleOf.f k a0 a1 a2 a3 a4 a5 a6 a7) (impl_MiddleOf.f (k + 1) a0 a1 a2 a3 a4 a5 a6 a7):=by
 intro a0 a1 a2 a3 a4 a5 a6 a7 k
 unfold impl_MiddleOf.f
 repeat' first
   | (with_reducible exact impl_Sequence_middle.mono _ _ _ _ _ _ _ _ _)
   | (with_reducible exact impl_differentCode.mono _ _ _ _ _ _ _ _ _)
   | (with_reducible exact LeO.refl _)
   | (with_reducible exact LeO.none _)
   | (with_reducible refine LeO.ite ?_ ?_)
   | (with_reducible refine LeO.bind ?_ (fun _=>?_))
   | exact impl_Sequence_middle.mono _ _ _ _ _ _ _ _ _
   | exact impl_differentCode.mono _ _ _ _ _ _ _ _ _
   | exact LeO.none _
   | refine LeO.ite ?_ ?_
   | refine LeO.bind ?_ (fun _=>?_)
set_option maxHeartbeats 8000000 in
set_option maxRecDepth 100000 in
theorem impl_MiddleOf.calls (k:Nat) (a0_0:ByteArray) (a0_1:ByteArray) (a1_0:ByteArray) (a1_1:ByteArray) (a2_0:ByteArray) (a2_1:ByteArray) (a3_0:ByteArray) (a3_1:ByteArray) (r1:ByteArray) (r2:ByteArray) (r3:Int) (w:World) (h:impl_MiddleOf.f k a0_0 a0_1 a1_0 a1_1 a2_0 a2_1 a3_0 a3_1 = some (r1,r2,r3)) :
  Calls Try.prog 10 #[.agg #[.string a0_0,.string a0_1],.agg #[.string a1_0,.string a1_1],.agg #[.string a2_0,.string a2_1],.agg #[.string a3_0,.string a3_1]] w fun e w'=>e = .returned (.tuple #[.agg #[.string r1,.string r2],.int .i64 r3]) ∧ Below w.heap.size w w':=by
 have hu27:=Try.underlying27
 have hu37:=Try.underlying37
 have HB:=aM (Below.refl w.heap.size w)
 have H:((impl_differentCode.f k a0_0 a0_1 a1_0 a1_1 a2_0 a2_1 a3_0 a3_1).bind fun t248=>(if t248 = 0 then ((impl_Sequence_middle.f k a0_0 a0_1 a1_0 a1_1 a2_0 a2_1 a3_0 a3_1).bind fun bt249=>(some (bt249.1,bt249.2.1,bt249.2.2))) else (some ((⟨#[]⟩:ByteArray),(⟨#[]⟩:ByteArray),t248)))) = some (r1,r2,r3):=h
 clear h
 replace H:=Option.bind_eq_some_iff.mp H
 obtain ⟨t248,A50,H⟩:=H
 replace H:(if t248 = 0 then ((impl_Sequence_middle.f k a0_0 a0_1 a1_0 a1_1 a2_0 a2_1 a3_0 a3_1).bind fun bt249=>(some (bt249.1,bt249.2.1,bt249.2.2))) else (some ((⟨#[]⟩:ByteArray),(⟨#[]⟩:ByteArray),t248))) = some (r1,r2,r3):=H;have A5:=aM A50
 clear A50
 by_cases c6:t248 = 0
 ·rw [if_pos c6] at H
  have c6b0:(t248 == 0) = true:=beq_iff_eq.mpr c6
  have c6b1:(t248 != 0) = false:=bne_eq_false_iff_eq.mpr c6
  clear c6
  replace H:=Option.bind_eq_some_iff.mp H
  obtain ⟨⟨t249,t250,t251⟩,A70,H⟩:=H
  replace H:(some (t249,t250,t251)) = some (r1,r2,r3):=H;have A7:=aM A70
  clear A70
  simp only [Option.some.injEq,Prod.mk.injEq] at H
  obtain ⟨rfl,rfl,rfl⟩:=H
  go_enter Try.func10,Try.ntmps10
  go_wp2_with (first|((with_reducible refine gate_dst (N:=4) rfl ?_);refine box_event ?hg (N:=4) ?hd (cs:=#[.string a0_0,.string a0_1]) (t:=27) ?hr ?_;(case hd=>rfl);(case hg=>rfl);(case hr=>first|(go_simp;done)|(go_simp;rfl));intro gb242 hg w8 hbox hb;have BK242:=aM (hbox);have GW242:=wl hg HB;have GE242:=wl hg HB;replace HB:=bs HB hb;clear hb hbox hg)|((with_reducible refine gate_dst (N:=5) rfl ?_);refine box_event ?hg (N:=5) ?hd (cs:=#[.string a1_0,.string a1_1]) (t:=27) ?hr ?_;(case hd=>rfl);(case hg=>rfl);(case hr=>first|(go_simp;done)|(go_simp;rfl));intro gb243 hg w9 hbox hb;have BK243:=aM (hbox);have GW243:=aM ((by rw [hg];exact (below_size (by first|exact bb HB|exact bg HB GE242)):w.heap.size ≤ gb243));have GE243:=aM ((by rw [hg];exact (below_size (by first|exact bb HB|exact bg HB GE242)):w.heap.size ≤ gb243));have NB242_243:=nl hg BK242;have NB243_242:=nr hg BK242;replace BK242:=kb BK242 hb;replace HB:=aM (below_step (by first|exact bb HB|exact bg HB GE242) hb);clear hb hbox hg)|((with_reducible refine gate_dst (N:=6) rfl ?_);refine box_event ?hg (N:=6) ?hd (cs:=#[.string a2_0,.string a2_1]) (t:=27) ?hr ?_;(case hd=>rfl);(case hg=>rfl);(case hr=>first|(go_simp;done)|(go_simp;rfl));intro gb244 hg w10 hbox hb;have BK244:=aM (hbox);have GW244:=aM ((by rw [hg];exact (below_size (by first|exact bb HB|exact bg HB GE242|exact bg HB GE243)):w.heap.size ≤ gb244));have GE244:=aM ((by rw [hg];exact (below_size (by first|exact bb HB|exact bg HB GE242|exact bg HB GE243)):w.heap.size ≤ gb244));have NB242_244:=nl hg BK242;have NB244_242:=nr hg BK242;have NB243_244:=nl hg BK243;have NB244_243:=nr hg BK243;replace BK242:=kb BK242 hb;replace BK243:=kb BK243 hb;replace HB:=aM (below_step (by first|exact bb HB|exact bg HB GE242|exact bg HB GE243) hb);clear hb hbox hg)|((with_reducible refine gate_dst (N:=7) rfl ?_);refine box_event ?hg (N:=7) ?hd (cs:=#[.string a3_0,.string a3_1]) (t:=27) ?hr ?_;(case hd=>rfl);(case hg=>rfl);(case hr=>first|(go_simp;done)|(go_simp;rfl));intro gb245 hg w11 hbox hb;have BK245:=aM (hbox);have GW245:=aM ((by rw [hg];exact (below_size (by first|exact bb HB|exact bg HB GE242|exact bg HB GE243|exact bg HB GE244)):w.heap.size ≤ gb245));have GE245:=aM ((by rw [hg];exact (below_size (by first|exact bb HB|exact bg HB GE242|exact bg HB GE243|exact bg HB GE244)):w.heap.size ≤ gb245));have NB242_245:=nl hg BK242;have NB245_242:=nr hg BK242;have NB243_245:=nl hg BK243;have NB245_243:=nr hg BK243;have NB244_245:=nl hg BK244;have NB245_244:=nr hg BK244;replace BK242:=kb BK242 hb;replace BK243:=kb BK243 hb;replace BK244:=kb BK244 hb;replace HB:=aM (below_step (by first|exact bb HB|exact bg HB GE242|exact bg HB GE243|exact bg HB GE244) hb);clear hb hbox hg)|((with_reducible refine gate_dst (N:=8) rfl ?_);refine box_event ?hg (N:=8) ?hd (cs:=#[.string ⟨#[]⟩,.string ⟨#[]⟩]) (t:=27) ?hr ?_;(case hd=>rfl);(case hg=>rfl);(case hr=>first|(go_simp;done)|(go_simp;rfl));intro gb246 hg w12 hbox hb;have BK246:=aM (hbox);have GW246:=aM ((by rw [hg];exact (below_size (by first|exact bb HB|exact bg HB GE242|exact bg HB GE243|exact bg HB GE244|exact bg HB GE245)):w.heap.size ≤ gb246));have GE246:=aM ((by rw [hg];exact (below_size (by first|exact bb HB|exact bg HB GE242|exact bg HB GE243|exact bg HB GE244|exact bg HB GE245)):w.heap.size ≤ gb246));have NB242_246:=nl hg BK242;have NB246_242:=nr hg BK242;have NB243_246:=nl hg BK243;have NB246_243:=nr hg BK243;have NB244_246:=nl hg BK244;have NB246_244:=nr hg BK244;have NB245_246:=nl hg BK245;have NB246_245:=nr hg BK245;replace BK242:=kb BK242 hb;replace BK243:=kb BK243 hb;replace BK244:=kb BK244 hb;replace BK245:=kb BK245 hb;replace HB:=aM (below_step (by first|exact bb HB|exact bg HB GE242|exact bg HB GE243|exact bg HB GE244|exact bg HB GE245) hb);clear hb hbox hg;have hnb13:=NB243_242.out;have hnc13:=NB242_243.out;have hnb14:=NB243_244.out;have hnc14:=NB244_243.out;have hnb15:=NB243_245.out;have hnc15:=NB245_243.out;have hnb16:=NB243_246.out;have hnc16:=NB246_243.out;have⟨a0,a1,b0,b1⟩:=q2f BK243;have hnb18:=NB244_242.out;have hnc18:=NB242_244.out;have hnb19:=NB244_245.out;have hnc19:=NB245_244.out;have hnb20:=NB244_246.out;have hnc20:=NB246_244.out;have⟨a0,a1,b0,b1⟩:=q2f BK244;have hnb22:=NB245_242.out;have hnc22:=NB242_245.out;have hnb23:=NB245_246.out;have hnc23:=NB246_245.out;have⟨a0,a1,b0,b1⟩:=q2f BK245)|((with_reducible refine gate_dst (N:=10) rfl ?_);refine box_event ?hg (N:=10) ?hd (cs:=#[.string ⟨#[]⟩,.string ⟨#[]⟩,.string ⟨#[]⟩,.string ⟨#[]⟩,.string ⟨#[]⟩,.string ⟨#[]⟩]) (t:=37) ?hr ?_;(case hd=>rfl);(case hg=>rfl);(case hr=>first|(go_simp;done)|(go_simp;rfl));intro gb247 hg w25 hbox hb;have BK247:=aM (hbox);have GW247:=aM ((by rw [hg];exact (below_size (by first|exact bb HB|exact bg HB GE242|exact bg HB GE243|exact bg HB GE244|exact bg HB GE245|exact bg HB GE246)):w.heap.size ≤ gb247));have GE247:=aM ((by rw [hg];exact (below_size (by first|exact bb HB|exact bg HB GE242|exact bg HB GE243|exact bg HB GE244|exact bg HB GE245|exact bg HB GE246)):w.heap.size ≤ gb247));have NB242_247:=nl hg BK242;have NB247_242:=nr hg BK242;have NB243_247:=nl hg BK243;have NB247_243:=nr hg BK243;have NB244_247:=nl hg BK244;have NB247_244:=nr hg BK244;have NB245_247:=nl hg BK245;have NB247_245:=nr hg BK245;have NB246_247:=nl hg BK246;have NB247_246:=nr hg BK246;replace BK242:=kb BK242 hb;replace BK243:=kb BK243 hb;replace BK244:=kb BK244 hb;replace BK245:=kb BK245 hb;replace BK246:=kb BK246 hb;replace HB:=aM (below_step (by first|exact bb HB|exact bg HB GE242|exact bg HB GE243|exact bg HB GE244|exact bg HB GE245|exact bg HB GE246) hb);clear hb hbox hg;have hnb26:=NB247_242.out;have hnc26:=NB242_247.out;have hnb27:=NB247_243.out;have hnc27:=NB243_247.out;have hnb28:=NB247_244.out;have hnc28:=NB244_247.out;have hnb29:=NB247_245.out;have hnc29:=NB245_247.out;have hnb30:=NB247_246.out;have hnc30:=NB246_247.out;have⟨a0,a1,a2,a3,a4,a5,b0,b1,b2,b3,b4,b5⟩:=q6f BK247;have hnb32:=NB242_246.out;have hnc32:=NB246_242.out;have⟨a0,a1,b0,b1⟩:=q2f BK242)|((with_reducible refine gate_callee (f:=14) rfl ?_);refine goesL_ (some 18) rfl rfl Try.func14 (by kernel_rfl) rfl #[.agg #[.string a0_0,.string a0_1],.agg #[.string a1_0,.string a1_1,.string a2_0,.string a2_1,.string a3_0,.string a3_1]] rfl (by (try simp only [sM,sC,sN]);first|done|rfl|(simp only [List.length_drop,List.length_take];rfl)) ?_;(with_reducible refine (impl_differentCode.calls k a0_0 a0_1 a1_0 a1_1 a2_0 a2_1 a3_0 a3_1 t248 _ A5.out).mono ?_);rintro e w34 ⟨rfl,hb⟩;refine ⟨_,rfl,?_⟩;replace BK242:=kf BK242 NB242_247 hb;replace BK243:=kf BK243 NB243_247 hb;replace BK244:=kf BK244 NB244_247 hb;replace BK245:=kf BK245 NB245_247 hb;replace BK246:=kf BK246 NB246_247 hb;replace BK247:=aM (blk_below (g:=gb247) (o:=.cells #[.string a1_0,.string a1_1,.string a2_0,.string a2_1,.string a3_0,.string a3_1] 37 (0,0)) (by (with_reducible repeat (first|apply yN|apply yD|apply yA));refine blk_put (cs:=#[.string a1_0,.string a1_1,.string a2_0,.string a2_1,.string a3_0,.string ⟨#[]⟩]) ?_ 5 _ rfl;(with_reducible repeat (first|apply yN|apply yD|apply yA));refine blk_put (cs:=#[.string a1_0,.string a1_1,.string a2_0,.string a2_1,.string ⟨#[]⟩,.string ⟨#[]⟩]) ?_ 4 _ rfl;(with_reducible repeat (first|apply yN|apply yD|apply yA));refine blk_put (cs:=#[.string a1_0,.string a1_1,.string a2_0,.string ⟨#[]⟩,.string ⟨#[]⟩,.string ⟨#[]⟩]) ?_ 3 _ rfl;(with_reducible repeat (first|apply yN|apply yD|apply yA));refine blk_put (cs:=#[.string a1_0,.string a1_1,.string ⟨#[]⟩,.string ⟨#[]⟩,.string ⟨#[]⟩,.string ⟨#[]⟩]) ?_ 2 _ rfl;(with_reducible repeat (first|apply yN|apply yD|apply yA));refine blk_put (cs:=#[.string a1_0,.string ⟨#[]⟩,.string ⟨#[]⟩,.string ⟨#[]⟩,.string ⟨#[]⟩,.string ⟨#[]⟩]) ?_ 1 _ rfl;(with_reducible repeat (first|apply yN|apply yD|apply yA));refine blk_put (cs:=#[.string ⟨#[]⟩,.string ⟨#[]⟩,.string ⟨#[]⟩,.string ⟨#[]⟩,.string ⟨#[]⟩,.string ⟨#[]⟩]) ?_ 0 _ rfl;(with_reducible repeat (first|apply yN|apply yD|apply yA));exact BK247.out) hb);replace HB:=aM (below_step (by first|exact bb HB|exact bg HB GE242|exact bg HB GE243|exact bg HB GE244|exact bg HB GE245|exact bg HB GE246|exact bg HB GE247) hb);(try clear hb);have⟨a0,a1,b0,b1⟩:=q2f BK242;have⟨a0,a1,a2,a3,a4,a5,b0,b1,b2,b3,b4,b5⟩:=q6f BK247)|((with_reducible refine gate_callee (f:=15) rfl ?_);refine goesL_ (some 25) rfl rfl Try.func15 (by kernel_rfl) rfl #[.agg #[.string a0_0,.string a0_1],.agg #[.string a1_0,.string a1_1,.string a2_0,.string a2_1,.string a3_0,.string a3_1]] rfl (by (try simp only [sM,sC,sN]);first|done|rfl|(simp only [List.length_drop,List.length_take];rfl)) ?_;(with_reducible refine (impl_Sequence_middle.calls k a0_0 a0_1 a1_0 a1_1 a2_0 a2_1 a3_0 a3_1 t249 t250 t251 _ A7.out).mono ?_);rintro e w37 ⟨rfl,hb⟩;refine ⟨_,rfl,?_⟩;replace BK242:=kb BK242 hb;replace BK243:=kb BK243 hb;replace BK244:=kb BK244 hb;replace BK245:=kb BK245 hb;replace BK246:=kb BK246 hb;replace BK247:=kb BK247 hb;replace HB:=aM (below_step (by first|exact bb HB|exact bg HB GE242|exact bg HB GE243|exact bg HB GE244|exact bg HB GE245|exact bg HB GE246|exact bg HB GE247) hb);(try clear hb);have⟨a0,a1,b0,b1⟩:=q2f BK246))
  refine bodyPost_ret (results_ct rfl _ _ gb246 27 #[.string t249,.string t250] (0,0) _ rfl (by (with_reducible repeat (first|apply yN|apply yD|apply yA));refine blk_put (cs:=#[.string t249,.string ⟨#[]⟩]) ?_ 1 _ rfl;(with_reducible repeat (first|apply yN|apply yD|apply yA));refine blk_put (cs:=#[.string ⟨#[]⟩,.string ⟨#[]⟩]) ?_ 0 _ rfl;(with_reducible repeat (first|apply yN|apply yD|apply yA));exact BK246.out) Try.underlying27 rfl (by kernel_rfl)) rfl ?_
  exact ⟨by first|rfl|(simp [errW_none,errW_some] <;> rfl)|(simp [*,errW_none,errW_some] <;> rfl),by first|exact bb HB|exact bg HB GE242|exact bg HB GE243|exact bg HB GE244|exact bg HB GE245|exact bg HB GE246|exact bg HB GE247⟩
 ·rw [if_neg c6] at H
  have c6b0:(t248 == 0) = false:=beq_eq_false_iff_ne.mpr c6
  have c6b1:(t248 != 0) = true:=bne_iff_ne.mpr c6
  simp only [Option.some.injEq,Prod.mk.injEq] at H
  obtain ⟨rfl,rfl,rfl⟩:=H
  go_enter Try.func10,Try.ntmps10
  go_wp2_with (first|((with_reducible refine gate_dst (N:=4) rfl ?_);refine box_event ?hg (N:=4) ?hd (cs:=#[.string a0_0,.string a0_1]) (t:=27) ?hr ?_;(case hd=>rfl);(case hg=>rfl);(case hr=>first|(go_simp;done)|(go_simp;rfl));intro gb242 hg w39 hbox hb;have BK242:=aM (hbox);have GW242:=wl hg HB;have GE242:=wl hg HB;replace HB:=bs HB hb;clear hb hbox hg)|((with_reducible refine gate_dst (N:=5) rfl ?_);refine box_event ?hg (N:=5) ?hd (cs:=#[.string a1_0,.string a1_1]) (t:=27) ?hr ?_;(case hd=>rfl);(case hg=>rfl);(case hr=>first|(go_simp;done)|(go_simp;rfl));intro gb243 hg w40 hbox hb;have BK243:=aM (hbox);have GW243:=aM ((by rw [hg];exact (below_size (by first|exact bb HB|exact bg HB GE242)):w.heap.size ≤ gb243));have GE243:=aM ((by rw [hg];exact (below_size (by first|exact bb HB|exact bg HB GE242)):w.heap.size ≤ gb243));have NB242_243:=nl hg BK242;have NB243_242:=nr hg BK242;replace BK242:=kb BK242 hb;replace HB:=aM (below_step (by first|exact bb HB|exact bg HB GE242) hb);clear hb hbox hg)|((with_reducible refine gate_dst (N:=6) rfl ?_);refine box_event ?hg (N:=6) ?hd (cs:=#[.string a2_0,.string a2_1]) (t:=27) ?hr ?_;(case hd=>rfl);(case hg=>rfl);(case hr=>first|(go_simp;done)|(go_simp;rfl));intro gb244 hg w41 hbox hb;have BK244:=aM (hbox);have GW244:=aM ((by rw [hg];exact (below_size (by first|exact bb HB|exact bg HB GE242|exact bg HB GE243)):w.heap.size ≤ gb244));have GE244:=aM ((by rw [hg];exact (below_size (by first|exact bb HB|exact bg HB GE242|exact bg HB GE243)):w.heap.size ≤ gb244));have NB242_244:=nl hg BK242;have NB244_242:=nr hg BK242;have NB243_244:=nl hg BK243;have NB244_243:=nr hg BK243;replace BK242:=kb BK242 hb;replace BK243:=kb BK243 hb;replace HB:=aM (below_step (by first|exact bb HB|exact bg HB GE242|exact bg HB GE243) hb);clear hb hbox hg)|((with_reducible refine gate_dst (N:=7) rfl ?_);refine box_event ?hg (N:=7) ?hd (cs:=#[.string a3_0,.string a3_1]) (t:=27) ?hr ?_;(case hd=>rfl);(case hg=>rfl);(case hr=>first|(go_simp;done)|(go_simp;rfl));intro gb245 hg w42 hbox hb;have BK245:=aM (hbox);have GW245:=aM ((by rw [hg];exact (below_size (by first|exact bb HB|exact bg HB GE242|exact bg HB GE243|exact bg HB GE244)):w.heap.size ≤ gb245));have GE245:=aM ((by rw [hg];exact (below_size (by first|exact bb HB|exact bg HB GE242|exact bg HB GE243|exact bg HB GE244)):w.heap.size ≤ gb245));have NB242_245:=nl hg BK242;have NB245_242:=nr hg BK242;have NB243_245:=nl hg BK243;have NB245_243:=nr hg BK243;have NB244_245:=nl hg BK244;have NB245_244:=nr hg BK244;replace BK242:=kb BK242 hb;replace BK243:=kb BK243 hb;replace BK244:=kb BK244 hb;replace HB:=aM (below_step (by first|exact bb HB|exact bg HB GE242|exact bg HB GE243|exact bg HB GE244) hb);clear hb hbox hg)|((with_reducible refine gate_dst (N:=8) rfl ?_);refine box_event ?hg (N:=8) ?hd (cs:=#[.string ⟨#[]⟩,.string ⟨#[]⟩]) (t:=27) ?hr ?_;(case hd=>rfl);(case hg=>rfl);(case hr=>first|(go_simp;done)|(go_simp;rfl));intro gb246 hg w43 hbox hb;have BK246:=aM (hbox);have GW246:=aM ((by rw [hg];exact (below_size (by first|exact bb HB|exact bg HB GE242|exact bg HB GE243|exact bg HB GE244|exact bg HB GE245)):w.heap.size ≤ gb246));have GE246:=aM ((by rw [hg];exact (below_size (by first|exact bb HB|exact bg HB GE242|exact bg HB GE243|exact bg HB GE244|exact bg HB GE245)):w.heap.size ≤ gb246));have NB242_246:=nl hg BK242;have NB246_242:=nr hg BK242;have NB243_246:=nl hg BK243;have NB246_243:=nr hg BK243;have NB244_246:=nl hg BK244;have NB246_244:=nr hg BK244;have NB245_246:=nl hg BK245;have NB246_245:=nr hg BK245;replace BK242:=kb BK242 hb;replace BK243:=kb BK243 hb;replace BK244:=kb BK244 hb;replace BK245:=kb BK245 hb;replace HB:=aM (below_step (by first|exact bb HB|exact bg HB GE242|exact bg HB GE243|exact bg HB GE244|exact bg HB GE245) hb);clear hb hbox hg;have hnb44:=NB243_242.out;have hnc44:=NB242_243.out;have hnb45:=NB243_244.out;have hnc45:=NB244_243.out;have hnb46:=NB243_245.out;have hnc46:=NB245_243.out;have hnb47:=NB243_246.out;have hnc47:=NB246_243.out;have⟨a0,a1,b0,b1⟩:=q2f BK243;have hnb49:=NB244_242.out;have hnc49:=NB242_244.out;have hnb50:=NB244_245.out;have hnc50:=NB245_244.out;have hnb51:=NB244_246.out;have hnc51:=NB246_244.out;have⟨a0,a1,b0,b1⟩:=q2f BK244;have hnb53:=NB245_242.out;have hnc53:=NB242_245.out;have hnb54:=NB245_246.out;have hnc54:=NB246_245.out;have⟨a0,a1,b0,b1⟩:=q2f BK245)|((with_reducible refine gate_dst (N:=10) rfl ?_);refine box_event ?hg (N:=10) ?hd (cs:=#[.string ⟨#[]⟩,.string ⟨#[]⟩,.string ⟨#[]⟩,.string ⟨#[]⟩,.string ⟨#[]⟩,.string ⟨#[]⟩]) (t:=37) ?hr ?_;(case hd=>rfl);(case hg=>rfl);(case hr=>first|(go_simp;done)|(go_simp;rfl));intro gb247 hg w56 hbox hb;have BK247:=aM (hbox);have GW247:=aM ((by rw [hg];exact (below_size (by first|exact bb HB|exact bg HB GE242|exact bg HB GE243|exact bg HB GE244|exact bg HB GE245|exact bg HB GE246)):w.heap.size ≤ gb247));have GE247:=aM ((by rw [hg];exact (below_size (by first|exact bb HB|exact bg HB GE242|exact bg HB GE243|exact bg HB GE244|exact bg HB GE245|exact bg HB GE246)):w.heap.size ≤ gb247));have NB242_247:=nl hg BK242;have NB247_242:=nr hg BK242;have NB243_247:=nl hg BK243;have NB247_243:=nr hg BK243;have NB244_247:=nl hg BK244;have NB247_244:=nr hg BK244;have NB245_247:=nl hg BK245;have NB247_245:=nr hg BK245;have NB246_247:=nl hg BK246;have NB247_246:=nr hg BK246;replace BK242:=kb BK242 hb;replace BK243:=kb BK243 hb;replace BK244:=kb BK244 hb;replace BK245:=kb BK245 hb;replace BK246:=kb BK246 hb;replace HB:=aM (below_step (by first|exact bb HB|exact bg HB GE242|exact bg HB GE243|exact bg HB GE244|exact bg HB GE245|exact bg HB GE246) hb);clear hb hbox hg;have hnb57:=NB247_242.out;have hnc57:=NB242_247.out;have hnb58:=NB247_243.out;have hnc58:=NB243_247.out;have hnb59:=NB247_244.out;have hnc59:=NB244_247.out;have hnb60:=NB247_245.out;have hnc60:=NB245_247.out;have hnb61:=NB247_246.out;have hnc61:=NB246_247.out;have⟨a0,a1,a2,a3,a4,a5,b0,b1,b2,b3,b4,b5⟩:=q6f BK247;have hnb63:=NB242_246.out;have hnc63:=NB246_242.out;have⟨a0,a1,b0,b1⟩:=q2f BK242)|((with_reducible refine gate_callee (f:=14) rfl ?_);refine goesL_ (some 18) rfl rfl Try.func14 (by kernel_rfl) rfl #[.agg #[.string a0_0,.string a0_1],.agg #[.string a1_0,.string a1_1,.string a2_0,.string a2_1,.string a3_0,.string a3_1]] rfl (by (try simp only [sM,sC,sN]);first|done|rfl|(simp only [List.length_drop,List.length_take];rfl)) ?_;(with_reducible refine (impl_differentCode.calls k a0_0 a0_1 a1_0 a1_1 a2_0 a2_1 a3_0 a3_1 t248 _ A5.out).mono ?_);rintro e w65 ⟨rfl,hb⟩;refine ⟨_,rfl,?_⟩;replace BK242:=kf BK242 NB242_247 hb;replace BK243:=kf BK243 NB243_247 hb;replace BK244:=kf BK244 NB244_247 hb;replace BK245:=kf BK245 NB245_247 hb;replace BK246:=kf BK246 NB246_247 hb;replace BK247:=aM (blk_below (g:=gb247) (o:=.cells #[.string a1_0,.string a1_1,.string a2_0,.string a2_1,.string a3_0,.string a3_1] 37 (0,0)) (by (with_reducible repeat (first|apply yN|apply yD|apply yA));refine blk_put (cs:=#[.string a1_0,.string a1_1,.string a2_0,.string a2_1,.string a3_0,.string ⟨#[]⟩]) ?_ 5 _ rfl;(with_reducible repeat (first|apply yN|apply yD|apply yA));refine blk_put (cs:=#[.string a1_0,.string a1_1,.string a2_0,.string a2_1,.string ⟨#[]⟩,.string ⟨#[]⟩]) ?_ 4 _ rfl;(with_reducible repeat (first|apply yN|apply yD|apply yA));refine blk_put (cs:=#[.string a1_0,.string a1_1,.string a2_0,.string ⟨#[]⟩,.string ⟨#[]⟩,.string ⟨#[]⟩]) ?_ 3 _ rfl;(with_reducible repeat (first|apply yN|apply yD|apply yA));refine blk_put (cs:=#[.string a1_0,.string a1_1,.string ⟨#[]⟩,.string ⟨#[]⟩,.string ⟨#[]⟩,.string ⟨#[]⟩]) ?_ 2 _ rfl;(with_reducible repeat (first|apply yN|apply yD|apply yA));refine blk_put (cs:=#[.string a1_0,.string ⟨#[]⟩,.string ⟨#[]⟩,.string ⟨#[]⟩,.string ⟨#[]⟩,.string ⟨#[]⟩]) ?_ 1 _ rfl;(with_reducible repeat (first|apply yN|apply yD|apply yA));refine blk_put (cs:=#[.string ⟨#[]⟩,.string ⟨#[]⟩,.string ⟨#[]⟩,.string ⟨#[]⟩,.string ⟨#[]⟩,.string ⟨#[]⟩]) ?_ 0 _ rfl;(with_reducible repeat (first|apply yN|apply yD|apply yA));exact BK247.out) hb);replace HB:=aM (below_step (by first|exact bb HB|exact bg HB GE242|exact bg HB GE243|exact bg HB GE244|exact bg HB GE245|exact bg HB GE246|exact bg HB GE247) hb);(try clear hb);have⟨a0,a1,b0,b1⟩:=q2f BK246))
  refine bodyPost_ret (results_ct rfl _ _ gb246 27 #[.string ⟨#[]⟩,.string ⟨#[]⟩] (0,0) _ rfl (by (with_reducible repeat (first|apply yN|apply yD|apply yA));refine blk_put (cs:=#[.string ⟨#[]⟩,.string ⟨#[]⟩]) ?_ 1 _ rfl;(with_reducible repeat (first|apply yN|apply yD|apply yA));refine blk_put (cs:=#[.string ⟨#[]⟩,.string ⟨#[]⟩]) ?_ 0 _ rfl;(with_reducible repeat (first|apply yN|apply yD|apply yA));exact BK246.out) Try.underlying27 rfl (by kernel_rfl)) rfl ?_
  exact ⟨by first|rfl|(simp [errW_none,errW_some] <;> rfl)|(simp [*,errW_none,errW_some] <;> rfl),by first|exact bb HB|exact bg HB GE242|exact bg HB GE243|exact bg HB GE244|exact bg HB GE245|exact bg HB GE246|exact bg HB GE247⟩
end Go.Proofs.Ytbiehbmojbmnoaa.Q
end
section
namespace Go.Proofs.Ytbiehbmojbmnoaa.Q
open Go.Proofs.YtbiehbmojbmnoaaW.Ext
open Go.RowKit Go.Proofs.YtbiehbmojbmnoaaW.PrintWords Go.Proofs.YtbiehbmojbmnoaaW.PrintLast Go.Proofs.YtbiehbmojbmnoaaW.PrintMore
attribute [local go_sem] max2_int min2_int max_two min_two max_three min_three max_four min_four   -- for this text's walks alone
set_option linter.unusedVariables false
set_option linter.unusedSimpArgs false
attribute [local go_sem high] eqA27
def impl_IsBetween.f (k:Nat) (a0_0:ByteArray) (a0_1:ByteArray) (a1_0:ByteArray) (a1_1:ByteArray) (a2_0:ByteArray) (a2_1:ByteArray) (a3_0:ByteArray) (a3_1:ByteArray):Option (Bool × Int):=(impl_MiddleOf.f k a0_0 a0_1 a1_0 a1_1 a2_0 a2_1 a3_0 a3_1).bind fun bt256=>(if bt256.2.2 = 0 then (some ((bt256.1.toList == a2_0.toList && (bt256.2.1.toList == a2_1.toList)),bt256.2.2)) else (some (false,bt256.2.2)))
theorem impl_IsBetween.mono:∀ a0 a1 a2 a3 a4 a5 a6 a7 k,LeO (impl_IsBetween.f k a0 a1 a2 a3 a4 a5 a6 a7) (impl_IsBetween.f (k + 1) a0 a1 a2 a3 a4 a5 a6 a7):=by
 intro a0 a1 a2 a3 a4 a5 a6 a7 k
 unfold impl_IsBetween.f
 repeat' first
   | (with_reducible exact impl_MiddleOf.mono _ _ _ _ _ _ _ _ _)
   | (with_reducible exact LeO.refl _)
   | (with_reducible exact LeO.none _)
   | (with_reducible refine LeO.ite ?_ ?_)
   | (with_reducible refine LeO.bind ?_ (fun _=>?_))
   | exact impl_MiddleOf.mono _ _ _ _ _ _ _ _ _
   | exact LeO.none _
   | refine LeO.ite ?_ ?_
   | refine LeO.bind ?_ (fun _=>?_)
set_option maxHeartbeats 8000000 in
set_option maxRecDepth 100000 in
theorem impl_IsBetween.calls (k:Nat) (a0_0:ByteArray) (a0_1:ByteArray) (a1_0:ByteArray) (a1_1:ByteArray) (a2_0:ByteArray) (a2_1:ByteArray) (a3_0:ByteArray) (a3_1:ByteArray) (r1:Bool) (r2:Int) (w:World) (h:impl_IsBetween.f k a0_0 a0_1 a1_0 a1_1 a2_0 a2_1 a3_0 a3_1 = some (r1,r2)) :
  Calls Try.prog 8 #[.agg #[.string a0_0,.string a0_1],.agg #[.string a1_0,.string a1_1],.agg #[.string a2_0,.string a2_1],.agg #[.string a3_0,.string a3_1]] w fun e w'=>e = .returned (.tuple #[.bool r1,.int .i64 r2]) ∧ Below w.heap.size w w':=by
 have hu27:=Try.underlying27
 have HB:=aM (Below.refl w.heap.size w)
 have H:((impl_MiddleOf.f k a0_0 a0_1 a1_0 a1_1 a2_0 a2_1 a3_0 a3_1).bind fun bt256=>(if bt256.2.2 = 0 then (some ((bt256.1.toList == a2_0.toList && (bt256.2.1.toList == a2_1.toList)),bt256.2.2)) else (some (false,bt256.2.2)))) = some (r1,r2):=h
 clear h
 replace H:=Option.bind_eq_some_iff.mp H
 obtain ⟨⟨t256,t257,t258⟩,A50,H⟩:=H
 replace H:(if t258 = 0 then (some ((t256.toList == a2_0.toList && (t257.toList == a2_1.toList)),t258)) else (some (false,t258))) = some (r1,r2):=H;have A5:=aM A50
 clear A50
 by_cases c6:t258 = 0
 ·rw [if_pos c6] at H
  have c6b0:(t258 == 0) = true:=beq_iff_eq.mpr c6
  have c6b1:(t258 != 0) = false:=bne_eq_false_iff_eq.mpr c6
  clear c6
  simp only [Option.some.injEq,Prod.mk.injEq] at H
  obtain ⟨rfl,rfl⟩:=H
  go_enter Try.func8,Try.ntmps8
  go_wp2_with (first|((with_reducible refine gate_dst (N:=4) rfl ?_);refine box_event ?hg (N:=4) ?hd (cs:=#[.string a0_0,.string a0_1]) (t:=27) ?hr ?_;(case hd=>rfl);(case hg=>rfl);(case hr=>first|(go_simp;done)|(go_simp;rfl));intro gb252 hg w7 hbox hb;have BK252:=aM (hbox);have GW252:=wl hg HB;have GE252:=wl hg HB;replace HB:=bs HB hb;clear hb hbox hg)|((with_reducible refine gate_dst (N:=5) rfl ?_);refine box_event ?hg (N:=5) ?hd (cs:=#[.string a1_0,.string a1_1]) (t:=27) ?hr ?_;(case hd=>rfl);(case hg=>rfl);(case hr=>first|(go_simp;done)|(go_simp;rfl));intro gb253 hg w8 hbox hb;have BK253:=aM (hbox);have GW253:=wl hg HB;have GE253:=wl hg HB;have NB252_253:=nl hg BK252;have NB253_252:=nr hg BK252;replace BK252:=kb BK252 hb;replace HB:=bs HB hb;clear hb hbox hg)|((with_reducible refine gate_dst (N:=6) rfl ?_);refine box_event ?hg (N:=6) ?hd (cs:=#[.string a2_0,.string a2_1]) (t:=27) ?hr ?_;(case hd=>rfl);(case hg=>rfl);(case hr=>first|(go_simp;done)|(go_simp;rfl));intro gb254 hg w9 hbox hb;have BK254:=aM (hbox);have GW254:=wl hg HB;have GE254:=wl hg HB;have NB252_254:=nl hg BK252;have NB254_252:=nr hg BK252;have NB253_254:=nl hg BK253;have NB254_253:=nr hg BK253;replace BK252:=kb BK252 hb;replace BK253:=kb BK253 hb;replace HB:=bs HB hb;clear hb hbox hg)|((with_reducible refine gate_dst (N:=7) rfl ?_);refine box_event ?hg (N:=7) ?hd (cs:=#[.string a3_0,.string a3_1]) (t:=27) ?hr ?_;(case hd=>rfl);(case hg=>rfl);(case hr=>first|(go_simp;done)|(go_simp;rfl));intro gb255 hg w10 hbox hb;have BK255:=aM (hbox);have GW255:=wl hg HB;have GE255:=wl hg HB;have NB252_255:=nl hg BK252;have NB255_252:=nr hg BK252;have NB253_255:=nl hg BK253;have NB255_253:=nr hg BK253;have NB254_255:=nl hg BK254;have NB255_254:=nr hg BK254;replace BK252:=kb BK252 hb;replace BK253:=kb BK253 hb;replace BK254:=kb BK254 hb;replace HB:=bs HB hb;clear hb hbox hg;have hnb11:=NB252_253.out;have hnc11:=NB253_252.out;have hnb12:=NB252_254.out;have hnc12:=NB254_252.out;have hnb13:=NB252_255.out;have hnc13:=NB255_252.out;have⟨a0,a1,b0,b1⟩:=q2f BK252;have hnb15:=NB253_254.out;have hnc15:=NB254_253.out;have hnb16:=NB253_255.out;have hnc16:=NB255_253.out;have⟨a0,a1,b0,b1⟩:=q2f BK253;have hnb18:=NB254_255.out;have hnc18:=NB255_254.out;have⟨a0,a1,b0,b1⟩:=q2f BK254;have⟨a0,a1,b0,b1⟩:=q2f BK255)|((with_reducible refine gate_callee (f:=10) rfl ?_);refine goesL_ (some 17) rfl rfl Try.func10 (by kernel_rfl) rfl #[.agg #[.string a0_0,.string a0_1],.agg #[.string a1_0,.string a1_1],.agg #[.string a2_0,.string a2_1],.agg #[.string a3_0,.string a3_1]] rfl (by (try simp only [sM,sC,sN]);first|done|rfl|(simp only [List.length_drop,List.length_take];rfl)) ?_;(with_reducible refine (impl_MiddleOf.calls k a0_0 a0_1 a1_0 a1_1 a2_0 a2_1 a3_0 a3_1 t256 t257 t258 _ A5.out).mono ?_);rintro e w21 ⟨rfl,hb⟩;refine ⟨_,rfl,?_⟩;replace BK252:=kb BK252 hb;replace BK253:=kb BK253 hb;replace BK254:=kb BK254 hb;replace BK255:=kb BK255 hb;replace HB:=bs HB hb;(try clear hb))|((with_reducible refine gate_dst (N:=10) rfl ?_);refine box_event ?hg (N:=10) ?hd (cs:=#[.string ⟨#[]⟩,.string ⟨#[]⟩]) (t:=27) ?hr ?_;(case hd=>rfl);(case hg=>rfl);(case hr=>first|(go_simp;done)|(go_simp;rfl));intro gb259 hg w22 hbox hb;have BK259:=aM (hbox);have GW259:=wl hg HB;have GE259:=wl hg HB;have NB252_259:=nl hg BK252;have NB259_252:=nr hg BK252;have NB253_259:=nl hg BK253;have NB259_253:=nr hg BK253;have NB254_259:=nl hg BK254;have NB259_254:=nr hg BK254;have NB255_259:=nl hg BK255;have NB259_255:=nr hg BK255;replace BK252:=kb BK252 hb;replace BK253:=kb BK253 hb;replace BK254:=kb BK254 hb;replace BK255:=kb BK255 hb;replace HB:=bs HB hb;clear hb hbox hg;have hnb23:=NB259_252.out;have hnc23:=NB252_259.out;have hnb24:=NB259_253.out;have hnc24:=NB253_259.out;have hnb25:=NB259_254.out;have hnc25:=NB254_259.out;have hnb26:=NB259_255.out;have hnc26:=NB255_259.out;have⟨a0,a1,b0,b1⟩:=q2f BK259;have⟨a0,a1,b0,b1⟩:=q2f BK254))
  go_ret2
  exact ⟨by first|rfl|(simp [errW_none,errW_some] <;> rfl)|(simp [*,errW_none,errW_some] <;> rfl),by first|exact bb HB|exact bg HB GE252|exact bg HB GE253|exact bg HB GE254|exact bg HB GE255|exact bg HB GE259⟩
 ·rw [if_neg c6] at H
  have c6b0:(t258 == 0) = false:=beq_eq_false_iff_ne.mpr c6
  have c6b1:(t258 != 0) = true:=bne_iff_ne.mpr c6
  simp only [Option.some.injEq,Prod.mk.injEq] at H
  obtain ⟨rfl,rfl⟩:=H
  go_enter Try.func8,Try.ntmps8
  go_wp2_with (first|((with_reducible refine gate_dst (N:=4) rfl ?_);refine box_event ?hg (N:=4) ?hd (cs:=#[.string a0_0,.string a0_1]) (t:=27) ?hr ?_;(case hd=>rfl);(case hg=>rfl);(case hr=>first|(go_simp;done)|(go_simp;rfl));intro gb252 hg w29 hbox hb;have BK252:=aM (hbox);have GW252:=wl hg HB;have GE252:=wl hg HB;replace HB:=bs HB hb;clear hb hbox hg)|((with_reducible refine gate_dst (N:=5) rfl ?_);refine box_event ?hg (N:=5) ?hd (cs:=#[.string a1_0,.string a1_1]) (t:=27) ?hr ?_;(case hd=>rfl);(case hg=>rfl);(case hr=>first|(go_simp;done)|(go_simp;rfl));intro gb253 hg w30 hbox hb;have BK253:=aM (hbox);have GW253:=wl hg HB;have GE253:=wl hg HB;have NB252_253:=nl hg BK252;have NB253_252:=nr hg BK252;replace BK252:=kb BK252 hb;replace HB:=bs HB hb;clear hb hbox hg)|((with_reducible refine gate_dst (N:=6) rfl ?_);refine box_event ?hg (N:=6) ?hd (cs:=#[.string a2_0,.string a2_1]) (t:=27) ?hr ?_;(case hd=>rfl);(case hg=>rfl);(case hr=>first|(go_simp;done)|(go_simp;rfl));intro gb254 hg w31 hbox hb;have BK254:=aM (hbox);have GW254:=wl hg HB;have GE254:=wl hg HB;have NB252_254:=nl hg BK252;have NB254_252:=nr hg BK252;have NB253_254:=nl hg BK253;have NB254_253:=nr hg BK253;replace BK252:=kb BK252 hb;replace BK253:=kb BK253 hb;replace HB:=bs HB hb;clear hb hbox hg)|((with_reducible refine gate_dst (N:=7) rfl ?_);refine box_event ?hg (N:=7) ?hd (cs:=#[.string a3_0,.string a3_1]) (t:=27) ?hr ?_;(case hd=>rfl);(case hg=>rfl);(case hr=>first|(go_simp;done)|(go_simp;rfl));intro gb255 hg w32 hbox hb;have BK255:=aM (hbox);have GW255:=wl hg HB;have GE255:=wl hg HB;have NB252_255:=nl hg BK252;have NB255_252:=nr hg BK252;have NB253_255:=nl hg BK253;have NB255_253:=nr hg BK253;have NB254_255:=nl hg BK254;have NB255_254:=nr hg BK254;replace BK252:=kb BK252 hb;replace BK253:=kb BK253 hb;replace BK254:=kb BK254 hb;replace HB:=bs HB hb;clear hb hbox hg;have hnb33:=NB252_253.out;have hnc33:=NB253_252.out;have hnb34:=NB252_254.out;have hnc34:=NB254_252.out;have hnb35:=NB252_255.out;have hnc35:=NB255_252.out;have⟨a0,a1,b0,b1⟩:=q2f BK252;have hnb37:=NB253_254.out;have hnc37:=NB254_253.out;have hnb38:=NB253_255.out;have hnc38:=NB255_253.out;have⟨a0,a1,b0,b1⟩:=q2f BK253;have hnb40:=NB254_255.out;have hnc40:=NB255_254.out;have⟨a0,a1,b0,b1⟩:=q2f BK254;have⟨a0,a1,b0,b1⟩:=q2f BK255)|((with_reducible refine gate_callee (f:=10) rfl ?_);refine goesL_ (some 17) rfl rfl Try.func10 (by kernel_rfl) rfl #[.agg #[.string a0_0,.string a0_1],.agg #[.string a1_0,.string a1_1],.agg #[.string a2_0,.string a2_1],.agg #[.string a3_0,.string a3_1]] rfl (by (try simp only [sM,sC,sN]);first|done|rfl|(simp only [List.length_drop,List.length_take];rfl)) ?_;(with_reducible refine (impl_MiddleOf.calls k a0_0 a0_1 a1_0 a1_1 a2_0 a2_1 a3_0 a3_1 t256 t257 t258 _ A5.out).mono ?_);rintro e w43 ⟨rfl,hb⟩;refine ⟨_,rfl,?_⟩;replace BK252:=kb BK252 hb;replace BK253:=kb BK253 hb;replace BK254:=kb BK254 hb;replace BK255:=kb BK255 hb;replace HB:=bs HB hb;(try clear hb))|((with_reducible refine gate_dst (N:=10) rfl ?_);refine box_event ?hg (N:=10) ?hd (cs:=#[.string ⟨#[]⟩,.string ⟨#[]⟩]) (t:=27) ?hr ?_;(case hd=>rfl);(case hg=>rfl);(case hr=>first|(go_simp;done)|(go_simp;rfl));intro gb259 hg w44 hbox hb;have BK259:=aM (hbox);have GW259:=wl hg HB;have GE259:=wl hg HB;have NB252_259:=nl hg BK252;have NB259_252:=nr hg BK252;have NB253_259:=nl hg BK253;have NB259_253:=nr hg BK253;have NB254_259:=nl hg BK254;have NB259_254:=nr hg BK254;have NB255_259:=nl hg BK255;have NB259_255:=nr hg BK255;replace BK252:=kb BK252 hb;replace BK253:=kb BK253 hb;replace BK254:=kb BK254 hb;replace BK255:=kb BK255 hb;replace HB:=bs HB hb;clear hb hbox hg;have hnb45:=NB259_252.out;have hnc45:=NB252_259.out;have hnb46:=NB259_253.out;have hnc46:=NB253_259.out;have hnb47:=NB259_254.out;have hnc47:=NB254_259.out;have hnb48:=NB259_255.out;have hnc48:=NB255_259.out;have⟨a0,a1,b0,b1⟩:=q2f BK259))
  go_ret2
  exact ⟨by first|rfl|(simp [errW_none,errW_some] <;> rfl)|(simp [*,errW_none,errW_some] <;> rfl),by first|exact bb HB|exact bg HB GE252|exact bg HB GE253|exact bg HB GE254|exact bg HB GE255|exact bg HB GE259⟩
end Go.Proofs.Ytbiehbmojbmnoaa.Q
end
section
namespace Go.Proofs.Ytbiehbmojbmnoaa.Q
open Go.Proofs.YtbiehbmojbmnoaaW.Ext
open Go.RowKit Go.Proofs.YtbiehbmojbmnoaaW.PrintWords Go.Proofs.YtbiehbmojbmnoaaW.PrintLast Go.Proofs.YtbiehbmojbmnoaaW.PrintMore
attribute [local go_sem] max2_int min2_int max_two min_two max_three min_three max_four min_four   -- for this text's walks alone
set_option linter.unusedVariables false
set_option linter.unusedSimpArgs false
def laws_FnExactIsBetween.f (k:Nat) (a0_0:ByteArray) (a0_1:ByteArray) (a1_0:ByteArray) (a1_1:ByteArray) (a2_0:ByteArray) (a2_1:ByteArray) (a3_0:ByteArray) (a3_1:ByteArray):Option (Bool):=(laws_szSequence.f a0_0 a0_1 1048576).bind fun t264=>(if t264 < 0 then (some true) else ((laws_szSequence.f a1_0 a1_1 t264).bind fun t265=>(if t265 < 0 then (some true) else ((laws_szSequence.f a2_0 a2_1 t265).bind fun t266=>(if t266 < 0 then (some true) else ((laws_szSequence.f a3_0 a3_1 t266).bind fun t267=>(if t267 < 0 then (some true) else ((laws_toSequence.f a0_0 a0_1).bind fun bt268=>((laws_toSequence.f a1_0 a1_1).bind fun bt270=>((laws_toSequence.f a2_0 a2_1).bind fun bt272=>((laws_toSequence.f a3_0 a3_1).bind fun bt274=>((spec_IsBetween.f k bt268.1 bt268.2 bt270.1 bt270.2 bt272.1 bt272.2 bt274.1 bt274.2).bind fun bt276=>((laws_toSequence.f a0_0 a0_1).bind fun bt278=>((laws_toSequence.f a1_0 a1_1).bind fun bt280=>((laws_toSequence.f a2_0 a2_1).bind fun bt282=>((laws_toSequence.f a3_0 a3_1).bind fun bt284=>((impl_IsBetween.f k bt278.1 bt278.2 bt280.1 bt280.2 bt282.1 bt282.2 bt284.1 bt284.2).bind fun bt286=>(if (bt286.1 != bt276.1) = true then (some false) else (if bt286.2 = bt276.2 then (some true) else (some false))))))))))))))))))))
theorem laws_FnExactIsBetween.mono:∀ a0 a1 a2 a3 a4 a5 a6 a7 k,LeO (laws_FnExactIsBetween.f k a0 a1 a2 a3 a4 a5 a6 a7) (laws_FnExactIsBetween.f (k + 1) a0 a1 a2 a3 a4 a5 a6 a7):=by
 intro a0 a1 a2 a3 a4 a5 a6 a7 k
 unfold laws_FnExactIsBetween.f
 repeat' first
   | (with_reducible exact impl_IsBetween.mono _ _ _ _ _ _ _ _ _)
   | (with_reducible exact spec_IsBetween.mono _ _ _ _ _ _ _ _ _)
   | (with_reducible exact LeO.refl _)
   | (with_reducible exact LeO.none _)
   | (with_reducible refine LeO.ite ?_ ?_)
   | (with_reducible refine LeO.bind ?_ (fun _=>?_))
   | exact impl_IsBetween.mono _ _ _ _ _ _ _ _ _
   | exact spec_IsBetween.mono _ _ _ _ _ _ _ _ _
   | exact LeO.none _
   | refine LeO.ite ?_ ?_
   | refine LeO.bind ?_ (fun _=>?_)
def laws_FnExactIsBetween.T14:Bool × List (List Nat × List Nat):=(true,[([],[]),([0],[0]),([],[]),([2,1],[2]),([],[]),([4,3],[4]),([],[]),([6,5],[6]),([1,3,5,7,7],[1,3,5,7]),([8],[8]),([9],[9]),([9],[9]),([10,8,0,1,2,3,4,5,6,7,8,9,10],[10]),([11,12,0,1,2,3,4,5,6,7,8,9,10,11,12],[11])])
def laws_FnExactIsBetween.B14:List Nat:=[0,1,0,7,0,31,0,127,255,511,1023,1023,2047,8191]
theorem laws_FnExactIsBetween.tab14:rtab .any (opsOf Try.f3 14) = laws_FnExactIsBetween.T14:=by kernel_rfl
theorem laws_FnExactIsBetween.bits14:waitsOk laws_FnExactIsBetween.T14.2 laws_FnExactIsBetween.B14 = true:=by kernel_rfl
def laws_FnExactIsBetween.T15:Bool × List (List Nat × List Nat):=(true,[([],[]),([0],[0]),([],[]),([2,1],[2]),([],[]),([4,3],[4]),([],[]),([6,5],[6]),([1,3,5,7,7],[1,3,5,7]),([8],[8]),([9],[9]),([9],[9]),([10,8,0,1,2,3,4,5,6,7,8,9,10],[10]),([11,12,0,1,2,3,4,5,6,7,8,9,10,11,12],[11])])
def laws_FnExactIsBetween.B15:List Nat:=[0,1,0,7,0,31,0,127,255,511,1023,1023,2047,8191]
theorem laws_FnExactIsBetween.tab15:rtab .any (opsOf Try.f3 15) = laws_FnExactIsBetween.T15:=by kernel_rfl
theorem laws_FnExactIsBetween.bits15:waitsOk laws_FnExactIsBetween.T15.2 laws_FnExactIsBetween.B15 = true:=by kernel_rfl
set_option maxHeartbeats 8000000 in
set_option maxRecDepth 100000 in
theorem laws_FnExactIsBetween.calls (k:Nat) (a0_0:ByteArray) (a0_1:ByteArray) (a1_0:ByteArray) (a1_1:ByteArray) (a2_0:ByteArray) (a2_1:ByteArray) (a3_0:ByteArray) (a3_1:ByteArray) (r_:Bool) (w:World) (h:laws_FnExactIsBetween.f k a0_0 a0_1 a1_0 a1_1 a2_0 a2_1 a3_0 a3_1 = some true) :
  Calls Try.prog 3 #[.agg #[.string a0_0,.string a0_1],.agg #[.string a1_0,.string a1_1],.agg #[.string a2_0,.string a2_1],.agg #[.string a3_0,.string a3_1]] w fun e w'=>e = .returned (.bool true) ∧ Below w.heap.size w w':=by
 have hu23:=Try.underlying23
 have HB:=aM (Below.refl w.heap.size w)
 have H:((laws_szSequence.f a0_0 a0_1 1048576).bind fun t264=>(if t264 < 0 then (some true) else ((laws_szSequence.f a1_0 a1_1 t264).bind fun t265=>(if t265 < 0 then (some true) else ((laws_szSequence.f a2_0 a2_1 t265).bind fun t266=>(if t266 < 0 then (some true) else ((laws_szSequence.f a3_0 a3_1 t266).bind fun t267=>(if t267 < 0 then (some true) else ((laws_toSequence.f a0_0 a0_1).bind fun bt268=>((laws_toSequence.f a1_0 a1_1).bind fun bt270=>((laws_toSequence.f a2_0 a2_1).bind fun bt272=>((laws_toSequence.f a3_0 a3_1).bind fun bt274=>((spec_IsBetween.f k bt268.1 bt268.2 bt270.1 bt270.2 bt272.1 bt272.2 bt274.1 bt274.2).bind fun bt276=>((laws_toSequence.f a0_0 a0_1).bind fun bt278=>((laws_toSequence.f a1_0 a1_1).bind fun bt280=>((laws_toSequence.f a2_0 a2_1).bind fun bt282=>((laws_toSequence.f a3_0 a3_1).bind fun bt284=>((impl_IsBetween.f k bt278.1 bt278.2 bt280.1 bt280.2 bt282.1 bt282.2 bt284.1 bt284.2).bind fun bt286=>(if (bt286.1 != bt276.1) = true then (some false) else (if bt286.2 = bt276.2 then (some true) else (some false))))))))))))))))))))) = some true:=h
 clear h
 replace H:=Option.bind_eq_some_iff.mp H
 obtain ⟨t264,A50,H⟩:=H
 replace H:(if t264 < 0 then (some true) else ((laws_szSequence.f a1_0 a1_1 t264).bind fun t265=>(if t265 < 0 then (some true) else ((laws_szSequence.f a2_0 a2_1 t265).bind fun t266=>(if t266 < 0 then (some true) else ((laws_szSequence.f a3_0 a3_1 t266).bind fun t267=>(if t267 < 0 then (some true) else ((laws_toSequence.f a0_0 a0_1).bind fun bt268=>((laws_toSequence.f a1_0 a1_1).bind fun bt270=>((laws_toSequence.f a2_0 a2_1).bind fun bt272=>((laws_toSequence.f a3_0 a3_1).bind fun bt274=>((spec_IsBetween.f k bt268.1 bt268.2 bt270.1 bt270.2 bt272.1 bt272.2 bt274.1 bt274.2).bind fun bt276=>((laws_toSequence.f a0_0 a0_1).bind fun bt278=>((laws_toSequence.f a1_0 a1_1).bind fun bt280=>((laws_toSequence.f a2_0 a2_1).bind fun bt282=>((laws_toSequence.f a3_0 a3_1).bind fun bt284=>((impl_IsBetween.f k bt278.1 bt278.2 bt280.1 bt280.2 bt282.1 bt282.2 bt284.1 bt284.2).bind fun bt286=>(if (bt286.1 != bt276.1) = true then (some false) else (if bt286.2 = bt276.2 then (some true) else (some false)))))))))))))))))))) = some true:=H;have A5:=aM A50
 clear A50
 by_cases c6:t264 < 0
 ·rw [if_pos c6] at H
  have c6b0:decide (t264 < 0) = true:=decide_eq_true c6
  clear c6
  clear H
  go_enter Try.func3,Try.ntmps3
  go_wp2_with (first|((with_reducible refine gate_dst (N:=4) rfl ?_);refine box_event ?hg (N:=4) ?hd (cs:=#[.string a0_0,.string a0_1]) (t:=23) ?hr ?_;(case hd=>rfl);(case hg=>rfl);(case hr=>first|(go_simp;done)|(go_simp;rfl));intro gb260 hg w7 hbox hb;have BK260:=aM (hbox);have GW260:=wl hg HB;have GE260:=wl hg HB;replace HB:=bs HB hb;clear hb hbox hg)|((with_reducible refine gate_dst (N:=5) rfl ?_);refine box_event ?hg (N:=5) ?hd (cs:=#[.string a1_0,.string a1_1]) (t:=23) ?hr ?_;(case hd=>rfl);(case hg=>rfl);(case hr=>first|(go_simp;done)|(go_simp;rfl));intro gb261 hg w8 hbox hb;have BK261:=aM (hbox);have GW261:=wl hg HB;have GE261:=wl hg HB;have NB260_261:=nl hg BK260;have NB261_260:=nr hg BK260;replace BK260:=kb BK260 hb;replace HB:=bs HB hb;clear hb hbox hg)|((with_reducible refine gate_dst (N:=6) rfl ?_);refine box_event ?hg (N:=6) ?hd (cs:=#[.string a2_0,.string a2_1]) (t:=23) ?hr ?_;(case hd=>rfl);(case hg=>rfl);(case hr=>first|(go_simp;done)|(go_simp;rfl));intro gb262 hg w9 hbox hb;have BK262:=aM (hbox);have GW262:=wl hg HB;have GE262:=wl hg HB;have NB260_262:=nl hg BK260;have NB262_260:=nr hg BK260;have NB261_262:=nl hg BK261;have NB262_261:=nr hg BK261;replace BK260:=kb BK260 hb;replace BK261:=kb BK261 hb;replace HB:=bs HB hb;clear hb hbox hg)|((with_reducible refine gate_dst (N:=7) rfl ?_);refine box_event ?hg (N:=7) ?hd (cs:=#[.string a3_0,.string a3_1]) (t:=23) ?hr ?_;(case hd=>rfl);(case hg=>rfl);(case hr=>first|(go_simp;done)|(go_simp;rfl));intro gb263 hg w10 hbox hb;have BK263:=aM (hbox);have GW263:=wl hg HB;have GE263:=wl hg HB;have NB260_263:=nl hg BK260;have NB263_260:=nr hg BK260;have NB261_263:=nl hg BK261;have NB263_261:=nr hg BK261;have NB262_263:=nl hg BK262;have NB263_262:=nr hg BK262;replace BK260:=kb BK260 hb;replace BK261:=kb BK261 hb;replace BK262:=kb BK262 hb;replace HB:=bs HB hb;clear hb hbox hg;have hnb11:=NB260_261.out;have hnc11:=NB261_260.out;have hnb12:=NB260_262.out;have hnc12:=NB262_260.out;have hnb13:=NB260_263.out;have hnc13:=NB263_260.out;have⟨a0,a1,b0,b1⟩:=q2f BK260)|((with_reducible refine gate_callee (f:=5) rfl ?_);refine goesL_ (some 16) rfl rfl Try.func5 (by kernel_rfl) rfl #[.agg #[.string a0_0,.string a0_1],.int .i64 1048576] rfl (by (try simp only [sM,sC,sN]);first|done|rfl|(simp only [List.length_drop,List.length_take];rfl)) ?_;(with_reducible refine (laws_szSequence.calls a0_0 a0_1 1048576 t264 _ A5.out).mono ?_);rintro e w15 ⟨rfl,hb⟩;refine ⟨_,rfl,?_⟩;replace BK260:=kb BK260 hb;replace BK261:=kb BK261 hb;replace BK262:=kb BK262 hb;replace BK263:=kb BK263 hb;replace HB:=bs HB hb;(try clear hb)))
  go_ret
  exact ⟨by first|rfl|(simp [errW_none,errW_some] <;> rfl)|(simp [*,errW_none,errW_some] <;> rfl),bb HB⟩
 ·rw [if_neg c6] at H
  have c6b0:decide (t264 < 0) = false:=decide_eq_false c6
  clear c6
  replace H:=Option.bind_eq_some_iff.mp H
  obtain ⟨t265,A160,H⟩:=H
  replace H:(if t265 < 0 then (some true) else ((laws_szSequence.f a2_0 a2_1 t265).bind fun t266=>(if t266 < 0 then (some true) else ((laws_szSequence.f a3_0 a3_1 t266).bind fun t267=>(if t267 < 0 then (some true) else ((laws_toSequence.f a0_0 a0_1).bind fun bt268=>((laws_toSequence.f a1_0 a1_1).bind fun bt270=>((laws_toSequence.f a2_0 a2_1).bind fun bt272=>((laws_toSequence.f a3_0 a3_1).bind fun bt274=>((spec_IsBetween.f k bt268.1 bt268.2 bt270.1 bt270.2 bt272.1 bt272.2 bt274.1 bt274.2).bind fun bt276=>((laws_toSequence.f a0_0 a0_1).bind fun bt278=>((laws_toSequence.f a1_0 a1_1).bind fun bt280=>((laws_toSequence.f a2_0 a2_1).bind fun bt282=>((laws_toSequence.f a3_0 a3_1).bind fun bt284=>((impl_IsBetween.f k bt278.1 bt278.2 bt280.1 bt280.2 bt282.1 bt282.2 bt284.1 bt284.2).bind fun bt286=>(if (bt286.1 != bt276.1) = true then (some false) else (if bt286.2 = bt276.2 then (some true) else (some false)))))))))))))))))) = some true:=H;have A16:=aM A160
  clear A160
  by_cases c17:t265 < 0
  ·rw [if_pos c17] at H
   have c17b0:decide (t265 < 0) = true:=decide_eq_true c17
   clear c17
   clear H
   go_enter Try.func3,Try.ntmps3
   go_wp2_with (first|((with_reducible refine gate_dst (N:=4) rfl ?_);refine box_event ?hg (N:=4) ?hd (cs:=#[.string a0_0,.string a0_1]) (t:=23) ?hr ?_;(case hd=>rfl);(case hg=>rfl);(case hr=>first|(go_simp;done)|(go_simp;rfl));intro gb260 hg w18 hbox hb;have BK260:=aM (hbox);have GW260:=wl hg HB;have GE260:=wl hg HB;replace HB:=bs HB hb;clear hb hbox hg)|((with_reducible refine gate_dst (N:=5) rfl ?_);refine box_event ?hg (N:=5) ?hd (cs:=#[.string a1_0,.string a1_1]) (t:=23) ?hr ?_;(case hd=>rfl);(case hg=>rfl);(case hr=>first|(go_simp;done)|(go_simp;rfl));intro gb261 hg w19 hbox hb;have BK261:=aM (hbox);have GW261:=wl hg HB;have GE261:=wl hg HB;have NB260_261:=nl hg BK260;have NB261_260:=nr hg BK260;replace BK260:=kb BK260 hb;replace HB:=bs HB hb;clear hb hbox hg)|((with_reducible refine gate_dst (N:=6) rfl ?_);refine box_event ?hg (N:=6) ?hd (cs:=#[.string a2_0,.string a2_1]) (t:=23) ?hr ?_;(case hd=>rfl);(case hg=>rfl);(case hr=>first|(go_simp;done)|(go_simp;rfl));intro gb262 hg w20 hbox hb;have BK262:=aM (hbox);have GW262:=wl hg HB;have GE262:=wl hg HB;have NB260_262:=nl hg BK260;have NB262_260:=nr hg BK260;have NB261_262:=nl hg BK261;have NB262_261:=nr hg BK261;replace BK260:=kb BK260 hb;replace BK261:=kb BK261 hb;replace HB:=bs HB hb;clear hb hbox hg)|((with_reducible refine gate_dst (N:=7) rfl ?_);refine box_event ?hg (N:=7) ?hd (cs:=#[.string a3_0,.string a3_1]) (t:=23) ?hr ?_;(case hd=>rfl);(case hg=>rfl);(case hr=>first|(go_simp;done)|(go_simp;rfl));intro gb263 hg w21 hbox hb;have BK263:=aM (hbox);have GW263:=wl hg HB;have GE263:=wl hg HB;have NB260_263:=nl hg BK260;have NB263_260:=nr hg BK260;have NB261_263:=nl hg BK261;have NB263_261:=nr hg BK261;have NB262_263:=nl hg BK262;have NB263_262:=nr hg BK262;replace BK260:=kb BK260 hb;replace BK261:=kb BK261 hb;replace BK262:=kb BK262 hb;replace HB:=bs HB hb;clear hb hbox hg;have hnb22:=NB260_261.out;have hnc22:=NB261_260.out;have hnb23:=NB260_262.out;have hnc23:=NB262_260.out;have hnb24:=NB260_263.out;have hnc24:=NB263_260.out;have⟨a0,a1,b0,b1⟩:=q2f BK260)|((with_reducible refine gate_callee (f:=5) rfl ?_);refine goesL_ (some 16) rfl rfl Try.func5 (by kernel_rfl) rfl #[.agg #[.string a0_0,.string a0_1],.int .i64 1048576] rfl (by (try simp only [sM,sC,sN]);first|done|rfl|(simp only [List.length_drop,List.length_take];rfl)) ?_;(with_reducible refine (laws_szSequence.calls a0_0 a0_1 1048576 t264 _ A5.out).mono ?_);rintro e w26 ⟨rfl,hb⟩;refine ⟨_,rfl,?_⟩;replace BK260:=kb BK260 hb;replace BK261:=kb BK261 hb;replace BK262:=kb BK262 hb;replace BK263:=kb BK263 hb;replace HB:=bs HB hb;(try clear hb);have hnb27:=NB261_262.out;have hnc27:=NB262_261.out;have hnb28:=NB261_263.out;have hnc28:=NB263_261.out;have⟨a0,a1,b0,b1⟩:=q2f BK261)|((with_reducible refine gate_callee (f:=5) rfl ?_);refine goesL_ (some 21) rfl rfl Try.func5 (by kernel_rfl) rfl #[.agg #[.string a1_0,.string a1_1],.int .i64 t264] rfl (by (try simp only [sM,sC,sN]);first|done|rfl|(simp only [List.length_drop,List.length_take];rfl)) ?_;(with_reducible refine (laws_szSequence.calls a1_0 a1_1 t264 t265 _ A16.out).mono ?_);rintro e w30 ⟨rfl,hb⟩;refine ⟨_,rfl,?_⟩;replace BK260:=kb BK260 hb;replace BK261:=kb BK261 hb;replace BK262:=kb BK262 hb;replace BK263:=kb BK263 hb;replace HB:=bs HB hb;(try clear hb)))
   go_ret
   exact ⟨by first|rfl|(simp [errW_none,errW_some] <;> rfl)|(simp [*,errW_none,errW_some] <;> rfl),bb HB⟩
  ·rw [if_neg c17] at H
   have c17b0:decide (t265 < 0) = false:=decide_eq_false c17
   clear c17
   replace H:=Option.bind_eq_some_iff.mp H
   obtain ⟨t266,A310,H⟩:=H
   replace H:(if t266 < 0 then (some true) else ((laws_szSequence.f a3_0 a3_1 t266).bind fun t267=>(if t267 < 0 then (some true) else ((laws_toSequence.f a0_0 a0_1).bind fun bt268=>((laws_toSequence.f a1_0 a1_1).bind fun bt270=>((laws_toSequence.f a2_0 a2_1).bind fun bt272=>((laws_toSequence.f a3_0 a3_1).bind fun bt274=>((spec_IsBetween.f k bt268.1 bt268.2 bt270.1 bt270.2 bt272.1 bt272.2 bt274.1 bt274.2).bind fun bt276=>((laws_toSequence.f a0_0 a0_1).bind fun bt278=>((laws_toSequence.f a1_0 a1_1).bind fun bt280=>((laws_toSequence.f a2_0 a2_1).bind fun bt282=>((laws_toSequence.f a3_0 a3_1).bind fun bt284=>((impl_IsBetween.f k bt278.1 bt278.2 bt280.1 bt280.2 bt282.1 bt282.2 bt284.1 bt284.2).bind fun bt286=>(if (bt286.1 != bt276.1) = true then (some false) else (if bt286.2 = bt276.2 then (some true) else (some false)))))))))))))))) = some true:=H;have A31:=aM A310
   clear A310
   by_cases c32:t266 < 0
   ·rw [if_pos c32] at H
    have c32b0:decide (t266 < 0) = true:=decide_eq_true c32
    clear c32
    clear H
    go_enter Try.func3,Try.ntmps3
    go_wp2_with (first|((with_reducible refine gate_dst (N:=4) rfl ?_);refine box_event ?hg (N:=4) ?hd (cs:=#[.string a0_0,.string a0_1]) (t:=23) ?hr ?_;(case hd=>rfl);(case hg=>rfl);(case hr=>first|(go_simp;done)|(go_simp;rfl));intro gb260 hg w33 hbox hb;have BK260:=aM (hbox);have GW260:=wl hg HB;have GE260:=wl hg HB;replace HB:=bs HB hb;clear hb hbox hg)|((with_reducible refine gate_dst (N:=5) rfl ?_);refine box_event ?hg (N:=5) ?hd (cs:=#[.string a1_0,.string a1_1]) (t:=23) ?hr ?_;(case hd=>rfl);(case hg=>rfl);(case hr=>first|(go_simp;done)|(go_simp;rfl));intro gb261 hg w34 hbox hb;have BK261:=aM (hbox);have GW261:=wl hg HB;have GE261:=wl hg HB;have NB260_261:=nl hg BK260;have NB261_260:=nr hg BK260;replace BK260:=kb BK260 hb;replace HB:=bs HB hb;clear hb hbox hg)|((with_reducible refine gate_dst (N:=6) rfl ?_);refine box_event ?hg (N:=6) ?hd (cs:=#[.string a2_0,.string a2_1]) (t:=23) ?hr ?_;(case hd=>rfl);(case hg=>rfl);(case hr=>first|(go_simp;done)|(go_simp;rfl));intro gb262 hg w35 hbox hb;have BK262:=aM (hbox);have GW262:=wl hg HB;have GE262:=wl hg HB;have NB260_262:=nl hg BK260;have NB262_260:=nr hg BK260;have NB261_262:=nl hg BK261;have NB262_261:=nr hg BK261;replace BK260:=kb BK260 hb;replace BK261:=kb BK261 hb;replace HB:=bs HB hb;clear hb hbox hg)|((with_reducible refine gate_dst (N:=7) rfl ?_);refine box_event ?hg (N:=7) ?hd (cs:=#[.string a3_0,.string a3_1]) (t:=23) ?hr ?_;(case hd=>rfl);(case hg=>rfl);(case hr=>first|(go_simp;done)|(go_simp;rfl));intro gb263 hg w36 hbox hb;have BK263:=aM (hbox);have GW263:=wl hg HB;have GE263:=wl hg HB;have NB260_263:=nl hg BK260;have NB263_260:=nr hg BK260;have NB261_263:=nl hg BK261;have NB263_261:=nr hg BK261;have NB262_263:=nl hg BK262;have NB263_262:=nr hg BK262;replace BK260:=kb BK260 hb;replace BK261:=kb BK261 hb;replace BK262:=kb BK262 hb;replace HB:=bs HB hb;clear hb hbox hg;have hnb37:=NB260_261.out;have hnc37:=NB261_260.out;have hnb38:=NB260_262.out;have hnc38:=NB262_260.out;have hnb39:=NB260_263.out;have hnc39:=NB263_260.out;have⟨a0,a1,b0,b1⟩:=q2f BK260)|((with_reducible refine gate_callee (f:=5) rfl ?_);refine goesL_ (some 16) rfl rfl Try.func5 (by kernel_rfl) rfl #[.agg #[.string a0_0,.string a0_1],.int .i64 1048576] rfl (by (try simp only [sM,sC,sN]);first|done|rfl|(simp only [List.length_drop,List.length_take];rfl)) ?_;(with_reducible refine (laws_szSequence.calls a0_0 a0_1 1048576 t264 _ A5.out).mono ?_);rintro e w41 ⟨rfl,hb⟩;refine ⟨_,rfl,?_⟩;replace BK260:=kb BK260 hb;replace BK261:=kb BK261 hb;replace BK262:=kb BK262 hb;replace BK263:=kb BK263 hb;replace HB:=bs HB hb;(try clear hb);have hnb42:=NB261_262.out;have hnc42:=NB262_261.out;have hnb43:=NB261_263.out;have hnc43:=NB263_261.out;have⟨a0,a1,b0,b1⟩:=q2f BK261)|((with_reducible refine gate_callee (f:=5) rfl ?_);refine goesL_ (some 21) rfl rfl Try.func5 (by kernel_rfl) rfl #[.agg #[.string a1_0,.string a1_1],.int .i64 t264] rfl (by (try simp only [sM,sC,sN]);first|done|rfl|(simp only [List.length_drop,List.length_take];rfl)) ?_;(with_reducible refine (laws_szSequence.calls a1_0 a1_1 t264 t265 _ A16.out).mono ?_);rintro e w45 ⟨rfl,hb⟩;refine ⟨_,rfl,?_⟩;replace BK260:=kb BK260 hb;replace BK261:=kb BK261 hb;replace BK262:=kb BK262 hb;replace BK263:=kb BK263 hb;replace HB:=bs HB hb;(try clear hb);have hnb46:=NB262_263.out;have hnc46:=NB263_262.out;have⟨a0,a1,b0,b1⟩:=q2f BK262)|((with_reducible refine gate_callee (f:=5) rfl ?_);refine goesL_ (some 26) rfl rfl Try.func5 (by kernel_rfl) rfl #[.agg #[.string a2_0,.string a2_1],.int .i64 t265] rfl (by (try simp only [sM,sC,sN]);first|done|rfl|(simp only [List.length_drop,List.length_take];rfl)) ?_;(with_reducible refine (laws_szSequence.calls a2_0 a2_1 t265 t266 _ A31.out).mono ?_);rintro e w48 ⟨rfl,hb⟩;refine ⟨_,rfl,?_⟩;replace BK260:=kb BK260 hb;replace BK261:=kb BK261 hb;replace BK262:=kb BK262 hb;replace BK263:=kb BK263 hb;replace HB:=bs HB hb;(try clear hb)))
    go_ret
    exact ⟨by first|rfl|(simp [errW_none,errW_some] <;> rfl)|(simp [*,errW_none,errW_some] <;> rfl),bb HB⟩
   ·rw [if_neg c32] at H
    have c32b0:decide (t266 < 0) = false:=decide_eq_false c32
    clear c32
    replace H:=Option.bind_eq_some_iff.mp H
    obtain ⟨t267,A490,H⟩:=H
    replace H:(if t267 < 0 then (some true) else ((laws_toSequence.f a0_0 a0_1).bind fun bt268=>((laws_toSequence.f a1_0 a1_1).bind fun bt270=>((laws_toSequence.f a2_0 a2_1).bind fun bt272=>((laws_toSequence.f a3_0 a3_1).bind fun bt274=>((spec_IsBetween.f k bt268.1 bt268.2 bt270.1 bt270.2 bt272.1 bt272.2 bt274.1 bt274.2).bind fun bt276=>((laws_toSequence.f a0_0 a0_1).bind fun bt278=>((laws_toSequence.f a1_0 a1_1).bind fun bt280=>((laws_toSequence.f a2_0 a2_1).bind fun bt282=>((laws_toSequence.f a3_0 a3_1).bind fun bt284=>((impl_IsBetween.f k bt278.1 bt278.2 bt280.1 bt280.2 bt282.1 bt282.2 bt284.1 bt284.2).bind fun bt286=>(if (bt286.1 != bt276.1) = true then (some false) else (if bt286.2 = bt276.2 then (some true) else (some false)))))))))))))) = some true:=H;have A49:=aM A490
    clear A490
    by_cases c50:t267 < 0
    ·rw [if_pos c50] at H
     have c50b0:decide (t267 < 0) = true:=decide_eq_true c50
     clear c50
     clear H
     go_enter Try.func3,Try.ntmps3
     go_wp2_with (first|((with_reducible refine gate_dst (N:=4) rfl ?_);refine box_event ?hg (N:=4) ?hd (cs:=#[.string a0_0,.string a0_1]) (t:=23) ?hr ?_;(case hd=>rfl);(case hg=>rfl);(case hr=>first|(go_simp;done)|(go_simp;rfl));intro gb260 hg w51 hbox hb;have BK260:=aM (hbox);have GW260:=wl hg HB;have GE260:=wl hg HB;replace HB:=bs HB hb;clear hb hbox hg)|((with_reducible refine gate_dst (N:=5) rfl ?_);refine box_event ?hg (N:=5) ?hd (cs:=#[.string a1_0,.string a1_1]) (t:=23) ?hr ?_;(case hd=>rfl);(case hg=>rfl);(case hr=>first|(go_simp;done)|(go_simp;rfl));intro gb261 hg w52 hbox hb;have BK261:=aM (hbox);have GW261:=wl hg HB;have GE261:=wl hg HB;have NB260_261:=nl hg BK260;have NB261_260:=nr hg BK260;replace BK260:=kb BK260 hb;replace HB:=bs HB hb;clear hb hbox hg)|((with_reducible refine gate_dst (N:=6) rfl ?_);refine box_event ?hg (N:=6) ?hd (cs:=#[.string a2_0,.string a2_1]) (t:=23) ?hr ?_;(case hd=>rfl);(case hg=>rfl);(case hr=>first|(go_simp;done)|(go_simp;rfl));intro gb262 hg w53 hbox hb;have BK262:=aM (hbox);have GW262:=wl hg HB;have GE262:=wl hg HB;have NB260_262:=nl hg BK260;have NB262_260:=nr hg BK260;have NB261_262:=nl hg BK261;have NB262_261:=nr hg BK261;replace BK260:=kb BK260 hb;replace BK261:=kb BK261 hb;replace HB:=bs HB hb;clear hb hbox hg)|((with_reducible refine gate_dst (N:=7) rfl ?_);refine box_event ?hg (N:=7) ?hd (cs:=#[.string a3_0,.string a3_1]) (t:=23) ?hr ?_;(case hd=>rfl);(case hg=>rfl);(case hr=>first|(go_simp;done)|(go_simp;rfl));intro gb263 hg w54 hbox hb;have BK263:=aM (hbox);have GW263:=wl hg HB;have GE263:=wl hg HB;have NB260_263:=nl hg BK260;have NB263_260:=nr hg BK260;have NB261_263:=nl hg BK261;have NB263_261:=nr hg BK261;have NB262_263:=nl hg BK262;have NB263_262:=nr hg BK262;replace BK260:=kb BK260 hb;replace BK261:=kb BK261 hb;replace BK262:=kb BK262 hb;replace HB:=bs HB hb;clear hb hbox hg;have hnb55:=NB260_261.out;have hnc55:=NB261_260.out;have hnb56:=NB260_262.out;have hnc56:=NB262_260.out;have hnb57:=NB260_263.out;have hnc57:=NB263_260.out;have⟨a0,a1,b0,b1⟩:=q2f BK260)|((with_reducible refine gate_callee (f:=5) rfl ?_);refine goesL_ (some 16) rfl rfl Try.func5 (by kernel_rfl) rfl #[.agg #[.string a0_0,.string a0_1],.int .i64 1048576] rfl (by (try simp only [sM,sC,sN]);first|done|rfl|(simp only [List.length_drop,List.length_take];rfl)) ?_;(with_reducible refine (laws_szSequence.calls a0_0 a0_1 1048576 t264 _ A5.out).mono ?_);rintro e w59 ⟨rfl,hb⟩;refine ⟨_,rfl,?_⟩;replace BK260:=kb BK260 hb;replace BK261:=kb BK261 hb;replace BK262:=kb BK262 hb;replace BK263:=kb BK263 hb;replace HB:=bs HB hb;(try clear hb);have hnb60:=NB261_262.out;have hnc60:=NB262_261.out;have hnb61:=NB261_263.out;have hnc61:=NB263_261.out;have⟨a0,a1,b0,b1⟩:=q2f BK261)|((with_reducible refine gate_callee (f:=5) rfl ?_);refine goesL_ (some 21) rfl rfl Try.func5 (by kernel_rfl) rfl #[.agg #[.string a1_0,.string a1_1],.int .i64 t264] rfl (by (try simp only [sM,sC,sN]);first|done|rfl|(simp only [List.length_drop,List.length_take];rfl)) ?_;(with_reducible refine (laws_szSequence.calls a1_0 a1_1 t264 t265 _ A16.out).mono ?_);rintro e w63 ⟨rfl,hb⟩;refine ⟨_,rfl,?_⟩;replace BK260:=kb BK260 hb;replace BK261:=kb BK261 hb;replace BK262:=kb BK262 hb;replace BK263:=kb BK263 hb;replace HB:=bs HB hb;(try clear hb);have hnb64:=NB262_263.out;have hnc64:=NB263_262.out;have⟨a0,a1,b0,b1⟩:=q2f BK262)|((with_reducible refine gate_callee (f:=5) rfl ?_);refine goesL_ (some 26) rfl rfl Try.func5 (by kernel_rfl) rfl #[.agg #[.string a2_0,.string a2_1],.int .i64 t265] rfl (by (try simp only [sM,sC,sN]);first|done|rfl|(simp only [List.length_drop,List.length_take];rfl)) ?_;(with_reducible refine (laws_szSequence.calls a2_0 a2_1 t265 t266 _ A31.out).mono ?_);rintro e w66 ⟨rfl,hb⟩;refine ⟨_,rfl,?_⟩;replace BK260:=kb BK260 hb;replace BK261:=kb BK261 hb;replace BK262:=kb BK262 hb;replace BK263:=kb BK263 hb;replace HB:=bs HB hb;(try clear hb);have⟨a0,a1,b0,b1⟩:=q2f BK263)|((with_reducible refine gate_callee (f:=5) rfl ?_);refine goesL_ (some 31) rfl rfl Try.func5 (by kernel_rfl) rfl #[.agg #[.string a3_0,.string a3_1],.int .i64 t266] rfl (by (try simp only [sM,sC,sN]);first|done|rfl|(simp only [List.length_drop,List.length_take];rfl)) ?_;(with_reducible refine (laws_szSequence.calls a3_0 a3_1 t266 t267 _ A49.out).mono ?_);rintro e w68 ⟨rfl,hb⟩;refine ⟨_,rfl,?_⟩;replace BK260:=kb BK260 hb;replace BK261:=kb BK261 hb;replace BK262:=kb BK262 hb;replace BK263:=kb BK263 hb;replace HB:=bs HB hb;(try clear hb)))
     go_ret
     exact ⟨by first|rfl|(simp [errW_none,errW_some] <;> rfl)|(simp [*,errW_none,errW_some] <;> rfl),bb HB⟩
    ·rw [if_neg c50] at H
     have c50b0:decide (t267 < 0) = false:=decide_eq_false c50
     clear c50
     replace H:=Option.bind_eq_some_iff.mp H
     obtain ⟨⟨t268,t269⟩,A690,H⟩:=H
     replace H:((laws_toSequence.f a1_0 a1_1).bind fun bt270=>((laws_toSequence.f a2_0 a2_1).bind fun bt272=>((laws_toSequence.f a3_0 a3_1).bind fun bt274=>((spec_IsBetween.f k t268 t269 bt270.1 bt270.2 bt272.1 bt272.2 bt274.1 bt274.2).bind fun bt276=>((laws_toSequence.f a0_0 a0_1).bind fun bt278=>((laws_toSequence.f a1_0 a1_1).bind fun bt280=>((laws_toSequence.f a2_0 a2_1).bind fun bt282=>((laws_toSequence.f a3_0 a3_1).bind fun bt284=>((impl_IsBetween.f k bt278.1 bt278.2 bt280.1 bt280.2 bt282.1 bt282.2 bt284.1 bt284.2).bind fun bt286=>(if (bt286.1 != bt276.1) = true then (some false) else (if bt286.2 = bt276.2 then (some true) else (some false)))))))))))) = some true:=H;have A69:=aM A690
     clear A690
     replace H:=Option.bind_eq_some_iff.mp H
     obtain ⟨⟨t270,t271⟩,A700,H⟩:=H
     replace H:((laws_toSequence.f a2_0 a2_1).bind fun bt272=>((laws_toSequence.f a3_0 a3_1).bind fun bt274=>((spec_IsBetween.f k t268 t269 t270 t271 bt272.1 bt272.2 bt274.1 bt274.2).bind fun bt276=>((laws_toSequence.f a0_0 a0_1).bind fun bt278=>((laws_toSequence.f a1_0 a1_1).bind fun bt280=>((laws_toSequence.f a2_0 a2_1).bind fun bt282=>((laws_toSequence.f a3_0 a3_1).bind fun bt284=>((impl_IsBetween.f k bt278.1 bt278.2 bt280.1 bt280.2 bt282.1 bt282.2 bt284.1 bt284.2).bind fun bt286=>(if (bt286.1 != bt276.1) = true then (some false) else (if bt286.2 = bt276.2 then (some true) else (some false))))))))))) = some true:=H;have A70:=aM A700
     clear A700
     replace H:=Option.bind_eq_some_iff.mp H
     obtain ⟨⟨t272,t273⟩,A710,H⟩:=H
     replace H:((laws_toSequence.f a3_0 a3_1).bind fun bt274=>((spec_IsBetween.f k t268 t269 t270 t271 t272 t273 bt274.1 bt274.2).bind fun bt276=>((laws_toSequence.f a0_0 a0_1).bind fun bt278=>((laws_toSequence.f a1_0 a1_1).bind fun bt280=>((laws_toSequence.f a2_0 a2_1).bind fun bt282=>((laws_toSequence.f a3_0 a3_1).bind fun bt284=>((impl_IsBetween.f k bt278.1 bt278.2 bt280.1 bt280.2 bt282.1 bt282.2 bt284.1 bt284.2).bind fun bt286=>(if (bt286.1 != bt276.1) = true then (some false) else (if bt286.2 = bt276.2 then (some true) else (some false)))))))))) = some true:=H;have A71:=aM A710
     clear A710
     replace H:=Option.bind_eq_some_iff.mp H
     obtain ⟨⟨t274,t275⟩,A720,H⟩:=H
     replace H:((spec_IsBetween.f k t268 t269 t270 t271 t272 t273 t274 t275).bind fun bt276=>((laws_toSequence.f a0_0 a0_1).bind fun bt278=>((laws_toSequence.f a1_0 a1_1).bind fun bt280=>((laws_toSequence.f a2_0 a2_1).bind fun bt282=>((laws_toSequence.f a3_0 a3_1).bind fun bt284=>((impl_IsBetween.f k bt278.1 bt278.2 bt280.1 bt280.2 bt282.1 bt282.2 bt284.1 bt284.2).bind fun bt286=>(if (bt286.1 != bt276.1) = true then (some false) else (if bt286.2 = bt276.2 then (some true) else (some false))))))))) = some true:=H;have A72:=aM A720
     clear A720
     replace H:=Option.bind_eq_some_iff.mp H
     obtain ⟨⟨t276,t277⟩,A730,H⟩:=H
     replace H:((laws_toSequence.f a0_0 a0_1).bind fun bt278=>((laws_toSequence.f a1_0 a1_1).bind fun bt280=>((laws_toSequence.f a2_0 a2_1).bind fun bt282=>((laws_toSequence.f a3_0 a3_1).bind fun bt284=>((impl_IsBetween.f k bt278.1 bt278.2 bt280.1 bt280.2 bt282.1 bt282.2 bt284.1 bt284.2).bind fun bt286=>(if (bt286.1 != t276) = true then (some false) else (if bt286.2 = t277 then (some true) else (some false)))))))) = some true:=H;have A73:=aM A730
     clear A730
     replace H:=Option.bind_eq_some_iff.mp H
     obtain ⟨⟨t278,t279⟩,A740,H⟩:=H
     replace H:((laws_toSequence.f a1_0 a1_1).bind fun bt280=>((laws_toSequence.f a2_0 a2_1).bind fun bt282=>((laws_toSequence.f a3_0 a3_1).bind fun bt284=>((impl_IsBetween.f k t278 t279 bt280.1 bt280.2 bt282.1 bt282.2 bt284.1 bt284.2).bind fun bt286=>(if (bt286.1 != t276) = true then (some false) else (if bt286.2 = t277 then (some true) else (some false))))))) = some true:=H;have A74:=aM A740
     clear A740
     replace H:=Option.bind_eq_some_iff.mp H
     obtain ⟨⟨t280,t281⟩,A750,H⟩:=H
     replace H:((laws_toSequence.f a2_0 a2_1).bind fun bt282=>((laws_toSequence.f a3_0 a3_1).bind fun bt284=>((impl_IsBetween.f k t278 t279 t280 t281 bt282.1 bt282.2 bt284.1 bt284.2).bind fun bt286=>(if (bt286.1 != t276) = true then (some false) else (if bt286.2 = t277 then (some true) else (some false)))))) = some true:=H;have A75:=aM A750
     clear A750
     replace H:=Option.bind_eq_some_iff.mp H
     obtain ⟨⟨t282,t283⟩,A760,H⟩:=H
     replace H:((laws_toSequence.f a3_0 a3_1).bind fun bt284=>((impl_IsBetween.f k t278 t279 t280 t281 t282 t283 bt284.1 bt284.2).bind fun bt286=>(if (bt286.1 != t276) = true then (some false) else (if bt286.2 = t277 then (some true) else (some false))))) = some true:=H;have A76:=aM A760
     clear A760
     replace H:=Option.bind_eq_some_iff.mp H
     obtain ⟨⟨t284,t285⟩,A770,H⟩:=H
     replace H:((impl_IsBetween.f k t278 t279 t280 t281 t282 t283 t284 t285).bind fun bt286=>(if (bt286.1 != t276) = true then (some false) else (if bt286.2 = t277 then (some true) else (some false)))) = some true:=H;have A77:=aM A770
     clear A770
     replace H:=Option.bind_eq_some_iff.mp H
     obtain ⟨⟨t286,t287⟩,A780,H⟩:=H
     replace H:(if (t286 != t276) = true then (some false) else (if t287 = t277 then (some true) else (some false))) = some true:=H;have A78:=aM A780
     clear A780
     by_cases c79:(t286 != t276) = true
     ·rw [if_pos c79] at H
      have c79b0:(t286 != t276) = true:=c79
      (try (have c79b1:decide (t286 = t276) = false:=by simpa using c79))
      (try (have c79b2:(t286 == t276) = false:=by simpa using c79))
      (try (have c79b3:¬ (t286 = t276):=by simpa using c79))
      clear c79
      exact absurd H (by simp)
     ·rw [if_neg c79] at H
      have c79b0:(t286 != t276) = false:=by simpa using c79
      (try (have c79b1:decide (t286 = t276) = true:=by simpa using c79))
      (try (have c79b2:(t286 == t276) = true:=by simpa using c79))
      clear c79
      by_cases c80:t287 = t277
      ·rw [if_pos c80] at H
       have c80b0:(t287 == t277) = true:=beq_iff_eq.mpr c80
       have c80b1:(t287 != t277) = false:=bne_eq_false_iff_eq.mpr c80
       clear c80
       clear H
       go_enter Try.func3,Try.ntmps3
       try go_wp2_with (first|((with_reducible refine gate_dst (N:=4) rfl ?_);refine box_event ?hg (N:=4) ?hd (cs:=#[.string a0_0,.string a0_1]) (t:=23) ?hr ?_;(case hd=>rfl);(case hg=>rfl);(case hr=>first|(go_simp;done)|(go_simp;rfl));intro gb260 hg w81 hbox hb;have BK260:=aM (hbox);have GW260:=wl hg HB;have GE260:=wl hg HB;replace HB:=bs HB hb;clear hb hbox hg)|((with_reducible refine gate_dst (N:=5) rfl ?_);refine box_event ?hg (N:=5) ?hd (cs:=#[.string a1_0,.string a1_1]) (t:=23) ?hr ?_;(case hd=>rfl);(case hg=>rfl);(case hr=>first|(go_simp;done)|(go_simp;rfl));intro gb261 hg w82 hbox hb;have BK261:=aM (hbox);have GW261:=wl hg HB;have GE261:=wl hg HB;have NB260_261:=nl hg BK260;have NB261_260:=nr hg BK260;replace BK260:=kb BK260 hb;replace HB:=bs HB hb;clear hb hbox hg)|((with_reducible refine gate_dst (N:=6) rfl ?_);refine box_event ?hg (N:=6) ?hd (cs:=#[.string a2_0,.string a2_1]) (t:=23) ?hr ?_;(case hd=>rfl);(case hg=>rfl);(case hr=>first|(go_simp;done)|(go_simp;rfl));intro gb262 hg w83 hbox hb;have BK262:=aM (hbox);have GW262:=wl hg HB;have GE262:=wl hg HB;have NB260_262:=nl hg BK260;have NB262_260:=nr hg BK260;have NB261_262:=nl hg BK261;have NB262_261:=nr hg BK261;replace BK260:=kb BK260 hb;replace BK261:=kb BK261 hb;replace HB:=bs HB hb;clear hb hbox hg)|((with_reducible refine gate_dst (N:=7) rfl ?_);refine box_event ?hg (N:=7) ?hd (cs:=#[.string a3_0,.string a3_1]) (t:=23) ?hr ?_;(case hd=>rfl);(case hg=>rfl);(case hr=>first|(go_simp;done)|(go_simp;rfl));intro gb263 hg w84 hbox hb;have BK263:=aM (hbox);have GW263:=wl hg HB;have GE263:=wl hg HB;have NB260_263:=nl hg BK260;have NB263_260:=nr hg BK260;have NB261_263:=nl hg BK261;have NB263_261:=nr hg BK261;have NB262_263:=nl hg BK262;have NB263_262:=nr hg BK262;replace BK260:=kb BK260 hb;replace BK261:=kb BK261 hb;replace BK262:=kb BK262 hb;replace HB:=bs HB hb;clear hb hbox hg;have hnb85:=NB260_261.out;have hnc85:=NB261_260.out;have hnb86:=NB260_262.out;have hnc86:=NB262_260.out;have hnb87:=NB260_263.out;have hnc87:=NB263_260.out;have⟨a0,a1,b0,b1⟩:=q2f BK260)|((with_reducible refine gate_callee (f:=5) rfl ?_);refine goesL_ (some 16) rfl rfl Try.func5 (by kernel_rfl) rfl #[.agg #[.string a0_0,.string a0_1],.int .i64 1048576] rfl (by (try simp only [sM,sC,sN]);first|done|rfl|(simp only [List.length_drop,List.length_take];rfl)) ?_;(with_reducible refine (laws_szSequence.calls a0_0 a0_1 1048576 t264 _ A5.out).mono ?_);rintro e w89 ⟨rfl,hb⟩;refine ⟨_,rfl,?_⟩;replace BK260:=kb BK260 hb;replace BK261:=kb BK261 hb;replace BK262:=kb BK262 hb;replace BK263:=kb BK263 hb;replace HB:=bs HB hb;(try clear hb);have hnb90:=NB261_262.out;have hnc90:=NB262_261.out;have hnb91:=NB261_263.out;have hnc91:=NB263_261.out;have⟨a0,a1,b0,b1⟩:=q2f BK261)|((with_reducible refine gate_callee (f:=5) rfl ?_);refine goesL_ (some 21) rfl rfl Try.func5 (by kernel_rfl) rfl #[.agg #[.string a1_0,.string a1_1],.int .i64 t264] rfl (by (try simp only [sM,sC,sN]);first|done|rfl|(simp only [List.length_drop,List.length_take];rfl)) ?_;(with_reducible refine (laws_szSequence.calls a1_0 a1_1 t264 t265 _ A16.out).mono ?_);rintro e w93 ⟨rfl,hb⟩;refine ⟨_,rfl,?_⟩;replace BK260:=kb BK260 hb;replace BK261:=kb BK261 hb;replace BK262:=kb BK262 hb;replace BK263:=kb BK263 hb;replace HB:=bs HB hb;(try clear hb);have hnb94:=NB262_263.out;have hnc94:=NB263_262.out;have⟨a0,a1,b0,b1⟩:=q2f BK262)|((with_reducible refine gate_callee (f:=5) rfl ?_);refine goesL_ (some 26) rfl rfl Try.func5 (by kernel_rfl) rfl #[.agg #[.string a2_0,.string a2_1],.int .i64 t265] rfl (by (try simp only [sM,sC,sN]);first|done|rfl|(simp only [List.length_drop,List.length_take];rfl)) ?_;(with_reducible refine (laws_szSequence.calls a2_0 a2_1 t265 t266 _ A31.out).mono ?_);rintro e w96 ⟨rfl,hb⟩;refine ⟨_,rfl,?_⟩;replace BK260:=kb BK260 hb;replace BK261:=kb BK261 hb;replace BK262:=kb BK262 hb;replace BK263:=kb BK263 hb;replace HB:=bs HB hb;(try clear hb);have⟨a0,a1,b0,b1⟩:=q2f BK263)|((with_reducible refine gate_callee (f:=5) rfl ?_);refine goesL_ (some 31) rfl rfl Try.func5 (by kernel_rfl) rfl #[.agg #[.string a3_0,.string a3_1],.int .i64 t266] rfl (by (try simp only [sM,sC,sN]);first|done|rfl|(simp only [List.length_drop,List.length_take];rfl)) ?_;(with_reducible refine (laws_szSequence.calls a3_0 a3_1 t266 t267 _ A49.out).mono ?_);rintro e w98 ⟨rfl,hb⟩;refine ⟨_,rfl,?_⟩;replace BK260:=kb BK260 hb;replace BK261:=kb BK261 hb;replace BK262:=kb BK262 hb;replace BK263:=kb BK263 hb;replace HB:=bs HB hb;(try clear hb)))
       replace BK260:=aM (yD BK260.out);replace BK261:=aM (yD BK261.out);replace BK262:=aM (yD BK262.out);replace BK263:=aM (yD BK263.out);replace HB:=aM (zD HB.out)
       refine start_ (n:=14) (S:=fun w'=>w'.cell? ⟨gb260,0,none⟩ = some (.string a0_0) ∧ w'.cell? ⟨gb260,1,none⟩ = some (.string a0_1) ∧ w'.cell? ⟨gb261,0,none⟩ = some (.string a1_0) ∧ w'.cell? ⟨gb261,1,none⟩ = some (.string a1_1) ∧ w'.cell? ⟨gb262,0,none⟩ = some (.string a2_0) ∧ w'.cell? ⟨gb262,1,none⟩ = some (.string a2_1) ∧ w'.cell? ⟨gb263,0,none⟩ = some (.string a3_0) ∧ w'.cell? ⟨gb263,1,none⟩ = some (.string a3_1)) (ds:=[]) #[fF,fF,fF,fF,fF,fF,fF,fF,fF,fF,fF,fF,fF,fF] (by kernel_rfl) rfl rfl ⟨(blk_cell BK260.out 0).trans rfl,(blk_cell BK260.out 1).trans rfl,(blk_cell BK261.out 0).trans rfl,(blk_cell BK261.out 1).trans rfl,(blk_cell BK262.out 0).trans rfl,(blk_cell BK262.out 1).trans rfl,(blk_cell BK263.out 0).trans rfl,(blk_cell BK263.out 1).trans rfl⟩ (fun hHeld=>?_);refine with_tabW laws_FnExactIsBetween.tab14 laws_FnExactIsBetween.bits14 (fun HT_ HW_=>?_)
       generalize w98.drew = w99 at BK260 BK261 BK262 BK263 HB hHeld ⊢
       refine take_ (i:=0) (N:=some 35) (v:=?_) (a':=?_) #[tT,fF,fF,fF,fF,fF,fF,fF,fF,fF,fF,fF,fF,fF] rfl rfl (take_ofW HT_.out HW_.out (by kernel_rfl)) (fun _ _ _ h=>h) (Or.inl ⟨by rfl,?_⟩) hHeld ?_ ?_
       rotate_left
       ·rintro w' ⟨s0,s1,s2,s3,s4,s5,s6,s7⟩
        go_simp
        with_reducible rfl
       rotate_left
       ·simp only [Act.put,sI,sZ,sS,i64_w,i32_w]
        rfl
       refine take_ (i:=2) (N:=some 37) (v:=?_) (a':=?_) #[tT,fF,tT,fF,fF,fF,fF,fF,fF,fF,fF,fF,fF,fF] rfl rfl (take_ofW HT_.out HW_.out (by kernel_rfl)) (fun _ _ _ h=>h) (Or.inl ⟨by rfl,?_⟩) hHeld ?_ ?_
       rotate_left
       ·rintro w' ⟨s0,s1,s2,s3,s4,s5,s6,s7⟩
        go_simp
        with_reducible rfl
       rotate_left
       ·simp only [Act.put,sI,sZ,sS,i64_w,i32_w]
        rfl
       refine take_ (i:=4) (N:=some 39) (v:=?_) (a':=?_) #[tT,fF,tT,fF,tT,fF,fF,fF,fF,fF,fF,fF,fF,fF] rfl rfl (take_ofW HT_.out HW_.out (by kernel_rfl)) (fun _ _ _ h=>h) (Or.inl ⟨by rfl,?_⟩) hHeld ?_ ?_
       rotate_left
       ·rintro w' ⟨s0,s1,s2,s3,s4,s5,s6,s7⟩
        go_simp
        with_reducible rfl
       rotate_left
       ·simp only [Act.put,sI,sZ,sS,i64_w,i32_w]
        rfl
       refine take_ (i:=6) (N:=some 41) (v:=?_) (a':=?_) #[tT,fF,tT,fF,tT,fF,tT,fF,fF,fF,fF,fF,fF,fF] rfl rfl (take_ofW HT_.out HW_.out (by kernel_rfl)) (fun _ _ _ h=>h) (Or.inl ⟨by rfl,?_⟩) hHeld ?_ ?_
       rotate_left
       ·rintro w' ⟨s0,s1,s2,s3,s4,s5,s6,s7⟩
        go_simp
        with_reducible rfl
       rotate_left
       ·simp only [Act.put,sI,sZ,sS,i64_w,i32_w]
        rfl
       refine one_ (i:=1) (N:=some 36) #[tT,tT,tT,fF,tT,fF,tT,fF,fF,fF,fF,fF,fF,fF] rfl rfl (one_of HT_.out (by kernel_rfl)) (by decide) (fun K hK=>?_)
       refine goes_ Try.func7 (by kernel_rfl) rfl #[.agg #[.string a0_0,.string a0_1]] (by rfl) rfl rfl (by (try simp only [sM,sC,sN]);first|done|rfl|(simp only [List.length_drop,List.length_take];rfl)) ?_
       with_reducible refine (laws_toSequence.calls a0_0 a0_1 t268 t269 _ A69.out).mono ?_
       rintro e w100 ⟨rfl,hb⟩
       refine ⟨_,rfl,?_⟩
       replace BK260:=kb BK260 hb;replace BK261:=kb BK261 hb;replace BK262:=kb BK262 hb;replace BK263:=kb BK263 hb;replace HB:=bs HB hb;(try clear hb)
       refine hK.out _ _ ⟨(blk_cell BK260.out 0).trans rfl,(blk_cell BK260.out 1).trans rfl,(blk_cell BK261.out 0).trans rfl,(blk_cell BK261.out 1).trans rfl,(blk_cell BK262.out 0).trans rfl,(blk_cell BK262.out 1).trans rfl,(blk_cell BK263.out 0).trans rfl,(blk_cell BK263.out 1).trans rfl⟩ (fun hHeld=>?_)
       clear hK K
       refine norm_ (a':=?_) ?_ ?_
       rotate_left
       ·show Act.put _ (some 36) _ = _
        simp only [Act.put,sI,sZ,sS,i64_w,i32_w]
        rfl
       refine one_ (i:=3) (N:=some 38) #[tT,tT,tT,tT,tT,fF,tT,fF,fF,fF,fF,fF,fF,fF] rfl rfl (one_of HT_.out (by kernel_rfl)) (by decide) (fun K hK=>?_)
       refine goes_ Try.func7 (by kernel_rfl) rfl #[.agg #[.string a1_0,.string a1_1]] (by rfl) rfl rfl (by (try simp only [sM,sC,sN]);first|done|rfl|(simp only [List.length_drop,List.length_take];rfl)) ?_
       with_reducible refine (laws_toSequence.calls a1_0 a1_1 t270 t271 _ A70.out).mono ?_
       rintro e w101 ⟨rfl,hb⟩
       refine ⟨_,rfl,?_⟩
       replace BK260:=kb BK260 hb;replace BK261:=kb BK261 hb;replace BK262:=kb BK262 hb;replace BK263:=kb BK263 hb;replace HB:=bs HB hb;(try clear hb)
       refine hK.out _ _ ⟨(blk_cell BK260.out 0).trans rfl,(blk_cell BK260.out 1).trans rfl,(blk_cell BK261.out 0).trans rfl,(blk_cell BK261.out 1).trans rfl,(blk_cell BK262.out 0).trans rfl,(blk_cell BK262.out 1).trans rfl,(blk_cell BK263.out 0).trans rfl,(blk_cell BK263.out 1).trans rfl⟩ (fun hHeld=>?_)
       clear hK K
       refine norm_ (a':=?_) ?_ ?_
       rotate_left
       ·show Act.put _ (some 38) _ = _
        simp only [Act.put,sI,sZ,sS,i64_w,i32_w]
        rfl
       refine one_ (i:=5) (N:=some 40) #[tT,tT,tT,tT,tT,tT,tT,fF,fF,fF,fF,fF,fF,fF] rfl rfl (one_of HT_.out (by kernel_rfl)) (by decide) (fun K hK=>?_)
       refine goes_ Try.func7 (by kernel_rfl) rfl #[.agg #[.string a2_0,.string a2_1]] (by rfl) rfl rfl (by (try simp only [sM,sC,sN]);first|done|rfl|(simp only [List.length_drop,List.length_take];rfl)) ?_
       with_reducible refine (laws_toSequence.calls a2_0 a2_1 t272 t273 _ A71.out).mono ?_
       rintro e w102 ⟨rfl,hb⟩
       refine ⟨_,rfl,?_⟩
       replace BK260:=kb BK260 hb;replace BK261:=kb BK261 hb;replace BK262:=kb BK262 hb;replace BK263:=kb BK263 hb;replace HB:=bs HB hb;(try clear hb)
       refine hK.out _ _ ⟨(blk_cell BK260.out 0).trans rfl,(blk_cell BK260.out 1).trans rfl,(blk_cell BK261.out 0).trans rfl,(blk_cell BK261.out 1).trans rfl,(blk_cell BK262.out 0).trans rfl,(blk_cell BK262.out 1).trans rfl,(blk_cell BK263.out 0).trans rfl,(blk_cell BK263.out 1).trans rfl⟩ (fun hHeld=>?_)
       clear hK K
       refine norm_ (a':=?_) ?_ ?_
       rotate_left
       ·show Act.put _ (some 40) _ = _
        simp only [Act.put,sI,sZ,sS,i64_w,i32_w]
        rfl
       refine one_ (i:=7) (N:=some 42) #[tT,tT,tT,tT,tT,tT,tT,tT,fF,fF,fF,fF,fF,fF] rfl rfl (one_of HT_.out (by kernel_rfl)) (by decide) (fun K hK=>?_)
       refine goes_ Try.func7 (by kernel_rfl) rfl #[.agg #[.string a3_0,.string a3_1]] (by rfl) rfl rfl (by (try simp only [sM,sC,sN]);first|done|rfl|(simp only [List.length_drop,List.length_take];rfl)) ?_
       with_reducible refine (laws_toSequence.calls a3_0 a3_1 t274 t275 _ A72.out).mono ?_
       rintro e w103 ⟨rfl,hb⟩
       refine ⟨_,rfl,?_⟩
       replace BK260:=kb BK260 hb;replace BK261:=kb BK261 hb;replace BK262:=kb BK262 hb;replace BK263:=kb BK263 hb;replace HB:=bs HB hb;(try clear hb)
       refine hK.out _ _ ⟨(blk_cell BK260.out 0).trans rfl,(blk_cell BK260.out 1).trans rfl,(blk_cell BK261.out 0).trans rfl,(blk_cell BK261.out 1).trans rfl,(blk_cell BK262.out 0).trans rfl,(blk_cell BK262.out 1).trans rfl,(blk_cell BK263.out 0).trans rfl,(blk_cell BK263.out 1).trans rfl⟩ (fun hHeld=>?_)
       clear hK K
       refine norm_ (a':=?_) ?_ ?_
       rotate_left
       ·show Act.put _ (some 42) _ = _
        simp only [Act.put,sI,sZ,sS,i64_w,i32_w]
        rfl
       refine one_ (i:=8) (N:=some 43) #[tT,tT,tT,tT,tT,tT,tT,tT,tT,fF,fF,fF,fF,fF] rfl rfl (one_of HT_.out (by kernel_rfl)) (by decide) (fun K hK=>?_)
       refine goes_ Try.func6 (by kernel_rfl) rfl #[.agg #[.string t268,.string t269],.agg #[.string t270,.string t271],.agg #[.string t272,.string t273],.agg #[.string t274,.string t275]] (by rfl) rfl rfl (by (try simp only [sM,sC,sN]);first|done|rfl|(simp only [List.length_drop,List.length_take];rfl)) ?_
       with_reducible refine (spec_IsBetween.calls k t268 t269 t270 t271 t272 t273 t274 t275 t276 t277 _ A73.out).mono ?_
       rintro e w104 ⟨rfl,hb⟩
       refine ⟨_,rfl,?_⟩
       replace BK260:=kb BK260 hb;replace BK261:=kb BK261 hb;replace BK262:=kb BK262 hb;replace BK263:=kb BK263 hb;replace HB:=bs HB hb;(try clear hb)
       refine hK.out _ _ ⟨(blk_cell BK260.out 0).trans rfl,(blk_cell BK260.out 1).trans rfl,(blk_cell BK261.out 0).trans rfl,(blk_cell BK261.out 1).trans rfl,(blk_cell BK262.out 0).trans rfl,(blk_cell BK262.out 1).trans rfl,(blk_cell BK263.out 0).trans rfl,(blk_cell BK263.out 1).trans rfl⟩ (fun hHeld=>?_)
       clear hK K
       refine norm_ (a':=?_) ?_ ?_
       rotate_left
       ·show Act.put _ (some 43) _ = _
        simp only [Act.put,sI,sZ,sS,i64_w,i32_w]
        rfl
       refine pure_ (i:=9) (N:=some 34) (v:=?_) (a':=?_) #[tT,tT,tT,tT,tT,tT,tT,tT,tT,tT,fF,fF,fF,fF] rfl rfl (any_of HT_.out (by kernel_rfl)) (fun _ _ _ h=>h) (Or.inl ⟨by rfl,?_⟩) ?_ ?_
       rotate_left
       ·intro w'
        go_simp
        with_reducible rfl
       rotate_left
       ·simp only [Act.put,sI,sZ,sS,i64_w,i32_w]
        rfl
       refine pure_ (i:=10) (N:=some 44) (v:=?_) (a':=?_) #[tT,tT,tT,tT,tT,tT,tT,tT,tT,tT,tT,fF,fF,fF] rfl rfl (any_of HT_.out (by kernel_rfl)) (fun _ _ _ h=>h) (Or.inl ⟨by rfl,?_⟩) ?_ ?_
       rotate_left
       ·intro w'
        go_simp
        with_reducible rfl
       rotate_left
       ·simp only [Act.put,sI,sZ,sS,i64_w,i32_w]
        rfl
       refine pure_ (i:=11) (N:=some 45) (v:=?_) (a':=?_) #[tT,tT,tT,tT,tT,tT,tT,tT,tT,tT,tT,tT,fF,fF] rfl rfl (any_of HT_.out (by kernel_rfl)) (fun _ _ _ h=>h) (Or.inl ⟨by rfl,?_⟩) ?_ ?_
       rotate_left
       ·intro w'
        go_simp
        with_reducible rfl
       rotate_left
       ·simp only [Act.put,sI,sZ,sS,i64_w,i32_w]
        rfl
       refine pure_ (i:=12) (N:=some 10) (v:=?_) (a':=?_) #[tT,tT,tT,tT,tT,tT,tT,tT,tT,tT,tT,tT,tT,fF] rfl rfl (any_of HT_.out (by kernel_rfl)) (fun _ _ _ h=>h) (Or.inl ⟨by rfl,?_⟩) ?_ ?_
       rotate_left
       ·intro w'
        go_simp
        with_reducible rfl
       rotate_left
       ·simp only [Act.put,sI,sZ,sS,i64_w,i32_w]
        rfl
       refine pure_ (i:=13) (N:=some 11) (v:=?_) (a':=?_) #[tT,tT,tT,tT,tT,tT,tT,tT,tT,tT,tT,tT,tT,tT] rfl rfl (any_of HT_.out (by kernel_rfl)) (fun _ _ _ h=>h) (Or.inl ⟨by rfl,?_⟩) ?_ ?_
       rotate_left
       ·intro w'
        go_simp
        with_reducible rfl
       rotate_left
       ·simp only [Act.put,sI,sZ,sS,i64_w,i32_w]
        rfl
       refine done_ (done_of HT_.out (by kernel_rfl)) ?_
       try go_wp2
       replace BK260:=aM (yD BK260.out);replace BK261:=aM (yD BK261.out);replace BK262:=aM (yD BK262.out);replace BK263:=aM (yD BK263.out);replace HB:=aM (zD HB.out)
       refine start_ (n:=14) (S:=fun w'=>w'.cell? ⟨gb260,0,none⟩ = some (.string a0_0) ∧ w'.cell? ⟨gb260,1,none⟩ = some (.string a0_1) ∧ w'.cell? ⟨gb261,0,none⟩ = some (.string a1_0) ∧ w'.cell? ⟨gb261,1,none⟩ = some (.string a1_1) ∧ w'.cell? ⟨gb262,0,none⟩ = some (.string a2_0) ∧ w'.cell? ⟨gb262,1,none⟩ = some (.string a2_1) ∧ w'.cell? ⟨gb263,0,none⟩ = some (.string a3_0) ∧ w'.cell? ⟨gb263,1,none⟩ = some (.string a3_1)) (ds:=[]) #[fF,fF,fF,fF,fF,fF,fF,fF,fF,fF,fF,fF,fF,fF] (by kernel_rfl) rfl rfl ⟨(blk_cell BK260.out 0).trans rfl,(blk_cell BK260.out 1).trans rfl,(blk_cell BK261.out 0).trans rfl,(blk_cell BK261.out 1).trans rfl,(blk_cell BK262.out 0).trans rfl,(blk_cell BK262.out 1).trans rfl,(blk_cell BK263.out 0).trans rfl,(blk_cell BK263.out 1).trans rfl⟩ (fun hHeld=>?_);refine with_tabW laws_FnExactIsBetween.tab15 laws_FnExactIsBetween.bits15 (fun HT_ HW_=>?_)
       generalize w104.drew = w105 at BK260 BK261 BK262 BK263 HB hHeld ⊢
       refine take_ (i:=0) (N:=some 47) (v:=?_) (a':=?_) #[tT,fF,fF,fF,fF,fF,fF,fF,fF,fF,fF,fF,fF,fF] rfl rfl (take_ofW HT_.out HW_.out (by kernel_rfl)) (fun _ _ _ h=>h) (Or.inl ⟨by rfl,?_⟩) hHeld ?_ ?_
       rotate_left
       ·rintro w' ⟨s0,s1,s2,s3,s4,s5,s6,s7⟩
        go_simp
        with_reducible rfl
       rotate_left
       ·simp only [Act.put,sI,sZ,sS,i64_w,i32_w]
        rfl
       refine take_ (i:=2) (N:=some 49) (v:=?_) (a':=?_) #[tT,fF,tT,fF,fF,fF,fF,fF,fF,fF,fF,fF,fF,fF] rfl rfl (take_ofW HT_.out HW_.out (by kernel_rfl)) (fun _ _ _ h=>h) (Or.inl ⟨by rfl,?_⟩) hHeld ?_ ?_
       rotate_left
       ·rintro w' ⟨s0,s1,s2,s3,s4,s5,s6,s7⟩
        go_simp
        with_reducible rfl
       rotate_left
       ·simp only [Act.put,sI,sZ,sS,i64_w,i32_w]
        rfl
       refine take_ (i:=4) (N:=some 51) (v:=?_) (a':=?_) #[tT,fF,tT,fF,tT,fF,fF,fF,fF,fF,fF,fF,fF,fF] rfl rfl (take_ofW HT_.out HW_.out (by kernel_rfl)) (fun _ _ _ h=>h) (Or.inl ⟨by rfl,?_⟩) hHeld ?_ ?_
       rotate_left
       ·rintro w' ⟨s0,s1,s2,s3,s4,s5,s6,s7⟩
        go_simp
        with_reducible rfl
       rotate_left
       ·simp only [Act.put,sI,sZ,sS,i64_w,i32_w]
        rfl
       refine take_ (i:=6) (N:=some 53) (v:=?_) (a':=?_) #[tT,fF,tT,fF,tT,fF,tT,fF,fF,fF,fF,fF,fF,fF] rfl rfl (take_ofW HT_.out HW_.out (by kernel_rfl)) (fun _ _ _ h=>h) (Or.inl ⟨by rfl,?_⟩) hHeld ?_ ?_
       rotate_left
       ·rintro w' ⟨s0,s1,s2,s3,s4,s5,s6,s7⟩
        go_simp
        with_reducible rfl
       rotate_left
       ·simp only [Act.put,sI,sZ,sS,i64_w,i32_w]
        rfl
       refine one_ (i:=1) (N:=some 48) #[tT,tT,tT,fF,tT,fF,tT,fF,fF,fF,fF,fF,fF,fF] rfl rfl (one_of HT_.out (by kernel_rfl)) (by decide) (fun K hK=>?_)
       refine goes_ Try.func7 (by kernel_rfl) rfl #[.agg #[.string a0_0,.string a0_1]] (by rfl) rfl rfl (by (try simp only [sM,sC,sN]);first|done|rfl|(simp only [List.length_drop,List.length_take];rfl)) ?_
       with_reducible refine (laws_toSequence.calls a0_0 a0_1 t278 t279 _ A74.out).mono ?_
       rintro e w106 ⟨rfl,hb⟩
       refine ⟨_,rfl,?_⟩
       replace BK260:=kb BK260 hb;replace BK261:=kb BK261 hb;replace BK262:=kb BK262 hb;replace BK263:=kb BK263 hb;replace HB:=bs HB hb;(try clear hb)
       refine hK.out _ _ ⟨(blk_cell BK260.out 0).trans rfl,(blk_cell BK260.out 1).trans rfl,(blk_cell BK261.out 0).trans rfl,(blk_cell BK261.out 1).trans rfl,(blk_cell BK262.out 0).trans rfl,(blk_cell BK262.out 1).trans rfl,(blk_cell BK263.out 0).trans rfl,(blk_cell BK263.out 1).trans rfl⟩ (fun hHeld=>?_)
       clear hK K
       refine norm_ (a':=?_) ?_ ?_
       rotate_left
       ·show Act.put _ (some 48) _ = _
        simp only [Act.put,sI,sZ,sS,i64_w,i32_w]
        rfl
       refine one_ (i:=3) (N:=some 50) #[tT,tT,tT,tT,tT,fF,tT,fF,fF,fF,fF,fF,fF,fF] rfl rfl (one_of HT_.out (by kernel_rfl)) (by decide) (fun K hK=>?_)
       refine goes_ Try.func7 (by kernel_rfl) rfl #[.agg #[.string a1_0,.string a1_1]] (by rfl) rfl rfl (by (try simp only [sM,sC,sN]);first|done|rfl|(simp only [List.length_drop,List.length_take];rfl)) ?_
       with_reducible refine (laws_toSequence.calls a1_0 a1_1 t280 t281 _ A75.out).mono ?_
       rintro e w107 ⟨rfl,hb⟩
       refine ⟨_,rfl,?_⟩
       replace BK260:=kb BK260 hb;replace BK261:=kb BK261 hb;replace BK262:=kb BK262 hb;replace BK263:=kb BK263 hb;replace HB:=bs HB hb;(try clear hb)
       refine hK.out _ _ ⟨(blk_cell BK260.out 0).trans rfl,(blk_cell BK260.out 1).trans rfl,(blk_cell BK261.out 0).trans rfl,(blk_cell BK261.out 1).trans rfl,(blk_cell BK262.out 0).trans rfl,(blk_cell BK262.out 1).trans rfl,(blk_cell BK263.out 0).trans rfl,(blk_cell BK263.out 1).trans rfl⟩ (fun hHeld=>?_)
       clear hK K
       refine norm_ (a':=?_) ?_ ?_
       rotate_left
       ·show Act.put _ (some 50) _ = _
        simp only [Act.put,sI,sZ,sS,i64_w,i32_w]
        rfl
       refine one_ (i:=5) (N:=some 52) #[tT,tT,tT,tT,tT,tT,tT,fF,fF,fF,fF,fF,fF,fF] rfl rfl (one_of HT_.out (by kernel_rfl)) (by decide) (fun K hK=>?_)
       refine goes_ Try.func7 (by kernel_rfl) rfl #[.agg #[.string a2_0,.string a2_1]] (by rfl) rfl rfl (by (try simp only [sM,sC,sN]);first|done|rfl|(simp only [List.length_drop,List.length_take];rfl)) ?_
       with_reducible refine (laws_toSequence.calls a2_0 a2_1 t282 t283 _ A76.out).mono ?_
       rintro e w108 ⟨rfl,hb⟩
       refine ⟨_,rfl,?_⟩
       replace BK260:=kb BK260 hb;replace BK261:=kb BK261 hb;replace BK262:=kb BK262 hb;replace BK263:=kb BK263 hb;replace HB:=bs HB hb;(try clear hb)
       refine hK.out _ _ ⟨(blk_cell BK260.out 0).trans rfl,(blk_cell BK260.out 1).trans rfl,(blk_cell BK261.out 0).trans rfl,(blk_cell BK261.out 1).trans rfl,(blk_cell BK262.out 0).trans rfl,(blk_cell BK262.out 1).trans rfl,(blk_cell BK263.out 0).trans rfl,(blk_cell BK263.out 1).trans rfl⟩ (fun hHeld=>?_)
       clear hK K
       refine norm_ (a':=?_) ?_ ?_
       rotate_left
       ·show Act.put _ (some 52) _ = _
        simp only [Act.put,sI,sZ,sS,i64_w,i32_w]
        rfl
       refine one_ (i:=7) (N:=some 54) #[tT,tT,tT,tT,tT,tT,tT,tT,fF,fF,fF,fF,fF,fF] rfl rfl (one_of HT_.out (by kernel_rfl)) (by decide) (fun K hK=>?_)
       refine goes_ Try.func7 (by kernel_rfl) rfl #[.agg #[.string a3_0,.string a3_1]] (by rfl) rfl rfl (by (try simp only [sM,sC,sN]);first|done|rfl|(simp only [List.length_drop,List.length_take];rfl)) ?_
       with_reducible refine (laws_toSequence.calls a3_0 a3_1 t284 t285 _ A77.out).mono ?_
       rintro e w109 ⟨rfl,hb⟩
       refine ⟨_,rfl,?_⟩
       replace BK260:=kb BK260 hb;replace BK261:=kb BK261 hb;replace BK262:=kb BK262 hb;replace BK263:=kb BK263 hb;replace HB:=bs HB hb;(try clear hb)
       refine hK.out _ _ ⟨(blk_cell BK260.out 0).trans rfl,(blk_cell BK260.out 1).trans rfl,(blk_cell BK261.out 0).trans rfl,(blk_cell BK261.out 1).trans rfl,(blk_cell BK262.out 0).trans rfl,(blk_cell BK262.out 1).trans rfl,(blk_cell BK263.out 0).trans rfl,(blk_cell BK263.out 1).trans rfl⟩ (fun hHeld=>?_)
       clear hK K
       refine norm_ (a':=?_) ?_ ?_
       rotate_left
       ·show Act.put _ (some 54) _ = _
        simp only [Act.put,sI,sZ,sS,i64_w,i32_w]
        rfl
       refine one_ (i:=8) (N:=some 55) #[tT,tT,tT,tT,tT,tT,tT,tT,tT,fF,fF,fF,fF,fF] rfl rfl (one_of HT_.out (by kernel_rfl)) (by decide) (fun K hK=>?_)
       refine goes_ Try.func8 (by kernel_rfl) rfl #[.agg #[.string t278,.string t279],.agg #[.string t280,.string t281],.agg #[.string t282,.string t283],.agg #[.string t284,.string t285]] (by rfl) rfl rfl (by (try simp only [sM,sC,sN]);first|done|rfl|(simp only [List.length_drop,List.length_take];rfl)) ?_
       with_reducible refine (impl_IsBetween.calls k t278 t279 t280 t281 t282 t283 t284 t285 t286 t287 _ A78.out).mono ?_
       rintro e w110 ⟨rfl,hb⟩
       refine ⟨_,rfl,?_⟩
       replace BK260:=kb BK260 hb;replace BK261:=kb BK261 hb;replace BK262:=kb BK262 hb;replace BK263:=kb BK263 hb;replace HB:=bs HB hb;(try clear hb)
       refine hK.out _ _ ⟨(blk_cell BK260.out 0).trans rfl,(blk_cell BK260.out 1).trans rfl,(blk_cell BK261.out 0).trans rfl,(blk_cell BK261.out 1).trans rfl,(blk_cell BK262.out 0).trans rfl,(blk_cell BK262.out 1).trans rfl,(blk_cell BK263.out 0).trans rfl,(blk_cell BK263.out 1).trans rfl⟩ (fun hHeld=>?_)
       clear hK K
       refine norm_ (a':=?_) ?_ ?_
       rotate_left
       ·show Act.put _ (some 55) _ = _
        simp only [Act.put,sI,sZ,sS,i64_w,i32_w]
        rfl
       refine pure_ (i:=9) (N:=some 46) (v:=?_) (a':=?_) #[tT,tT,tT,tT,tT,tT,tT,tT,tT,tT,fF,fF,fF,fF] rfl rfl (any_of HT_.out (by kernel_rfl)) (fun _ _ _ h=>h) (Or.inl ⟨by rfl,?_⟩) ?_ ?_
       rotate_left
       ·intro w'
        go_simp
        with_reducible rfl
       rotate_left
       ·simp only [Act.put,sI,sZ,sS,i64_w,i32_w]
        rfl
       refine pure_ (i:=10) (N:=some 56) (v:=?_) (a':=?_) #[tT,tT,tT,tT,tT,tT,tT,tT,tT,tT,tT,fF,fF,fF] rfl rfl (any_of HT_.out (by kernel_rfl)) (fun _ _ _ h=>h) (Or.inl ⟨by rfl,?_⟩) ?_ ?_
       rotate_left
       ·intro w'
        go_simp
        with_reducible rfl
       rotate_left
       ·simp only [Act.put,sI,sZ,sS,i64_w,i32_w]
        rfl
       refine pure_ (i:=11) (N:=some 57) (v:=?_) (a':=?_) #[tT,tT,tT,tT,tT,tT,tT,tT,tT,tT,tT,tT,fF,fF] rfl rfl (any_of HT_.out (by kernel_rfl)) (fun _ _ _ h=>h) (Or.inl ⟨by rfl,?_⟩) ?_ ?_
       rotate_left
       ·intro w'
        go_simp
        with_reducible rfl
       rotate_left
       ·simp only [Act.put,sI,sZ,sS,i64_w,i32_w]
        rfl
       refine pure_ (i:=12) (N:=some 12) (v:=?_) (a':=?_) #[tT,tT,tT,tT,tT,tT,tT,tT,tT,tT,tT,tT,tT,fF] rfl rfl (any_of HT_.out (by kernel_rfl)) (fun _ _ _ h=>h) (Or.inl ⟨by rfl,?_⟩) ?_ ?_
       rotate_left
       ·intro w'
        go_simp
        with_reducible rfl
       rotate_left
       ·simp only [Act.put,sI,sZ,sS,i64_w,i32_w]
        rfl
       refine pure_ (i:=13) (N:=some 13) (v:=?_) (a':=?_) #[tT,tT,tT,tT,tT,tT,tT,tT,tT,tT,tT,tT,tT,tT] rfl rfl (any_of HT_.out (by kernel_rfl)) (fun _ _ _ h=>h) (Or.inl ⟨by rfl,?_⟩) ?_ ?_
       rotate_left
       ·intro w'
        go_simp
        with_reducible rfl
       rotate_left
       ·simp only [Act.put,sI,sZ,sS,i64_w,i32_w]
        rfl
       refine done_ (done_of HT_.out (by kernel_rfl)) ?_
       try go_wp2
       go_ret
       exact ⟨by first|rfl|(simp [errW_none,errW_some] <;> rfl)|(simp [*,errW_none,errW_some] <;> rfl),bb HB⟩
      ·rw [if_neg c80] at H
       have c80b0:(t287 == t277) = false:=beq_eq_false_iff_ne.mpr c80
       have c80b1:(t287 != t277) = true:=bne_iff_ne.mpr c80
       exact absurd H (by simp)
end Go.Proofs.Ytbiehbmojbmnoaa.Q
end
section
namespace Go.Proofs.Ytbiehbmojbmnoaa.Q
open Go.RowKit Go.Proofs.YtbiehbmojbmnoaaW.PrintWords Go.Proofs.YtbiehbmojbmnoaaW.PrintLast Go.Proofs.YtbiehbmojbmnoaaW.Ext
set_option linter.unusedVariables false
set_option linter.unusedSimpArgs false
theorem wrS {x : Int} (h0 : -9223372036854775808 ≤ x) (h1 : x ≤ 9223372036854775807) : wrap64 x = x := by unfold wrap64; omega
def lettersB (s : ByteArray) : Bool := (bytesOf s).all isLetterN
theorem get_bytesOf (s : ByteArray) (i : Nat) (hi : i < (bytesOf s).length) : (bytesOf s)[i] = bt s (i : Int) := by
  rw [← rd_bytesOf]
  simp [rd, hi]
theorem ev_spec_letters (s : ByteArray) (hs : s.size ≤ 1048576) : Ev (fun k => spec_l01Letters.f k s) (lettersB s) := by
  unfold spec_l01Letters.f lettersB
  have key : ∀ d i : Nat, i + d = s.size → Ev (fun k => spec_l01Letters.l0 k s (i : Int)) (((bytesOf s).drop i).all isLetterN) := by
    intro d
    induction d with
    | zero =>
      intro i h
      refine Ev.step (f := fun _ => some true) (fun k => by rw [spec_l01Letters.l0, if_neg (by omega)]) ?_
      rw [List.drop_of_length_le (by rw [bytesOf_length]; omega)]
      exact Ev.now _
    | succ d ih =>
      intro i h
      have hi : i < (bytesOf s).length := by rw [bytesOf_length]; omega
      refine Ev.step (f := fun k => if isLetterN (bt s (i : Int)) = true then spec_l01Letters.l0 k s ((i + 1 : Nat) : Int) else some false) (fun k => ?_) ?_
      · rw [spec_l01Letters.l0, if_pos (by omega), if_pos (by omega), wrS (x := (i : Int) + 1) (by omega) (by omega)]
        rw [show ((i : Int) + 1) = ((i + 1 : Nat) : Int) by omega]
        unfold isLetterN
        by_cases h1 : bt s (i : Int) = 48
        · simp [h1]
        · by_cases h2 : bt s (i : Int) = 49
          · simp [h2]
          · by_cases h3 : bt s (i : Int) = 42
            · simp [h3]
            · simp [h1, h2, h3]
      · rw [List.drop_eq_getElem_cons hi, List.all_cons, get_bytesOf s i hi]
        cases hl : isLetterN (bt s (i : Int)) with
        | true => simpa using ih (i + 1) (by omega)
        | false => simpa using Ev.now false
  simpa using key s.size 0 (by omega)
theorem impl_letters (s : ByteArray) (hs : s.size ≤ 1048576 + 1048576) : impl_areLetters.f s = some (lettersB s) := by
  unfold impl_areLetters.f lettersB
  rw [if_pos (by omega)]
theorem letters_append (a b : ByteArray) : lettersB (a ++ b) = (lettersB a && lettersB b) := by
  unfold lettersB bytesOf
  rw [← List.all_append, ← List.map_append]
  simp
def perP (s : ByteArray) (m : Nat) : Prop := s.size % m = 0 ∧ ∀ i : Nat, m ≤ i → i < s.size → bt s (i : Int) = bt s ((i - m : Nat) : Int)
theorem leastS {P : Nat → Prop} : ∀ n, 1 ≤ n → P n → ∃ M, 1 ≤ M ∧ M ≤ n ∧ P M ∧ ∀ j, 1 ≤ j → j < M → ¬ P j := by
  intro n
  induction n using Nat.strongRecOn with
  | _ n ih =>
    intro h1 hn
    by_cases h : ∃ j, 1 ≤ j ∧ j < n ∧ P j
    · obtain ⟨j, a, b, c⟩ := h
      obtain ⟨M, m1, m2, m3, m4⟩ := ih j b a c
      exact ⟨M, m1, by omega, m3, m4⟩
    · exact ⟨n, h1, Nat.le_refl _, hn, fun j a b c => h ⟨j, a, b, c⟩⟩
theorem perP_least (s : ByteArray) (h : 1 ≤ s.size) : ∃ M, 1 ≤ M ∧ M ≤ s.size ∧ perP s M ∧ ∀ j, 1 ≤ j → j < M → ¬ perP s j :=
  leastS s.size h ⟨Nat.mod_self _, fun i h1 h2 => by omega⟩
section
variable {s x : ByteArray} {r : ByteArray × ByteArray}
theorem in_false (hs : s.size ≤ 1048576) {c : Nat} (h1 : 1 ≤ c) (hc : c < s.size) (hr : Ev (fun k => spec_l01Canonical.l0 k x s (s.size : Int) ((c + 1 : Nat) : Int)) r) :
    ∀ d i : Nat, i + d = s.size → Ev (fun k => spec_l01Canonical.l1 k x s (s.size : Int) (c : Int) false (i : Int)) r := by
  intro d
  induction d with
  | zero =>
    intro i h
    refine Ev.step (f := fun k => spec_l01Canonical.l0 k x s (s.size : Int) ((c + 1 : Nat) : Int)) (fun k => ?_) hr
    rw [spec_l01Canonical.l1, if_neg (by omega), if_neg (by decide), wrS (x := (c : Int) + 1) (by omega) (by omega)]
    rw [show (c : Int) + 1 = ((c + 1 : Nat) : Int) by omega]
  | succ d ih =>
    intro i h
    refine Ev.step (f := fun k => spec_l01Canonical.l1 k x s (s.size : Int) (c : Int) false ((i + 1 : Nat) : Int)) (fun k => ?_) (ih (i + 1) (by omega))
    rw [spec_l01Canonical.l1, if_pos (by omega), if_neg (by decide), wrS (x := (i : Int) + 1) (by omega) (by omega)]
    rw [show (i : Int) + 1 = ((i + 1 : Nat) : Int) by omega]
theorem in_step (hs : s.size ≤ 1048576) {c i : Nat} (h1 : 1 ≤ c) (hi : i < s.size) (hc : c ≤ i) (k : Nat) :
    spec_l01Canonical.l1 (k + 1) x s (s.size : Int) (c : Int) true (i : Int) = spec_l01Canonical.l1 k x s (s.size : Int) (c : Int) (bt s (i : Int) == bt s ((i - c : Nat) : Int)) ((i + 1 : Nat) : Int) := by
  rw [spec_l01Canonical.l1, if_pos (by omega), if_pos rfl, if_pos (by omega), if_pos (by omega), wrS (x := (i : Int) - (c : Int)) (by omega) (by omega), if_pos (by omega), if_pos (by omega), wrS (x := (i : Int) + 1) (by omega) (by omega)]
  rw [show (i : Int) + 1 = ((i + 1 : Nat) : Int) by omega, show (i : Int) - (c : Int) = ((i - c : Nat) : Int) by omega]
theorem in_all (hs : s.size ≤ 1048576) {c : Nat} (h1 : 1 ≤ c) (hc : c ≤ s.size) (hp : ∀ i : Nat, c ≤ i → i < s.size → bt s (i : Int) = bt s ((i - c : Nat) : Int)) (hr : Ev (fun k => spec_l01Canonical.j2 k x (s.extract 0 c)) r) :
    ∀ d i : Nat, i + d = s.size → c ≤ i → Ev (fun k => spec_l01Canonical.l1 k x s (s.size : Int) (c : Int) true (i : Int)) r := by
  intro d
  induction d with
  | zero =>
    intro i h _
    refine Ev.step (f := fun k => spec_l01Canonical.j2 k x (s.extract 0 c)) (fun k => ?_) hr
    rw [spec_l01Canonical.l1, if_neg (by omega), if_pos rfl, if_pos (by omega), if_pos (by omega), Int.toNat_natCast]
  | succ d ih =>
    intro i h hci
    refine Ev.step (f := fun k => spec_l01Canonical.l1 k x s (s.size : Int) (c : Int) true ((i + 1 : Nat) : Int)) (fun k => ?_) (ih (i + 1) (by omega) (by omega))
    rw [in_step hs h1 (by omega) hci, hp i hci (by omega)]
    simp
theorem in_some (hs : s.size ≤ 1048576) {c : Nat} (h1 : 1 ≤ c) (hc : c < s.size) (hr : Ev (fun k => spec_l01Canonical.l0 k x s (s.size : Int) ((c + 1 : Nat) : Int)) r) :
    ∀ d i : Nat, i + d = s.size → c ≤ i → (∃ t, i ≤ t ∧ t < s.size ∧ bt s (t : Int) ≠ bt s ((t - c : Nat) : Int)) → Ev (fun k => spec_l01Canonical.l1 k x s (s.size : Int) (c : Int) true (i : Int)) r := by
  intro d
  induction d with
  | zero =>
    intro i h _ ht
    obtain ⟨t, t1, t2, _⟩ := ht
    omega
  | succ d ih =>
    intro i h hci ht
    obtain ⟨t, t1, t2, t3⟩ := ht
    by_cases e : bt s (i : Int) = bt s ((i - c : Nat) : Int)
    · refine Ev.step (f := fun k => spec_l01Canonical.l1 k x s (s.size : Int) (c : Int) true ((i + 1 : Nat) : Int)) (fun k => ?_) (ih (i + 1) (by omega) (by omega) ⟨t, ?_, t2, t3⟩)
      · rw [in_step hs h1 (by omega) hci, e]
        simp
      · rcases Nat.lt_or_ge i t with h' | h'
        · exact h'
        · have : t = i := by omega
          subst this
          exact absurd e t3
    · refine Ev.step (f := fun k => spec_l01Canonical.l1 k x s (s.size : Int) (c : Int) false ((i + 1 : Nat) : Int)) (fun k => ?_) (in_false hs h1 hc hr d (i + 1) (by omega))
      rw [in_step hs h1 (by omega) hci, beq_eq_false_iff_ne.2 e]
theorem not_perP {c : Nat} (h : ¬ perP s c) (hd : s.size % c = 0) : ∃ t, c ≤ t ∧ t < s.size ∧ bt s (t : Int) ≠ bt s ((t - c : Nat) : Int) := by
  by_cases g : ∃ t, c ≤ t ∧ t < s.size ∧ bt s (t : Int) ≠ bt s ((t - c : Nat) : Int)
  · exact g
  · exfalso
    refine h ⟨hd, fun i h1 h2 => ?_⟩
    by_cases e : bt s (i : Int) = bt s ((i - c : Nat) : Int)
    · exact e
    · exact absurd ⟨i, h1, h2, e⟩ g
theorem tmod_nat (a b : Nat) : Int.tmod (a : Int) (b : Int) = ((a % b : Nat) : Int) := by
  rw [Int.tmod_eq_emod_of_nonneg (by omega)]
  omega
theorem out_root (hs : s.size ≤ 1048576) {m : Nat} (m1 : 1 ≤ m) (m2 : m ≤ s.size) (hp : perP s m) (hl : ∀ j, 1 ≤ j → j < m → ¬ perP s j) (hr : Ev (fun k => spec_l01Canonical.j2 k x (s.extract 0 m)) r) :
    ∀ d c : Nat, c + d = m → 1 ≤ c → Ev (fun k => spec_l01Canonical.l0 k x s (s.size : Int) (c : Int)) r := by
  intro d
  induction d with
  | zero =>
    intro c h h1
    obtain rfl : c = m := by omega
    refine Ev.step (f := fun k => spec_l01Canonical.l1 k x s (s.size : Int) (c : Int) true (c : Int)) (fun k => ?_) (in_all hs h1 m2 hp.2 hr (s.size - c) c (by omega) (Nat.le_refl _))
    rw [spec_l01Canonical.l0, if_pos (by omega), if_neg (by omega), tmod_nat, hp.1, if_pos (by omega)]
  | succ d ih =>
    intro c h h1
    have next := ih (c + 1) (by omega) (by omega)
    by_cases hd : s.size % c = 0
    · refine Ev.step (f := fun k => spec_l01Canonical.l1 k x s (s.size : Int) (c : Int) true (c : Int)) (fun k => ?_) (in_some hs h1 (by omega) next (s.size - c) c (by omega) (Nat.le_refl _) (not_perP (hl c h1 (by omega)) hd))
      rw [spec_l01Canonical.l0, if_pos (by omega), if_neg (by omega), tmod_nat, hd, if_pos (by omega)]
    · refine Ev.step (f := fun k => spec_l01Canonical.l0 k x s (s.size : Int) ((c + 1 : Nat) : Int)) (fun k => ?_) next
      rw [spec_l01Canonical.l0, if_pos (by omega), if_neg (by omega), tmod_nat, if_neg (by omega), wrS (x := (c : Int) + 1) (by omega) (by omega)]
      rw [show (c : Int) + 1 = ((c + 1 : Nat) : Int) by omega]
end
theorem rep_get (l : List UInt8) (hl : 0 < l.length) : ∀ c i, i < c * l.length → (Lib.repeatL l c)[i]? = l[i % l.length]? := by
  intro c
  induction c with
  | zero => intro i h; omega
  | succ c ih =>
    intro i h
    show (l ++ Lib.repeatL l c)[i]? = _
    rw [Nat.succ_mul] at h
    by_cases hi : i < l.length
    · rw [List.getElem?_append_left hi, Nat.mod_eq_of_lt hi]
    · rw [List.getElem?_append_right (by omega), ih (i - l.length) (by omega), ← Nat.mod_eq_sub_mod (by omega)]
theorem bt_eq (s t : ByteArray) (i j : Nat) (hi : i < s.size) (hj : j < t.size) : bt s (i : Int) = bt t (j : Int) ↔ s.data.toList[i]? = t.data.toList[j]? := by
  have hi' : i < s.data.toList.length := by rw [← Lib.size_eq]; exact hi
  have hj' : j < t.data.toList.length := by rw [← Lib.size_eq]; exact hj
  rw [List.getElem?_eq_getElem hi', List.getElem?_eq_getElem hj']
  unfold bt
  rw [Int.toNat_natCast, Int.toNat_natCast, dif_pos hi, dif_pos hj]
  have e1 : s[i] = s.data.toList[i] := by simp [ByteArray.getElem_eq_getElem_data]
  have e2 : t[j] = t.data.toList[j] := by simp [ByteArray.getElem_eq_getElem_data]
  rw [e1, e2]
  constructor
  · intro h
    have : s.data.toList[i].toNat = t.data.toList[j].toNat := by omega
    rw [UInt8.toNat_inj.1 this]
  · intro h
    rw [Option.some.inj h]
theorem per_mod {s : ByteArray} {c : Nat} (h1 : 1 ≤ c) (hc : c ≤ s.size) : (∀ i : Nat, c ≤ i → i < s.size → bt s (i : Int) = bt s ((i - c : Nat) : Int)) ↔ (∀ i : Nat, i < s.size → bt s (i : Int) = bt s ((i % c : Nat) : Int)) := by
  constructor
  · intro h i
    induction i using Nat.strongRecOn with
    | _ i ih =>
      intro hi
      by_cases hci : c ≤ i
      · rw [h i hci hi, ih (i - c) (by omega) (by omega), ← Nat.mod_eq_sub_mod hci]
      · rw [Nat.mod_eq_of_lt (by omega)]
  · intro h i hci hi
    rw [h i hi, h (i - c) (by omega), ← Nat.mod_eq_sub_mod hci]
theorem rep_iff {s : ByteArray} {c : Nat} (h1 : 1 ≤ c) (hc : c ≤ s.size) (hd : s.size % c = 0) :
    (Go.Proofs.Ytbiehbmojbmnoaa.Rep.val (s.extract 0 c) ((s.size / c : Nat) : Int)).toList = s.toList ↔ ∀ i : Nat, c ≤ i → i < s.size → bt s (i : Int) = bt s ((i - c : Nat) : Int) := by
  rw [per_mod h1 hc, Lib.toList_data, Lib.toList_data]
  unfold Go.Proofs.Ytbiehbmojbmnoaa.Rep.val
  rw [Int.toNat_natCast, Lib.extract_data]
  simp only [List.drop_zero, Nat.sub_zero]
  have hL : s.data.toList.length = s.size := (Lib.size_eq s).symm
  have hl : (s.data.toList.take c).length = c := by rw [List.length_take, hL]; omega
  have hn : s.size / c * c = s.size := Nat.div_mul_cancel (Nat.dvd_of_mod_eq_zero hd)
  have hlen : (Lib.repeatL (s.data.toList.take c) (s.size / c)).length = s.size := by rw [Lib.repeatL_length, hl, hn]
  have get : ∀ i, i < s.size → (Lib.repeatL (s.data.toList.take c) (s.size / c))[i]? = s.data.toList[i % c]? := by
    intro i hi
    rw [rep_get _ (by omega) _ _ (by rw [hl, hn]; exact hi), hl, List.getElem?_take, if_pos (Nat.mod_lt _ (by omega))]
  constructor
  · intro h i hi
    have hm : i % c < s.size := Nat.lt_of_lt_of_le (Nat.mod_lt _ (by omega)) hc
    rw [bt_eq s s i (i % c) hi hm, ← get i hi, h]
  · intro h
    refine List.ext_getElem? fun i => ?_
    by_cases hi : i < s.size
    · have hm : i % c < s.size := Nat.lt_of_lt_of_le (Nat.mod_lt _ (by omega)) hc
      have := (bt_eq s s i (i % c) hi hm).1 (h i hi)
      rw [this]
      exact get i hi
    · rw [List.getElem?_eq_none (by show _ ≤ _; simp only [hlen]; omega), List.getElem?_eq_none (by omega)]
theorem ev_impl_root {s : ByteArray} (hs : s.size ≤ 8192) {m : Nat} (m1 : 1 ≤ m) (m2 : m ≤ s.size) (hp : perP s m) (hl : ∀ j, 1 ≤ j → j < m → ¬ perP s j) :
    Ev (fun k => impl_root.f k s) (s.extract 0 m) := by
  unfold impl_root.f
  have key : ∀ d c : Nat, c + d = m → 1 ≤ c → Ev (fun k => impl_root.l0 k s (c : Int)) (s.extract 0 m) := by
    intro d
    have ev : ∀ c : Nat, 1 ≤ c → c ≤ s.size → s.size % c = 0 → ∀ k, impl_root.l0 (k + 1) s (c : Int) = if (Go.Proofs.Ytbiehbmojbmnoaa.Rep.val (s.extract 0 c) ((s.size / c : Nat) : Int)).toList = s.toList then some (s.extract 0 c) else impl_root.l0 k s ((c + 1 : Nat) : Int) := by
      intro c h1 hc hd k
      have hq : s.size / c * c = s.size := Nat.div_mul_cancel (Nat.dvd_of_mod_eq_zero hd)
      have hq2 : s.size / c ≤ s.size := Nat.div_le_self _ _
      have hx : (s.extract 0 c).size = c := by simp; omega
      rw [impl_root.l0, if_neg (by omega), if_pos (by omega), if_pos (by omega), if_pos (by omega)]
      unfold strings_Repeat.f
      rw [show ((s.size : Nat) : Int) / (c : Int) = ((s.size / c : Nat) : Int) from (Int.natCast_ediv _ _).symm]
      generalize s.size / c = q at *
      rw [wrS (x := (q : Int)) (by omega) (by omega), Int.toNat_natCast, Int.toNat_natCast, if_pos ⟨by omega, by omega, by rw [hx, Nat.mul_comm, hq]; omega⟩]
      rw [wrS (x := (c : Int) + 1) (by omega) (by omega), show (c : Int) + 1 = ((c + 1 : Nat) : Int) by omega]
      rfl
    induction d with
    | zero =>
      intro c h h1
      obtain rfl : c = m := by omega
      refine Ev.step (f := fun k => some (s.extract 0 c)) (fun k => ?_) (Ev.now _)
      rw [ev c h1 m2 hp.1, if_pos ((rep_iff h1 m2 hp.1).2 hp.2)]
    | succ d ih =>
      intro c h h1
      have next := ih (c + 1) (by omega) (by omega)
      refine Ev.step (f := fun k => impl_root.l0 k s ((c + 1 : Nat) : Int)) (fun k => ?_) next
      by_cases hd : s.size % c = 0
      · rw [ev c h1 (by omega) hd, if_neg (fun e => hl c h1 (by omega) ⟨hd, (rep_iff h1 (by omega) hd).1 e⟩)]
      · rw [impl_root.l0, if_neg (by omega), if_neg (by omega), wrS (x := (c : Int) + 1) (by omega) (by omega)]
        rw [show (c : Int) + 1 = ((c + 1 : Nat) : Int) by omega]
  exact key (m - 1) 1 (by omega) (by omega)
def rotB : Nat → ByteArray → ByteArray → ByteArray × ByteArray
  | 0, x, y => (x, y)
  | n + 1, x, y => if bt x (n : Int) = bt y ((y.size - 1 : Nat) : Int) then rotB n (x.extract 0 n) (y.extract (y.size - 1) y.size ++ y.extract 0 (y.size - 1)) else (x, y)
theorem rot_size (y : ByteArray) (h : 1 ≤ y.size) : (y.extract (y.size - 1) y.size ++ y.extract 0 (y.size - 1)).size = y.size := by
  simp <;> omega
theorem rotB_size : ∀ n x y, x.size = n → 1 ≤ y.size → (rotB n x y).1.size ≤ n ∧ (rotB n x y).2.size = y.size := by
  intro n
  induction n with
  | zero => intro x y hx hy; simp [rotB, hx]
  | succ n ih =>
    intro x y hx hy
    unfold rotB
    split
    · have := ih (x.extract 0 n) (y.extract (y.size - 1) y.size ++ y.extract 0 (y.size - 1)) (by simp; omega) (by rw [rot_size y hy]; exact hy)
      rw [rot_size y hy] at this
      omega
    · simp [hx]
theorem nil_iff (x : ByteArray) : x.toList = ([] : List UInt8) ↔ x.size = 0 := by
  rw [Lib.toList_data, Lib.size_eq]
  exact List.length_eq_zero_iff.symm
theorem ev_spec_rot : ∀ n x y, x.size = n → n ≤ 4096 → 1 ≤ y.size → y.size ≤ 4096 → Ev (fun k => spec_l01Canonical.l2 k x y) (rotB n x y) := by
  intro n
  induction n with
  | zero =>
    intro x y hx _ _ _
    exact Ev.step (f := fun _ => some (x, y)) (fun k => by rw [spec_l01Canonical.l2, if_neg (by omega)]) (Ev.now _)
  | succ n ih =>
    intro x y hx hn hy hy64
    refine Ev.step (f := fun k => if bt x (n : Int) = bt y ((y.size - 1 : Nat) : Int) then spec_l01Canonical.l2 k (x.extract 0 n) (y.extract (y.size - 1) y.size ++ y.extract 0 (y.size - 1)) else some (x, y)) (fun k => ?_) ?_
    · have e := rot_size y hy
      rw [ByteArray.size_append] at e
      rw [spec_l01Canonical.l2, if_pos (by omega), wrS (x := (x.size : Int) - 1) (by omega) (by omega), wrS (x := (y.size : Int) - 1) (by omega) (by omega), show (x.size : Int) - 1 = (n : Int) by omega, show (y.size : Int) - 1 = ((y.size - 1 : Nat) : Int) by omega]
      rw [if_pos (by omega), if_pos (by omega), if_pos (by omega), if_pos (by omega), if_pos (show ((y.size - 1 : Nat) : Int) ≤ (y.size : Int) by omega), Int.toNat_natCast, Int.toNat_natCast, if_pos (show (y.extract (y.size - 1) y.size).size + (y.extract 0 (y.size - 1)).size ≤ 9223372036854775807 by omega), if_pos (show (n : Int) ≤ (x.size : Int) by omega)]
    · unfold rotB
      by_cases h : bt x (n : Int) = bt y ((y.size - 1 : Nat) : Int)
      · simp only [if_pos h]
        exact ih _ _ (by simp; omega) (by omega) (by rw [rot_size y hy]; exact hy) (by rw [rot_size y hy]; exact hy64)
      · simp only [if_neg h]
        exact Ev.now _
theorem ev_impl_rot : ∀ n x y, x.size = n → n ≤ 4096 → 1 ≤ y.size → y.size ≤ 4096 → Ev (fun k => impl_sequence.l0 k x y) (rotB n x y) := by
  intro n
  induction n with
  | zero =>
    intro x y hx _ _ _
    exact Ev.step (f := fun _ => some (x, y)) (fun k => by rw [impl_sequence.l0, if_pos ((nil_iff x).2 hx)]) (Ev.now _)
  | succ n ih =>
    intro x y hx hn hy hy64
    refine Ev.step (f := fun k => if bt x (n : Int) = bt y ((y.size - 1 : Nat) : Int) then impl_sequence.l0 k (x.extract 0 n) (y.extract (y.size - 1) y.size ++ y.extract 0 (y.size - 1)) else some (x, y)) (fun k => ?_) ?_
    · have e := rot_size y hy
      rw [ByteArray.size_append] at e
      rw [impl_sequence.l0, if_neg (fun z => by have := (nil_iff x).1 z; omega), wrS (x := (x.size : Int) - 1) (by omega) (by omega), wrS (x := (y.size : Int) - 1) (by omega) (by omega), show (x.size : Int) - 1 = (n : Int) by omega, show (y.size : Int) - 1 = ((y.size - 1 : Nat) : Int) by omega]
      rw [if_pos (by omega), if_pos (by omega), if_pos (by omega), if_pos (by omega), if_pos (show (n : Int) ≤ (x.size : Int) by omega), if_pos (show ((y.size - 1 : Nat) : Int) ≤ (y.size : Int) by omega), Int.toNat_natCast, Int.toNat_natCast, if_pos (show (y.extract (y.size - 1) y.size).size + (y.extract 0 (y.size - 1)).size ≤ 9223372036854775807 by omega)]
    · unfold rotB
      by_cases h : bt x (n : Int) = bt y ((y.size - 1 : Nat) : Int)
      · simp only [if_pos h]
        exact ih _ _ (by simp; omega) (by omega) (by rw [rot_size y hy]; exact hy) (by rw [rot_size y hy]; exact hy64)
      · simp only [if_neg h]
        exact Ev.now _
def Cn (x y : ByteArray) : Prop := x.size = 0 ∨ bt x ((x.size - 1 : Nat) : Int) ≠ bt y ((y.size - 1 : Nat) : Int)
theorem rot_cn (x y z : ByteArray) (hz : 1 ≤ z.size) (h1 : (rotB x.size x z).1 = x) (h2 : (rotB x.size x z).2 = y) : Cn x y := by
  cases hn : x.size with
  | zero => exact .inl hn
  | succ n =>
    right
    rw [hn, rotB] at h1 h2
    by_cases e : bt x (n : Int) = bt z ((z.size - 1 : Nat) : Int)
    · rw [if_pos e] at h1
      have := (rotB_size n (x.extract 0 n) (z.extract (z.size - 1) z.size ++ z.extract 0 (z.size - 1)) (by simp; omega) (by rw [rot_size z hz]; exact hz)).1
      rw [h1] at this
      omega
    · rw [if_neg e] at h2
      have h2 : z = y := h2
      subst h2
      rw [hn, Nat.add_sub_cancel]
      exact e
theorem both_canon (x y : ByteArray) (hy : 1 ≤ y.size) (h64 : x.size + y.size ≤ 4096) :
    ∃ c : ByteArray × ByteArray, Ev (fun k => spec_l01Canonical.f k x y) c ∧ Ev (fun k => impl_sequence.f k x y) c ∧ c.1.size ≤ x.size ∧ 1 ≤ c.2.size ∧ c.2.size ≤ y.size ∧ (c.1 = x → c.2 = y → Cn x y) := by
  obtain ⟨m, m1, m2, hp, hl⟩ := perP_least y hy
  have hz : (y.extract 0 m).size = m := by simp; omega
  have sz := rotB_size x.size x (y.extract 0 m) rfl (by omega)
  refine ⟨rotB x.size x (y.extract 0 m), ?_, ?_, sz.1, by omega, by omega, rot_cn x y (y.extract 0 m) (by omega)⟩
  · unfold spec_l01Canonical.f
    have hr : Ev (fun k => spec_l01Canonical.j2 k x (y.extract 0 m)) (rotB x.size x (y.extract 0 m)) :=
      Ev.step (f := fun k => spec_l01Canonical.l2 k x (y.extract 0 m)) (fun k => by rw [spec_l01Canonical.j2]) (ev_spec_rot x.size x (y.extract 0 m) rfl (by omega) (by omega) (by omega))
    exact out_root (by omega) m1 m2 hp hl hr (m - 1) 1 (by omega) (by omega)
  · unfold impl_sequence.f
    refine Ev.bind (ev_impl_root (by omega) m1 m2 hp hl) ?_
    exact ev_impl_rot x.size x (y.extract 0 m) rfl (by omega) (by omega) (by omega)
theorem sz_some (a b : ByteArray) (n : Int) (h0 : 0 ≤ n) (h1 : n ≤ 1048576) (ha : a.size ≤ maxLen) (hb : b.size ≤ maxLen) :
    ∃ z, laws_szSequence.f a b n = some z ∧ (z < 0 ∨ (0 ≤ z ∧ z ≤ n ∧ (a.size : Int) + (b.size : Int) ≤ n)) := by
  unfold maxLen at ha hb
  unfold laws_szSequence.f
  rw [wrS (x := n - (a.size : Int)) (by omega) (by omega)]
  by_cases c : n - (a.size : Int) < 0
  · exact ⟨-1, by rw [if_pos c], by omega⟩
  · rw [if_neg c, wrS (x := n - (a.size : Int) - (b.size : Int)) (by omega) (by omega)]
    by_cases d : n - (a.size : Int) - (b.size : Int) < 0
    · exact ⟨-1, by rw [if_pos d], by omega⟩
    · exact ⟨_, by rw [if_neg d], by omega⟩
theorem given_val (a b : ByteArray) (h : a.size + b.size ≤ 4194304) : impl_areGiven.f a b = some (decide (1 ≤ b.size ∧ a.size + b.size ≤ 64)) := by
  unfold impl_areGiven.f
  by_cases hb : b.size = 0
  · rw [if_pos ((nil_iff b).2 hb)]
    simp [hb]
  · rw [if_neg (fun z => hb ((nil_iff b).1 z)), wrS (by omega) (by omega)]
    congr 1
    rw [decide_eq_decide]
    omega
theorem bytes_ext {x y : ByteArray} (h : x.toList = y.toList) : x = y := by
  rw [Lib.toList_data, Lib.toList_data] at h
  cases x; cases y
  simp only [ByteArray.mk.injEq]
  exact Array.ext' h
theorem both_seq (a b : ByteArray) (h : a.size + b.size ≤ 1048576) : ∃ r : Bool, Ev (fun k => spec_l01Seq.f k a b) r ∧ Ev (fun k => impl_IsSequence.f k a b) r ∧
    (r = true → lettersB a = true ∧ lettersB b = true ∧ 1 ≤ b.size ∧ a.size + b.size ≤ 64 ∧ Cn a b) := by
  have la := ev_spec_letters a (by omega)
  have lb := ev_spec_letters b (by omega)
  have li : impl_areLetters.f (a ++ b) = some (lettersB a && lettersB b) := by rw [impl_letters _ (by rw [ByteArray.size_append]; omega), letters_append]
  have himpl : ∀ k, impl_IsSequence.f k a b = if (lettersB a && lettersB b) = true then (if 1 ≤ b.size ∧ a.size + b.size ≤ 64 then (impl_sequence.f k a b).bind fun c => some (c.1.toList == a.toList && (c.2.toList == b.toList)) else some false) else some false := by
    intro k
    unfold impl_IsSequence.f
    rw [if_pos (by omega), li, Option.bind_some, given_val a b (by omega), Option.bind_some]
    simp only [decide_eq_true_eq]
  have hspec : ∀ r, Ev (fun k => if lettersB b = true then (if b.size = 0 then some false else if a.size + b.size ≤ 64 then (spec_l01Canonical.f k a b).bind fun c => some (c.1.toList == a.toList && (c.2.toList == b.toList)) else some false) else some false) r → lettersB a = true → Ev (fun k => spec_l01Seq.f k a b) r := by
    intro r hr h1
    unfold spec_l01Seq.f
    refine Ev.bind la ?_
    simp only [h1, if_true]
    refine Ev.bind lb ?_
    refine Ev.congr (fun k => ?_) hr
    by_cases hb : b.size = 0
    · rw [if_pos ((nil_iff b).2 hb), if_pos hb]
    · rw [if_neg (fun z => hb ((nil_iff b).1 z)), if_neg hb, wrS (by omega) (by omega)]
      by_cases h64 : a.size + b.size ≤ 64
      · rw [if_neg (show ¬ (a.size : Int) + (b.size : Int) > 64 by omega), if_pos h64]
      · rw [if_pos (show (a.size : Int) + (b.size : Int) > 64 by omega), if_neg h64]
  cases h1 : lettersB a with
  | false =>
    refine ⟨false, ?_, ?_, by simp⟩
    · unfold spec_l01Seq.f
      refine Ev.bind la ?_
      simp only [h1, Bool.false_eq_true, if_false]
      exact Ev.now _
    · exact Ev.congr (fun k => by rw [himpl k, h1, Bool.false_and, if_neg (by decide)]) (Ev.now false)
  | true =>
    cases h2 : lettersB b with
    | false =>
      refine ⟨false, hspec _ ?_ h1, ?_, by simp⟩
      · simp only [h2, Bool.false_eq_true, if_false]
        exact Ev.now _
      · exact Ev.congr (fun k => by rw [himpl k, h1, h2, if_neg (by decide)]) (Ev.now false)
    | true =>
      by_cases hb : 1 ≤ b.size ∧ a.size + b.size ≤ 64
      · obtain ⟨c, c1, c2, _, _, _, cn⟩ := both_canon a b hb.1 (by omega)
        refine ⟨c.1.toList == a.toList && (c.2.toList == b.toList), hspec _ ?_ h1, ?_, fun hr => ⟨rfl, rfl, hb.1, hb.2, by
          simp only [Bool.and_eq_true, beq_iff_eq] at hr
          exact cn (bytes_ext hr.1) (bytes_ext hr.2)⟩⟩
        · simp only [h2, if_true, if_neg (show ¬ b.size = 0 by omega), if_pos hb.2]
          exact Ev.bind c1 (Ev.now _)
        · refine Ev.congr (f := fun k => (impl_sequence.f k a b).bind fun c => some (c.1.toList == a.toList && (c.2.toList == b.toList))) (fun k => by rw [himpl k, h1, h2, if_pos (by decide), if_pos hb]) ?_
          exact Ev.bind c2 (Ev.now _)
      · refine ⟨false, hspec _ ?_ h1, ?_, by simp⟩
        · simp only [h2, if_true]
          by_cases hz : b.size = 0
          · simp only [if_pos hz]; exact Ev.now _
          · simp only [if_neg hz, if_neg (show ¬ a.size + b.size ≤ 64 by omega)]; exact Ev.now _
        · exact Ev.congr (fun k => by rw [himpl k, h1, h2, if_pos (by decide), if_neg hb]) (Ev.now false)
def atV (a b : ByteArray) (k : Nat) : Int := if k < a.size then bt a (k : Int) else bt b (((k - a.size) % b.size : Nat) : Int)
theorem at_val (a b : ByteArray) (k : Nat) (hb : 1 ≤ b.size) (ha : a.size ≤ 64) (hk : k ≤ 1000000000) : spec_l01At.f a b (k : Int) = some (atV a b k) := by
  unfold spec_l01At.f atV
  by_cases h : k < a.size
  · rw [if_pos (by omega), if_pos (by omega), if_pos h]
  · have hm := Nat.mod_lt (k - a.size) (show 0 < b.size by omega)
    rw [if_neg (by omega), if_neg (by omega), wrS (by omega) (by omega), show (k : Int) - (a.size : Int) = ((k - a.size : Nat) : Int) by omega, tmod_nat]
    generalize (k - a.size) % b.size = m at *
    rw [if_pos (by omega), if_pos (by omega), if_neg h]
theorem at_val' (a b : ByteArray) (k : Nat) (hb : 1 ≤ b.size) (ha : a.size ≤ 64) (hk : k ≤ 1000000000) : impl_Sequence_at.f a b (k : Int) = some (atV a b k) := at_val a b k hb ha hk
theorem bt_letter {s : ByteArray} (h : lettersB s = true) (i : Nat) (hi : i < s.size) : bt s (i : Int) = 48 ∨ bt s (i : Int) = 49 ∨ bt s (i : Int) = 42 := by
  have hl : i < (bytesOf s).length := by rw [bytesOf_length]; exact hi
  have := List.all_eq_true.1 h _ (List.getElem_mem hl)
  rw [get_bytesOf s i hl] at this
  unfold isLetterN at this
  simpa using this
theorem at_letter {a b : ByteArray} (ha : lettersB a = true) (hb : lettersB b = true) (h1 : 1 ≤ b.size) (k : Nat) : atV a b k = 48 ∨ atV a b k = 49 ∨ atV a b k = 42 := by
  unfold atV
  split
  · rename_i h; exact bt_letter ha k h
  · exact bt_letter hb _ (Nat.mod_lt _ (by omega))
theorem star_none (a b : ByteArray) (hb : 1 ≤ b.size) (h64 : b.size ≤ 64) (h : ∀ i : Nat, i < b.size - 1 → bt b (i : Int) ≠ 42) : ∀ d i, i + d = b.size - 1 → Ev (fun k => spec_l02Star.l0 k (b.size : Int) (i : Int) a b) true := by
  intro d
  induction d with
  | zero =>
    intro i hi
    exact Ev.step (f := fun _ => some true) (fun k => by rw [spec_l02Star.l0, wrS (x := (b.size : Int) - 1) (by omega) (by omega), if_neg (by omega)]) (Ev.now _)
  | succ d ih =>
    intro i hi
    refine Ev.step (f := fun k => spec_l02Star.l0 k (b.size : Int) ((i + 1 : Nat) : Int) a b) (fun k => ?_) (ih (i + 1) (by omega))
    rw [spec_l02Star.l0, wrS (x := (b.size : Int) - 1) (by omega) (by omega), if_pos (by omega), if_pos (by omega), if_pos (by omega), if_neg (h i (by omega)), wrS (x := (i : Int) + 1) (by omega) (by omega)]
    rfl
theorem star_some (a b : ByteArray) (hb : 1 ≤ b.size) (h64 : b.size ≤ 64) : ∀ d i, i + d = b.size - 1 → (∃ t : Nat, i ≤ t ∧ t < b.size - 1 ∧ bt b (t : Int) = 42) → Ev (fun k => spec_l02Star.l0 k (b.size : Int) (i : Int) a b) false := by
  intro d
  induction d with
  | zero =>
    intro i hi ht
    obtain ⟨t, t1, t2, _⟩ := ht
    omega
  | succ d ih =>
    intro i hi ht
    by_cases e : bt b (i : Int) = 42
    · refine Ev.step (f := fun _ => some false) (fun k => ?_) (Ev.now _)
      rw [spec_l02Star.l0, wrS (x := (b.size : Int) - 1) (by omega) (by omega), if_pos (by omega), if_pos (by omega), if_pos (by omega), if_pos e]
    · obtain ⟨t, t1, t2, t3⟩ := ht
      refine Ev.step (f := fun k => spec_l02Star.l0 k (b.size : Int) ((i + 1 : Nat) : Int) a b) (fun k => ?_) (ih (i + 1) (by omega) ⟨t, ?_, t2, t3⟩)
      · rw [spec_l02Star.l0, wrS (x := (b.size : Int) - 1) (by omega) (by omega), if_pos (by omega), if_pos (by omega), if_pos (by omega), if_neg e, wrS (x := (i : Int) + 1) (by omega) (by omega)]
        rfl
      · rcases Nat.lt_or_ge i t with g | g
        · exact g
        · have : t = i := by omega
          subst this
          exact absurd t3 e
theorem bt_star (b : ByteArray) (i : Nat) (hi : i < b.size) : bt b (i : Int) = 42 ↔ b.data.toList[i]? = some 42 := by
  have hi' : i < b.data.toList.length := by rw [← Lib.size_eq]; exact hi
  rw [List.getElem?_eq_getElem hi']
  unfold bt
  rw [Int.toNat_natCast, dif_pos hi]
  have e1 : b[i] = b.data.toList[i] := by simp [ByteArray.getElem_eq_getElem_data]
  rw [e1]
  constructor
  · intro h
    have : b.data.toList[i].toNat = (42 : UInt8).toNat := by
      show _ = 42
      omega
    rw [UInt8.toNat_inj.1 this]
  · intro h
    rw [Option.some.inj h]
    rfl
theorem index_last (b : ByteArray) (hb : 1 ≤ b.size) : Lib.indexByte b.data.toList 42 = ((b.size - 1 : Nat) : Int) ↔ (bt b ((b.size - 1 : Nat) : Int) = 42 ∧ ∀ i : Nat, i < b.size - 1 → bt b (i : Int) ≠ 42) := by
  constructor
  · intro h
    obtain ⟨h1, h2⟩ := Lib.indexByte_some h
    exact ⟨(bt_star b _ (by omega)).2 h1, fun i hi e => h2 i hi ((bt_star b i (by omega)).1 e)⟩
  · rintro ⟨h1, h2⟩
    have g := Lib.indexByte_ge b.data.toList 42
    have k1 := (bt_star b (b.size - 1) (by omega)).1 h1
    by_cases e : Lib.indexByte b.data.toList 42 = -1
    · exact absurd k1 (Lib.indexByte_none e (b.size - 1))
    · obtain ⟨o, ho⟩ := Int.eq_ofNat_of_zero_le (show 0 ≤ Lib.indexByte b.data.toList 42 by omega)
      obtain ⟨o1, o2⟩ := Lib.indexByte_some ho
      rw [ho]
      rcases Nat.lt_trichotomy o (b.size - 1) with z | z | z
      · exact absurd ((bt_star b o (by omega)).2 o1) (h2 o z)
      · rw [z]
      · exact absurd k1 (o2 _ z)
theorem both_star (a b : ByteArray) (hb : 1 ≤ b.size) (h64 : a.size + b.size ≤ 64) : ∃ r : Bool, Ev (fun k => spec_l02Star.f k a b) r ∧ impl_Sequence_isStar.f a b = some r ∧
    (r = true → a.size = 0 ∧ bt b ((b.size - 1 : Nat) : Int) = 42 ∧ ∀ i : Nat, i < b.size - 1 → bt b (i : Int) ≠ 42) := by
  have jt : Ev (fun k => spec_l02Star.j0 k (b.size : Int) true a b) false := Ev.step (f := fun _ => some false) (fun k => by rw [spec_l02Star.j0, if_pos rfl]) (Ev.now _)
  have jf : ∀ r, Ev (fun k => spec_l02Star.l0 k (b.size : Int) 0 a b) r → Ev (fun k => spec_l02Star.j0 k (b.size : Int) false a b) r := fun r h => Ev.step (f := fun k => spec_l02Star.l0 k (b.size : Int) 0 a b) (fun k => by rw [spec_l02Star.j0, if_neg (by decide)]) h
  have ix : strings_IndexByte.f b 42 = some (Lib.indexByte b.data.toList 42) := by
    unfold strings_IndexByte.f
    rw [if_pos (by omega)]
    rfl
  by_cases ha : a.size = 0
  · have hs : ∀ r, Ev (fun k => if bt b ((b.size - 1 : Nat) : Int) = 42 then (if (b.size : Int) > 1 then spec_l02Star.j0 k (b.size : Int) (bt b 0 != 49) a b else spec_l02Star.j0 k (b.size : Int) false a b) else spec_l02Star.j0 k (b.size : Int) true a b) r → Ev (fun k => spec_l02Star.f k a b) r := by
      intro r h
      refine Ev.congr (fun k => ?_) h
      unfold spec_l02Star.f
      rw [if_pos ((nil_iff a).2 ha), wrS (x := (b.size : Int) - 1) (by omega) (by omega), show (b.size : Int) - 1 = ((b.size - 1 : Nat) : Int) by omega, if_pos (by omega), if_pos (by omega)]
      by_cases h1 : (b.size : Int) > 1
      · rw [if_pos h1, if_pos h1, if_pos (show 0 < (b.size : Int) by omega)]
      · rw [if_neg h1, if_neg h1]
    have hi : impl_Sequence_isStar.f a b = if Lib.indexByte b.data.toList 42 = ((b.size - 1 : Nat) : Int) then (if (b.size : Int) = 1 then some true else some (bt b 0 == 49)) else some false := by
      unfold impl_Sequence_isStar.f
      rw [if_pos ((nil_iff a).2 ha), ix, Option.bind_some, wrS (x := (b.size : Int) - 1) (by omega) (by omega), show (b.size : Int) - 1 = ((b.size - 1 : Nat) : Int) by omega, if_pos (show 0 < (b.size : Int) by omega)]
    by_cases hl : bt b ((b.size - 1 : Nat) : Int) = 42
    · by_cases hn : ∀ i : Nat, i < b.size - 1 → bt b (i : Int) ≠ 42
      · have hidx := (index_last b hb).2 ⟨hl, hn⟩
        rw [if_pos hidx] at hi
        have lp := star_none a b hb (by omega) hn (b.size - 1) 0 (by omega)
        by_cases h1 : b.size = 1
        · refine ⟨true, hs _ ?_, by rw [hi, if_pos (by omega)], fun _ => ⟨ha, hl, hn⟩⟩
          simp only [if_pos hl, if_neg (show ¬ (b.size : Int) > 1 by omega)]
          exact jf _ lp
        · refine ⟨bt b 0 == 49, hs _ ?_, by rw [hi, if_neg (by omega)], fun _ => ⟨ha, hl, hn⟩⟩
          simp only [if_pos hl, if_pos (show (b.size : Int) > 1 by omega)]
          by_cases h0 : bt b 0 = 49
          · have e1 : (bt b 0 != 49) = false := bne_eq_false_iff_eq.2 h0
            have e2 : (bt b 0 == 49) = true := beq_iff_eq.2 h0
            simp only [e1, e2]
            exact jf _ lp
          · have e1 : (bt b 0 != 49) = true := bne_iff_ne.2 h0
            have e2 : (bt b 0 == 49) = false := beq_eq_false_iff_ne.2 h0
            simp only [e1, e2]
            exact jt
      · have hidx : ¬ Lib.indexByte b.data.toList 42 = ((b.size - 1 : Nat) : Int) := fun e => hn ((index_last b hb).1 e).2
        rw [if_neg hidx] at hi
        refine ⟨false, hs _ ?_, hi, by simp⟩
        have ht : ∃ t : Nat, 0 ≤ t ∧ t < b.size - 1 ∧ bt b (t : Int) = 42 := by
          by_cases g : ∃ t : Nat, 0 ≤ t ∧ t < b.size - 1 ∧ bt b (t : Int) = 42
          · exact g
          · exact absurd (fun i hi e => g ⟨i, by omega, hi, e⟩) hn
        have lp := star_some a b hb (by omega) (b.size - 1) 0 (by omega) ht
        obtain ⟨t, _, t2, _⟩ := ht
        simp only [if_pos hl, if_pos (show (b.size : Int) > 1 by omega)]
        cases e : (bt b 0 != 49)
        · exact jf _ lp
        · exact jt
    · have hidx : ¬ Lib.indexByte b.data.toList 42 = ((b.size - 1 : Nat) : Int) := fun e => hl ((index_last b hb).1 e).1
      rw [if_neg hidx] at hi
      refine ⟨false, hs _ ?_, hi, by simp⟩
      simp only [if_neg hl]
      exact jt
  · refine ⟨false, ?_, ?_, by simp⟩
    · unfold spec_l02Star.f
      simp only [if_neg (fun z => ha ((nil_iff a).1 z))]
      exact jt
    · unfold impl_Sequence_isStar.f
      rw [if_neg (fun z => ha ((nil_iff a).1 z))]
theorem shift_val (x y : ByteArray) (hy : 1 ≤ y.size) (h : x.size + y.size ≤ 64) : ∃ v : ByteArray × ByteArray, spec_l01Shift.f x y = some v ∧ v.1.size + v.2.size ≤ 64 ∧ 1 ≤ v.2.size := by
  unfold spec_l01Shift.f
  by_cases hz : x.size = 0
  · have e : (y.extract 1 y.size ++ y.extract 0 1).size = y.size := by
      simp
      omega
    have e2 := e
    rw [ByteArray.size_append] at e2
    rw [if_pos ((nil_iff x).2 hz), if_pos (by omega), if_pos (by omega), if_pos (by omega)]
    exact ⟨_, rfl, by show (⟨#[]⟩ : ByteArray).size + _ ≤ 64; rw [e]; show 0 + y.size ≤ 64; omega, by show 1 ≤ _; rw [e]; exact hy⟩
  · rw [if_neg (fun z => hz ((nil_iff x).1 z)), if_pos (by omega)]
    refine ⟨_, rfl, ?_, hy⟩
    show (x.extract 1 x.size).size + y.size ≤ 64
    have : (x.extract 1 x.size).size ≤ x.size := by simp
    omega
theorem shift_val' {x y : ByteArray} {v : ByteArray × ByteArray} (h : spec_l01Shift.f x y = some v) : impl_Sequence_shift.f x y = some v := h
theorem both_point (p q a b : ByteArray) (hb : 1 ≤ b.size) (h64 : a.size + b.size ≤ 64) : ∃ r : Bool, Ev (fun k => spec_l06Point.f k p q a b) r ∧ Ev (fun k => impl_Sequence_isPoint.f k p q a b) r := by
  have key : ∀ (d i : Nat) (x y : ByteArray), i + d = a.size + b.size → 1 ≤ y.size → x.size + y.size ≤ 64 →
      ∃ r : Bool, Ev (fun k => spec_l06Point.l0 k (i : Int) p q a b x y) r ∧ Ev (fun k => impl_Sequence_isPoint.l0 k ((a.size : Int) + (b.size : Int)) (i : Int) p q x y) r := by
    intro d
    induction d with
    | zero =>
      intro i x y h _ _
      exact ⟨true, Ev.step (f := fun _ => some true) (fun k => by rw [spec_l06Point.l0, wrS (x := (a.size : Int) + (b.size : Int)) (by omega) (by omega), if_neg (by omega)]) (Ev.now _), Ev.step (f := fun _ => some true) (fun k => by rw [impl_Sequence_isPoint.l0, if_neg (by omega)]) (Ev.now _)⟩
    | succ d ih =>
      intro i x y h hy hxy
      obtain ⟨v, v1, v2, v3⟩ := shift_val x y hy hxy
      obtain ⟨r, r1, r2⟩ := ih (i + 1) v.1 v.2 (by omega) v3 v2
      have ea := at_val x y 0 hy (by omega) (by omega)
      have ea' := at_val' x y 0 hy (by omega) (by omega)
      have es : ∀ k, spec_l06Point.l0 (k + 1) (i : Int) p q a b x y = if atV x y 0 = 42 then (if (!(v.1.toList == p.toList) || (!(v.2.toList == q.toList))) = true then some false else spec_l06Point.l0 k ((i + 1 : Nat) : Int) p q a b v.1 v.2) else spec_l06Point.l0 k ((i + 1 : Nat) : Int) p q a b v.1 v.2 := by
        intro k
        rw [spec_l06Point.l0, wrS (x := (a.size : Int) + (b.size : Int)) (by omega) (by omega), if_pos (by omega), v1, Option.bind_some, show (0 : Int) = ((0 : Nat) : Int) from rfl, ea, Option.bind_some, wrS (x := (i : Int) + 1) (by omega) (by omega)]
        rfl
      have ei : ∀ k, impl_Sequence_isPoint.l0 (k + 1) ((a.size : Int) + (b.size : Int)) (i : Int) p q x y = if atV x y 0 = 42 then (if (!(v.1.toList == p.toList) || (!(v.2.toList == q.toList))) = true then some false else impl_Sequence_isPoint.l0 k ((a.size : Int) + (b.size : Int)) ((i + 1 : Nat) : Int) p q v.1 v.2) else impl_Sequence_isPoint.l0 k ((a.size : Int) + (b.size : Int)) ((i + 1 : Nat) : Int) p q v.1 v.2 := by
        intro k
        rw [impl_Sequence_isPoint.l0, if_pos (by omega), shift_val' v1, Option.bind_some, show (0 : Int) = ((0 : Nat) : Int) from rfl, ea', Option.bind_some, wrS (x := (i : Int) + 1) (by omega) (by omega)]
        rfl
      by_cases h1 : atV x y 0 = 42
      · by_cases h2 : (!(v.1.toList == p.toList) || (!(v.2.toList == q.toList))) = true
        · exact ⟨false, Ev.step (f := fun _ => some false) (fun k => by rw [es k, if_pos h1, if_pos h2]) (Ev.now _), Ev.step (f := fun _ => some false) (fun k => by rw [ei k, if_pos h1, if_pos h2]) (Ev.now _)⟩
        · exact ⟨r, Ev.step (fun k => by rw [es k, if_pos h1, if_neg h2]) r1, Ev.step (fun k => by rw [ei k, if_pos h1, if_neg h2]) r2⟩
      · exact ⟨r, Ev.step (fun k => by rw [es k, if_neg h1]) r1, Ev.step (fun k => by rw [ei k, if_neg h1]) r2⟩
  obtain ⟨r, r1, r2⟩ := key (a.size + b.size) 0 a b (by omega) hb h64
  refine ⟨r, r1, ?_⟩
  unfold impl_Sequence_isPoint.f
  rw [wrS (by omega) (by omega)]
  exact r2
def sh (s : ByteArray × ByteArray) : ByteArray × ByteArray :=
  if s.1.size = 0 then (⟨#[]⟩, s.2.extract 1 s.2.size ++ s.2.extract 0 1) else (s.1.extract 1 s.1.size, s.2)
theorem shift_eq (x y : ByteArray) (hy : 1 ≤ y.size) (h : x.size + y.size ≤ 64) : spec_l01Shift.f x y = some (sh (x, y)) := by
  unfold spec_l01Shift.f sh
  by_cases hz : x.size = 0
  · have e : (y.extract 1 y.size ++ y.extract 0 1).size = y.size := by
      simp
      omega
    have e2 := e
    rw [ByteArray.size_append] at e2
    rw [if_pos ((nil_iff x).2 hz), if_pos (by omega), if_pos (by omega), if_pos (by omega), if_pos hz]
  · rw [if_neg (fun z => hz ((nil_iff x).1 z)), if_pos (by omega), if_neg hz]
def shN : Nat → ByteArray × ByteArray → ByteArray × ByteArray
  | 0, s => s
  | n + 1, s => shN n (sh s)
theorem shN_add : ∀ m n s, shN (m + n) s = shN n (shN m s)
  | 0, n, s => by rw [Nat.zero_add]; rfl
  | m + 1, n, s => by rw [Nat.succ_add]; exact shN_add m n (sh s)
theorem shN_succ (n : Nat) (s : ByteArray × ByteArray) : shN (n + 1) s = sh (shN n s) := shN_add n 1 s
structure Val (s : ByteArray × ByteArray) : Prop where
  a : lettersB s.1 = true
  b : lettersB s.2 = true
  one : 1 ≤ s.2.size
  le : s.1.size + s.2.size ≤ 64
  cn : Cn s.1 s.2
theorem ext_data {x y : ByteArray} (h : x.data.toList = y.data.toList) : x = y := by
  cases x; cases y
  simp only [ByteArray.mk.injEq]
  exact Array.ext' h
theorem extract_list (s : ByteArray) (a b : Nat) : (s.extract a b).data.toList = (s.data.toList.drop a).take (b - a) := by
  simp [List.extract]
theorem append_list (a b : ByteArray) : (a ++ b).data.toList = a.data.toList ++ b.data.toList := by simp
theorem letters_extract {s : ByteArray} (h : lettersB s = true) (a b : Nat) : lettersB (s.extract a b) = true := by
  unfold lettersB bytesOf at *
  rw [List.all_eq_true] at *
  intro x hx
  apply h
  rw [extract_list] at hx
  obtain ⟨u, hu, rfl⟩ := List.mem_map.1 hx
  exact List.mem_map.2 ⟨u, List.mem_of_mem_drop (List.mem_of_mem_take hu), rfl⟩
theorem sh_sizes (s : ByteArray × ByteArray) (h : 1 ≤ s.2.size) : (sh s).1.size ≤ s.1.size - 1 ∧ (sh s).2.size = s.2.size := by
  unfold sh
  split
  · rename_i hz
    refine ⟨Nat.zero_le _, ?_⟩
    show (s.2.extract 1 s.2.size ++ s.2.extract 0 1).size = s.2.size
    rw [ByteArray.size_append, ByteArray.size_extract, ByteArray.size_extract]
    omega
  · simp
theorem val_sh {s : ByteArray × ByteArray} (h : Val s) : Val (sh s) := by
  have hs := sh_sizes s h.one
  refine ⟨?_, ?_, by have := h.one; omega, by have := h.le; omega, ?_⟩
  · unfold sh
    split
    · rfl
    · exact letters_extract h.a _ _
  · unfold sh
    split
    · rw [letters_append, letters_extract h.b, letters_extract h.b]; rfl
    · exact h.b
  · unfold sh
    split
    · exact .inl rfl
    · rename_i hz
      rcases h.cn with hc | hc
      · exact absurd hc hz
      · by_cases h1 : s.1.size = 1
        · left
          simp [h1]
        · right
          have hsz : (s.1.extract 1 s.1.size).size = s.1.size - 1 := by simp
          intro e
          apply hc
          rw [← e]
          show _ = bt (s.1.extract 1 s.1.size) (((s.1.extract 1 s.1.size).size - 1 : Nat) : Int)
          rw [hsz, bt_eq _ _ _ _ (by omega) (by rw [hsz]; omega), extract_list, List.getElem?_take_of_lt (by omega), List.getElem?_drop]
          congr 1
          omega
theorem sh_turn (l : List UInt8) (y : ByteArray) (i : Nat) (hi : i < l.length) (hy : y.data.toList = l.drop i ++ l.take i) : (sh (⟨#[]⟩, y)).1 = ⟨#[]⟩ ∧ (sh (⟨#[]⟩, y)).2.data.toList = l.drop (i + 1) ++ l.take (i + 1) := by
  have hsz : y.size = l.length := by
    have e : y.size = y.data.toList.length := (Array.length_toList (xs := y.data)).symm
    rw [e, hy, List.length_append, List.length_drop, List.length_take]
    omega
  unfold sh
  rw [if_pos (show (((⟨#[]⟩ : ByteArray), y) : ByteArray × ByteArray).1.size = 0 from rfl)]
  refine ⟨rfl, ?_⟩
  show (y.extract 1 y.size ++ y.extract 0 1).data.toList = _
  rw [append_list, extract_list, extract_list, hy, hsz]
  have e1 : l.drop i = l[i] :: l.drop (i + 1) := by rw [List.drop_eq_getElem_cons hi]
  rw [e1]
  simp only [List.cons_append, List.drop_succ_cons, List.drop_zero, Nat.sub_zero, List.take_succ_cons, List.take_zero]
  rw [List.take_of_length_le (by simp; omega), List.append_assoc]
  congr 1
  rw [List.take_add_one, List.getElem?_eq_getElem hi]
  rfl
theorem shN_turn (y : ByteArray) : ∀ i, i ≤ y.size → (shN i (⟨#[]⟩, y)).1 = ⟨#[]⟩ ∧ (shN i (⟨#[]⟩, y)).2.data.toList = y.data.toList.drop i ++ y.data.toList.take i
  | 0, _ => by simp [shN]
  | i + 1, h => by
    obtain ⟨h1, h2⟩ := shN_turn y i (by omega)
    rw [shN_succ]
    have e : shN i (⟨#[]⟩, y) = (⟨#[]⟩, (shN i (⟨#[]⟩, y)).2) := Prod.ext h1 rfl
    rw [e]
    exact sh_turn _ _ i (by rw [Array.length_toList]; exact h) h2
theorem shN_round (y : ByteArray) : shN y.size (⟨#[]⟩, y) = (⟨#[]⟩, y) := by
  obtain ⟨h1, h2⟩ := shN_turn y y.size (Nat.le_refl _)
  refine Prod.ext h1 (ext_data ?_)
  have e : y.data.toList.length = y.size := Array.length_toList (xs := y.data)
  rw [h2, List.drop_of_length_le (by omega), List.take_of_length_le (by omega)]
  rfl
theorem shN_pre : ∀ n x y, x.size = n → (shN n (x, y)) = (⟨#[]⟩, y)
  | 0, x, y, h => by
    refine Prod.ext (ext_data ?_) rfl
    have e : x.data.toList.length = x.size := Array.length_toList (xs := x.data)
    have : x.data.toList.length = 0 := by omega
    show x.data.toList = _
    rw [List.length_eq_zero_iff.1 this]
  | n + 1, x, y, h => by
    have e : sh (x, y) = (x.extract 1 x.size, y) := by unfold sh; rw [if_neg (by show ¬ x.size = 0; omega)]
    show shN n (sh (x, y)) = _
    rw [e]
    exact shN_pre n _ y (by simp; omega)
theorem shN_again (x y : ByteArray) (j : Nat) : shN (x.size + y.size + j) (x, y) = shN (x.size + j) (x, y) := by
  rw [Nat.add_assoc, shN_add, shN_pre _ x y rfl, shN_add, shN_round, shN_add, shN_pre _ x y rfl]
def star (s : ByteArray × ByteArray) : Prop := atV s.1 s.2 0 = 42
def Pt (v s : ByteArray × ByteArray) : Prop := ∀ j, star (shN j s) → sh (shN j s) = v
theorem Pt.sh' {v s : ByteArray × ByteArray} (h : Pt v s) : Pt v (sh s) := fun j => h (j + 1)
theorem pt_of {v s : ByteArray × ByteArray} (h1 : 1 ≤ s.2.size) (h : ∀ j, j < s.1.size + s.2.size → star (shN j s) → sh (shN j s) = v) : Pt v s := by
  intro j
  induction j using Nat.strongRecOn with
  | _ j ih =>
    by_cases hj : j < s.1.size + s.2.size
    · exact h j hj
    · have e := shN_again s.1 s.2 (j - (s.1.size + s.2.size))
      rw [show s.1.size + s.2.size + (j - (s.1.size + s.2.size)) = j by omega] at e
      rw [show (s.1, s.2) = s from rfl] at e
      rw [e]
      exact ih _ (by omega)
theorem star_one {v s t : ByteArray × ByteArray} (hs : Val s) (ht : Val t) (es : sh s = v) (et : sh t = v) (ss : star s) (st : star t) (hv : v.1.size = 0) (hv2 : bt v.2 ((v.2.size - 1 : Nat) : Int) = 42) : s = t := by
  have key : ∀ u : ByteArray × ByteArray, Val u → sh u = v → star u → u.1.size = 0 ∧ u.2.data.toList = 42 :: (v.2.data.toList.take (v.2.size - 1)) := by
    intro u hu eu su
    by_cases hz : u.1.size = 0
    · refine ⟨hz, ?_⟩
      have e : v.2 = u.2.extract 1 u.2.size ++ u.2.extract 0 1 := by rw [← eu]; unfold sh; rw [if_pos hz]
      have hsz : v.2.size = u.2.size := by rw [← eu]; exact (sh_sizes u hu.one).2
      have hlen : u.2.data.toList.length = u.2.size := Array.length_toList (xs := u.2.data)
      have h1 := hu.one
      have s0 : bt u.2 ((0 : Nat) : Int) = 42 := by
        have := su
        unfold star atV at this
        rw [if_neg (by omega), hz, Nat.sub_zero, Nat.zero_mod] at this
        exact this
      rw [hsz, e, append_list, extract_list, extract_list]
      cases hl : u.2.data.toList with
      | nil => rw [hl] at hlen; simp at hlen; omega
      | cons a l =>
        have ha : a = 42 := by
          have := (bt_star u.2 0 (by omega)).1 s0
          rw [hl] at this
          exact Option.some.inj this
        subst ha
        rw [hl] at hlen
        simp only [List.length_cons] at hlen
        simp only [List.drop_succ_cons, List.drop_zero, Nat.sub_zero, List.take_succ_cons, List.take_zero]
        have tl : l.take (u.2.size - 1) = l := List.take_of_length_le (by omega)
        rw [tl, List.take_append_of_le_length (by omega), tl]
    · exfalso
      have e : v = (u.1.extract 1 u.1.size, u.2) := by rw [← eu]; unfold sh; rw [if_neg hz]
      have h1 : u.1.size = 1 := by
        have : v.1.size = u.1.size - 1 := by rw [e]; simp
        omega
      rcases hu.cn with hc | hc
      · exact hz hc
      · apply hc
        have e2 : v.2 = u.2 := by rw [e]
        rw [← e2, hv2, h1]
        have := su
        unfold star atV at this
        rw [if_pos (by omega)] at this
        exact this
  obtain ⟨a1, a2⟩ := key s hs es ss
  obtain ⟨b1, b2⟩ := key t ht et st
  refine Prod.ext (ext_data ?_) (ext_data (a2.trans b2.symm))
  have e1 : s.1.data.toList.length = s.1.size := Array.length_toList (xs := s.1.data)
  have e2 : t.1.data.toList.length = t.1.size := Array.length_toList (xs := t.1.data)
  rw [List.length_eq_zero_iff.1 (show s.1.data.toList.length = 0 by omega), List.length_eq_zero_iff.1 (show t.1.data.toList.length = 0 by omega)]
theorem vote_eq {x0 x1 x2 : Int} (h0 : x0 = 48 ∨ x0 = 49 ∨ x0 = 42) (h1 : x1 = 48 ∨ x1 = 49 ∨ x1 = 42) (h2 : x2 = 48 ∨ x2 = 49 ∨ x2 = 42)
    (n0 : ¬ (x0 = 42 ∧ x1 = 42)) (n1 : ¬ (x0 = 42 ∧ x2 = 42)) (n2 : ¬ (x1 = 42 ∧ x2 = 42)) :
    voteEnd (voteAt x0 x1 x2 3) = lettersEnd (voteAt x0 x1 x2 3) ∧
    (((voteEnd (voteAt x0 x1 x2 3)).2 = -1 ∧ ((voteEnd (voteAt x0 x1 x2 3)).1 = 48 ∨ (voteEnd (voteAt x0 x1 x2 3)).1 = 49)) ∨ (voteEnd (voteAt x0 x1 x2 3)).2 = 0 ∨ (voteEnd (voteAt x0 x1 x2 3)).2 = 1 ∨ (voteEnd (voteAt x0 x1 x2 3)).2 = 2) := by
  rcases h0 with rfl | rfl | rfl <;> rcases h1 with rfl | rfl | rfl <;> rcases h2 with rfl | rfl | rfl <;>
    first
    | exact absurd ⟨rfl, rfl⟩ n0
    | exact absurd ⟨rfl, rfl⟩ n1
    | exact absurd ⟨rfl, rfl⟩ n2
    | decide
def hd (s : ByteArray × ByteArray) : Int := atV s.1 s.2 0
theorem hd_val {s : ByteArray × ByteArray} (h : Val s) : spec_l01At.f s.1 s.2 0 = some (hd s) ∧ impl_Sequence_at.f s.1 s.2 0 = some (hd s) ∧ (hd s = 48 ∨ hd s = 49 ∨ hd s = 42) := by
  have := h.le
  exact ⟨at_val s.1 s.2 0 h.one (by omega) (by omega), at_val' s.1 s.2 0 h.one (by omega) (by omega), at_letter h.a h.b h.one 0⟩
def mvP (v : ByteArray × ByteArray) (c : Int) (s : ByteArray × ByteArray) : ByteArray × ByteArray := if hd s ≠ c ∧ hd s ≠ 42 then v else sh s
theorem mvOne_val {v s : ByteArray × ByteArray} (h : Val s) (c : Int) : mvOne v.1 v.2 c s.1 s.2 = some (mvP v c s) := by
  unfold mvOne mvP
  rw [(hd_val h).2.1, Option.bind_some]
  split
  · rfl
  · exact shift_val' (shift_eq s.1 s.2 h.one h.le)
theorem mv_val {v s : ByteArray × ByteArray} (hv : Val v) (h : Val s) (c : Int) : Val (mvP v c s) := by
  unfold mvP
  split
  · exact hv
  · exact val_sh h
theorem mv_pt {v s : ByteArray × ByteArray} (hv : Pt v v) (h : Pt v s) (c : Int) : Pt v (mvP v c s) := by
  unfold mvP
  split
  · exact hv
  · exact h.sh'
structure Tri where
  q0 : ByteArray × ByteArray
  q1 : ByteArray × ByteArray
  q2 : ByteArray × ByteArray
deriving DecidableEq
def Tri.p (q : Tri) : P6 := ⟨q.q0.1, q.q0.2, q.q1.1, q.q1.2, q.q2.1, q.q2.2⟩
def Tri.mv (v : ByteArray × ByteArray) (c : Int) (q : Tri) : Tri := ⟨mvP v c q.q0, mvP v c q.q1, mvP v c q.q2⟩
structure Tri.Ok (v : ByteArray × ByteArray) (q : Tri) : Prop where
  v0 : Val q.q0
  v1 : Val q.q1
  v2 : Val q.q2
  p0 : Pt v q.q0
  p1 : Pt v q.q1
  p2 : Pt v q.q2
theorem Tri.Ok.mv {v : ByteArray × ByteArray} {q : Tri} (hv : Val v) (hp : Pt v v) (h : q.Ok v) (c : Int) : (q.mv v c).Ok v :=
  ⟨mv_val hv h.v0 c, mv_val hv h.v1 c, mv_val hv h.v2 c, mv_pt hp h.p0 c, mv_pt hp h.p1 c, mv_pt hp h.p2 c⟩
def Tri.vote (q : Tri) : Int × Int := voteEnd (voteAt (hd q.q0) (hd q.q1) (hd q.q2) 3)
theorem moved_val {v : ByteArray × ByteArray} {q : Tri} (h : q.Ok v) (c : Int) : impl_Sequence_moved.f v.1 v.2 q.q0.1 q.q0.2 q.q1.1 q.q1.2 q.q2.1 q.q2.2 c = some ((q.mv v c).q0.1, (q.mv v c).q0.2, (q.mv v c).q1.1, (q.mv v c).q1.2, (q.mv v c).q2.1, (q.mv v c).q2.2) := by
  unfold impl_Sequence_moved.f
  rw [mvOne_val h.v0, Option.bind_some, mvOne_val h.v1, Option.bind_some, mvOne_val h.v2, Option.bind_some]
  rfl
theorem vote_val {v : ByteArray × ByteArray} {q : Tri} (h : q.Ok v) : impl_three_vote.f q.q0.1 q.q0.2 q.q1.1 q.q1.2 q.q2.1 q.q2.2 = some q.vote := by
  unfold impl_three_vote.f
  rw [(hd_val h.v0).2.1, Option.bind_some, (hd_val h.v1).2.1, Option.bind_some, (hd_val h.v2).2.1, Option.bind_some]
  rfl
theorem letters_val {v : ByteArray × ByteArray} {q : Tri} (h : q.Ok v) (hv : v.1.size = 0) (hv2 : bt v.2 ((v.2.size - 1 : Nat) : Int) = 42) (d0 : q.q0 ≠ q.q1) (d1 : q.q0 ≠ q.q2) (d2 : q.q1 ≠ q.q2) :
    spec_l06Letters.f q.q0.1 q.q0.2 q.q1.1 q.q1.2 q.q2.1 q.q2.2 = some q.vote ∧ ((q.vote.2 = -1 ∧ (q.vote.1 = 48 ∨ q.vote.1 = 49)) ∨ q.vote.2 = 0 ∨ q.vote.2 = 1 ∨ q.vote.2 = 2) := by
  have one : ∀ {s t : ByteArray × ByteArray}, Val s → Val t → Pt v s → Pt v t → s ≠ t → ¬ (hd s = 42 ∧ hd t = 42) := fun {s t} hs ht ps pt hne ⟨e1, e2⟩ =>
    hne (star_one hs ht (ps 0 e1) (pt 0 e2) e1 e2 hv hv2)
  have e := vote_eq (hd_val h.v0).2.2 (hd_val h.v1).2.2 (hd_val h.v2).2.2 (one h.v0 h.v1 h.p0 h.p1 d0) (one h.v0 h.v2 h.p0 h.p2 d1) (one h.v1 h.v2 h.p1 h.p2 d2)
  refine ⟨?_, e.2⟩
  unfold spec_l06Letters.f
  rw [(hd_val h.v0).1, Option.bind_some, (hd_val h.v1).1, Option.bind_some, (hd_val h.v2).1, Option.bind_some, ← e.1]
  rfl
theorem eqP (s t : ByteArray × ByteArray) : (s.1.toList == t.1.toList && (s.2.toList == t.2.toList)) = true ↔ s = t := by
  rw [Bool.and_eq_true, beq_iff_eq, beq_iff_eq]
  constructor
  · rintro ⟨h1, h2⟩
    exact Prod.ext (bytes_ext h1) (bytes_ext h2)
  · rintro rfl
    exact ⟨rfl, rfl⟩
def Tri.same (q : Tri) : ByteArray × ByteArray × Bool :=
  if q.q0 = q.q1 ∨ q.q0 = q.q2 then (q.q0.1, q.q0.2, true) else if q.q1 = q.q2 then (q.q1.1, q.q1.2, true) else (⟨#[]⟩, ⟨#[]⟩, false)
theorem same_spec (q : Tri) : Ev (fun k => spec_l06Same.f k q.q0.1 q.q0.2 q.q1.1 q.q1.2 q.q2.1 q.q2.2) q.same := by
  unfold spec_l06Same.f Tri.same
  by_cases h1 : q.q0 = q.q1
  · simp only [if_pos ((eqP q.q0 q.q1).2 h1), if_pos (show q.q0 = q.q1 ∨ q.q0 = q.q2 from .inl h1)]
    exact Ev.step (f := fun _ => some _) (fun k => by rw [spec_l06Same.j0, if_pos rfl]) (Ev.now _)
  · simp only [if_neg (fun z => h1 ((eqP q.q0 q.q1).1 z))]
    by_cases h2 : q.q0 = q.q2
    · simp only [(eqP q.q0 q.q2).2 h2, if_pos (show q.q0 = q.q1 ∨ q.q0 = q.q2 from .inr h2)]
      exact Ev.step (f := fun _ => some _) (fun k => by rw [spec_l06Same.j0, if_pos rfl]) (Ev.now _)
    · have e2 : (q.q0.1.toList == q.q2.1.toList && (q.q0.2.toList == q.q2.2.toList)) = false := Bool.eq_false_iff.2 (fun z => h2 ((eqP q.q0 q.q2).1 z))
      simp only [e2, if_neg (show ¬ (q.q0 = q.q1 ∨ q.q0 = q.q2) from fun z => z.elim h1 h2)]
      by_cases h3 : q.q1 = q.q2
      · rw [if_pos h3]
        exact Ev.step (f := fun _ => some _) (fun k => by rw [spec_l06Same.j0, if_neg (by decide), if_pos ((eqP q.q1 q.q2).2 h3)]) (Ev.now _)
      · rw [if_neg h3]
        exact Ev.step (f := fun _ => some _) (fun k => by rw [spec_l06Same.j0, if_neg (by decide), if_neg (fun z => h3 ((eqP q.q1 q.q2).1 z))]) (Ev.now _)
theorem same_impl (q : Tri) : Ev (fun k => impl_three_twice.f k q.q0.1 q.q0.2 q.q1.1 q.q1.2 q.q2.1 q.q2.2) q.same := by
  unfold impl_three_twice.f Tri.same
  by_cases h1 : q.q0 = q.q1
  · simp only [if_pos ((eqP q.q0 q.q1).2 h1), if_pos (show q.q0 = q.q1 ∨ q.q0 = q.q2 from .inl h1)]
    exact Ev.step (f := fun _ => some _) (fun k => by rw [impl_three_twice.j0, if_pos rfl]) (Ev.now _)
  · simp only [if_neg (fun z => h1 ((eqP q.q0 q.q1).1 z))]
    by_cases h2 : q.q0 = q.q2
    · simp only [(eqP q.q0 q.q2).2 h2, if_pos (show q.q0 = q.q1 ∨ q.q0 = q.q2 from .inr h2)]
      exact Ev.step (f := fun _ => some _) (fun k => by rw [impl_three_twice.j0, if_pos rfl]) (Ev.now _)
    · have e2 : (q.q0.1.toList == q.q2.1.toList && (q.q0.2.toList == q.q2.2.toList)) = false := Bool.eq_false_iff.2 (fun z => h2 ((eqP q.q0 q.q2).1 z))
      simp only [e2, if_neg (show ¬ (q.q0 = q.q1 ∨ q.q0 = q.q2) from fun z => z.elim h1 h2)]
      by_cases h3 : q.q1 = q.q2
      · rw [if_pos h3]
        exact Ev.step (f := fun _ => some _) (fun k => by rw [impl_three_twice.j0, if_neg (by decide), if_pos ((eqP q.q1 q.q2).2 h3)]) (Ev.now _)
      · rw [if_neg h3]
        exact Ev.step (f := fun _ => some _) (fun k => by rw [impl_three_twice.j0, if_neg (by decide), if_neg (fun z => h3 ((eqP q.q1 q.q2).1 z))]) (Ev.now _)
def told (c : ByteArray × ByteArray) : ByteArray × ByteArray × Bool := (c.1, c.2, decide (c.1.size + c.2.size ≤ 64))
def handed (r : ByteArray × ByteArray × Bool) : ByteArray × ByteArray × Int := if r.2.2 = true then (r.1, r.2.1, 0) else (⟨#[]⟩, ⟨#[]⟩, 3)
theorem both_told (x y : ByteArray) (hy : 1 ≤ y.size) (h : x.size + y.size ≤ 4096) : ∃ c, Ev (fun k => spec_l06Told.f k x y) (told c) ∧ Ev (fun k => midEnd k x y) (handed (told c)) := by
  obtain ⟨c, c1, c2, c3, c4, c5, _⟩ := both_canon x y hy h
  refine ⟨c, ?_, ?_⟩
  · unfold spec_l06Told.f told
    refine Ev.bind c1 ?_
    rw [wrS (by omega) (by omega)]
    have e : decide ((c.1.size : Int) + (c.2.size : Int) ≤ 64) = decide (c.1.size + c.2.size ≤ 64) := by rw [decide_eq_decide]; omega
    rw [e]
    exact Ev.now _
  · unfold midEnd
    refine Ev.bind c2 ?_
    unfold impl_short.f handed told
    rw [wrS (by omega) (by omega)]
    by_cases h64 : c.1.size + c.2.size ≤ 64
    · rw [if_neg (by omega), if_pos (by simpa using h64)]
      exact Ev.now _
    · rw [if_pos (by omega), if_neg (by simpa using h64)]
      exact Ev.now _
abbrev S3 := S36
def Tri.s (q : Tri) : S3 := ⟨⟨q.q0.1, q.q0.2⟩, ⟨q.q1.1, q.q1.2⟩, ⟨q.q2.1, q.q2.2⟩⟩
theorem Tri.ext_ {q r : Tri} (h0 : q.q0 = r.q0) (h1 : q.q1 = r.q1) (h2 : q.q2 = r.q2) : q = r := by
  cases q; cases r; simp_all
theorem Tri.p_inj {q r : Tri} (h : q.p = r.p) : q = r := by
  simp only [Tri.p, P6.mk.injEq] at h
  obtain ⟨h0, h1, h2, h3, h4, h5⟩ := h
  exact Tri.ext_ (Prod.ext h0 h1) (Prod.ext h2 h3) (Prod.ext h4 h5)
theorem eqT (q r : Tri) : ((q.q0.1.toList == r.q0.1.toList && (q.q0.2.toList == r.q0.2.toList)) && ((q.q1.1.toList == r.q1.1.toList && (q.q1.2.toList == r.q1.2.toList)) && (q.q2.1.toList == r.q2.1.toList && (q.q2.2.toList == r.q2.2.toList)))) = true ↔ q = r := by
  rw [Bool.and_eq_true (a := (q.q0.1.toList == r.q0.1.toList && (q.q0.2.toList == r.q0.2.toList))), Bool.and_eq_true (a := (q.q1.1.toList == r.q1.1.toList && (q.q1.2.toList == r.q1.2.toList))), eqP, eqP, eqP]
  constructor
  · rintro ⟨h0, h1, h2⟩; exact Tri.ext_ h0 h1 h2
  · rintro rfl; exact ⟨rfl, rfl, rfl⟩
theorem eqT' (q r : Tri) : ((q.s.f0.f0.toList == r.q0.1.toList && (q.s.f0.f1.toList == r.q0.2.toList)) && ((q.s.f1.f0.toList == r.q1.1.toList && (q.s.f1.f1.toList == r.q1.2.toList)) && (q.s.f2.f0.toList == r.q2.1.toList && (q.s.f2.f1.toList == r.q2.2.toList)))) = true ↔ q = r := eqT q r
theorem rd_s (qs : List Tri) (j : Nat) (hj : j < qs.length) : rd_T36 (qs.map Tri.s) (j : Int) = qs[j].s := by
  unfold rd_T36
  rw [Int.toNat_natCast, List.getD_eq_getElem?_getD, List.getElem?_map, List.getElem?_eq_getElem hj]
  rfl
theorem l1_step (qs : List Tri) (q : Tri) (w : List Int) (i c : Int) (v : ByteArray × ByteArray) (j : Nat) (hj : j < qs.length) (h2 : qs.length ≤ 1000) (hw : qs.length = w.length) (k : Nat) :
    spec_l06Middle.l1 (k + 1) w (qs.map Tri.s) i c (j : Int) v.1 v.2 q.q0.1 q.q0.2 q.q1.1 q.q1.2 q.q2.1 q.q2.2 =
      if qs[j] = q then (spec_l06Told.f k (strOfNums (w.take j)) (strOfNums (w.drop j))) else spec_l06Middle.l1 k w (qs.map Tri.s) i c ((j + 1 : Nat) : Int) v.1 v.2 q.q0.1 q.q0.2 q.q1.1 q.q1.2 q.q2.1 q.q2.2 := by
  rw [spec_l06Middle.l1, if_pos (by rw [List.length_map]; omega), if_pos (by omega), rd_s qs j hj, wrS (x := (j : Int) + 1) (by omega) (by omega)]
  by_cases e : qs[j] = q
  · rw [if_pos e, if_pos ((eqT' qs[j] q).2 e), if_pos (by omega), Int.toNat_natCast]
    cases spec_l06Told.f k (strOfNums (w.take j)) (strOfNums (w.drop j)) with
    | none => rfl
    | some r => rfl
  · rw [if_neg e, if_neg (fun z => e ((eqT' qs[j] q).1 z))]
    rfl
theorem l1_end (qs : List Tri) (q : Tri) (w : List Int) (i c : Int) (v : ByteArray × ByteArray) (h2 : qs.length ≤ 1000) (hw : qs.length = w.length) (k : Nat) :
    spec_l06Middle.l1 (k + 1) w (qs.map Tri.s) i c (qs.length : Int) v.1 v.2 q.q0.1 q.q0.2 q.q1.1 q.q1.2 q.q2.1 q.q2.2 =
      spec_l06Middle.l2 k (w ++ [c]) ((qs ++ [q]).map Tri.s) i c 0 v.1 v.2 q.q0.1 q.q0.2 q.q1.1 q.q1.2 q.q2.1 q.q2.2 := by
  rw [spec_l06Middle.l1, if_neg (by rw [List.length_map]; omega), if_pos (by rw [List.length_map]; omega), if_pos (by omega), List.map_append]
  rfl
theorem scan_none {qs : List Tri} {q : Tri} {w : List Int} {i c : Int} {v : ByteArray × ByteArray} {r : ByteArray × ByteArray × Bool} (h2 : qs.length ≤ 1000) (hw : qs.length = w.length)
    (hr : Ev (fun k => spec_l06Middle.l2 k (w ++ [c]) ((qs ++ [q]).map Tri.s) i c 0 v.1 v.2 q.q0.1 q.q0.2 q.q1.1 q.q1.2 q.q2.1 q.q2.2) r) :
    ∀ d j, j + d = qs.length → (∀ t (ht : t < qs.length), j ≤ t → qs[t] ≠ q) → Ev (fun k => spec_l06Middle.l1 k w (qs.map Tri.s) i c (j : Int) v.1 v.2 q.q0.1 q.q0.2 q.q1.1 q.q1.2 q.q2.1 q.q2.2) r := by
  intro d
  induction d with
  | zero =>
    intro j hj _
    obtain rfl : j = qs.length := by omega
    exact Ev.step (fun k => l1_end qs q w i c v h2 hw k) hr
  | succ d ih =>
    intro j hj hn
    exact Ev.step (fun k => by rw [l1_step qs q w i c v j (by omega) h2 hw k, if_neg (hn j (by omega) (Nat.le_refl _))]) (ih (j + 1) (by omega) (fun t ht hjt => hn t ht (by omega)))
theorem scan_some {qs : List Tri} {q : Tri} {w : List Int} {i c : Int} {v : ByteArray × ByteArray} {r : ByteArray × ByteArray × Bool} (h2 : qs.length ≤ 1000) (hw : qs.length = w.length) (m : Nat) (hm : m < qs.length) (he : qs[m] = q)
    (hr : Ev (fun k => spec_l06Told.f k (strOfNums (w.take m)) (strOfNums (w.drop m))) r) :
    ∀ d j, j + d = m → (∀ t (ht : t < qs.length), t < m → qs[t] ≠ q) → Ev (fun k => spec_l06Middle.l1 k w (qs.map Tri.s) i c (j : Int) v.1 v.2 q.q0.1 q.q0.2 q.q1.1 q.q1.2 q.q2.1 q.q2.2) r := by
  intro d
  induction d with
  | zero =>
    intro j hj _
    obtain rfl : j = m := by omega
    exact Ev.step (fun k => by rw [l1_step qs q w i c v j hm h2 hw k, if_pos he]) hr
  | succ d ih =>
    intro j hj hn
    exact Ev.step (fun k => by rw [l1_step qs q w i c v j (by omega) h2 hw k, if_neg (hn j (by omega) (by omega))]) (ih (j + 1) (by omega) hn)
theorem idx_none : ∀ (qs : List Tri) (q : Tri), idx6 (qs.map Tri.p) q.p = none → ∀ t (ht : t < qs.length), qs[t] ≠ q
  | [], _, _, t, ht => by simp at ht
  | x :: r, q, h, t, ht => by
    simp only [List.map_cons, idx6] at h
    split at h
    · cases h
    · rename_i hne
      cases t with
      | zero => intro e; apply hne; rw [← e]; rfl
      | succ t => exact idx_none r q (by simpa using h) t (by simpa using ht)
theorem idx_some : ∀ (qs : List Tri) (q : Tri) (m : Nat), idx6 (qs.map Tri.p) q.p = some m → ∃ hm : m < qs.length, qs[m] = q ∧ ∀ t (ht : t < qs.length), t < m → qs[t] ≠ q
  | [], _, _, h => by cases h
  | x :: r, q, m, h => by
    simp only [List.map_cons, idx6] at h
    split at h
    · rename_i he
      obtain rfl := Option.some.inj h
      exact ⟨by simp, Tri.p_inj he, fun t _ h => by omega⟩
    · rename_i hne
      obtain ⟨m', hm', rfl⟩ := Option.map_eq_some_iff.1 h
      obtain ⟨h1, h2, h3⟩ := idx_some r q m' hm'
      refine ⟨by simp; omega, h2, fun t ht hlt => ?_⟩
      cases t with
      | zero => intro e; apply hne; rw [← e]; rfl
      | succ t => exact h3 t (by simpa using ht) (by omega)
theorem l2_0 {w : List Int} {ss : List S3} {i c : Int} {v s0 s1 s2 : ByteArray × ByteArray} (h : Val s0) (k : Nat) :
    spec_l06Middle.l2 (k + 1) w ss i c 0 v.1 v.2 s0.1 s0.2 s1.1 s1.2 s2.1 s2.2 = spec_l06Middle.l2 k w ss i c 1 v.1 v.2 (mvP v c s0).1 (mvP v c s0).2 s1.1 s1.2 s2.1 s2.2 := by
  rw [spec_l06Middle.l2, if_pos (by decide), if_pos rfl, (hd_val h).1, Option.bind_some]
  unfold mvP
  by_cases e1 : hd s0 = c
  · rw [if_pos e1, if_neg (fun z => z.1 e1), shift_eq s0.1 s0.2 h.one h.le, Option.bind_some]; rfl
  · rw [if_neg e1]
    by_cases e2 : hd s0 = 42
    · rw [if_pos e2, if_neg (fun z => z.2 e2), shift_eq s0.1 s0.2 h.one h.le, Option.bind_some]; rfl
    · rw [if_neg e2, if_pos ⟨e1, e2⟩]; rfl
theorem l2_1 {w : List Int} {ss : List S3} {i c : Int} {v s0 s1 s2 : ByteArray × ByteArray} (h : Val s1) (k : Nat) :
    spec_l06Middle.l2 (k + 1) w ss i c 1 v.1 v.2 s0.1 s0.2 s1.1 s1.2 s2.1 s2.2 = spec_l06Middle.l2 k w ss i c 2 v.1 v.2 s0.1 s0.2 (mvP v c s1).1 (mvP v c s1).2 s2.1 s2.2 := by
  rw [spec_l06Middle.l2, if_pos (by decide), if_neg (by decide), if_pos rfl, (hd_val h).1, Option.bind_some]
  unfold mvP
  by_cases e1 : hd s1 = c
  · rw [if_pos e1, if_neg (fun z => z.1 e1), shift_eq s1.1 s1.2 h.one h.le, Option.bind_some]; rfl
  · rw [if_neg e1]
    by_cases e2 : hd s1 = 42
    · rw [if_pos e2, if_neg (fun z => z.2 e2), shift_eq s1.1 s1.2 h.one h.le, Option.bind_some]; rfl
    · rw [if_neg e2, if_pos ⟨e1, e2⟩]; rfl
theorem l2_2 {w : List Int} {ss : List S3} {i c : Int} {v s0 s1 s2 : ByteArray × ByteArray} (h : Val s2) (k : Nat) :
    spec_l06Middle.l2 (k + 1) w ss i c 2 v.1 v.2 s0.1 s0.2 s1.1 s1.2 s2.1 s2.2 = spec_l06Middle.l2 k w ss i c 3 v.1 v.2 s0.1 s0.2 s1.1 s1.2 (mvP v c s2).1 (mvP v c s2).2 := by
  rw [spec_l06Middle.l2, if_pos (by decide), if_neg (by decide), if_neg (by decide), if_pos rfl, (hd_val h).1, Option.bind_some]
  unfold mvP
  by_cases e1 : hd s2 = c
  · rw [if_pos e1, if_neg (fun z => z.1 e1), shift_eq s2.1 s2.2 h.one h.le, Option.bind_some]; rfl
  · rw [if_neg e1]
    by_cases e2 : hd s2 = 42
    · rw [if_pos e2, if_neg (fun z => z.2 e2), shift_eq s2.1 s2.2 h.one h.le, Option.bind_some]; rfl
    · rw [if_neg e2, if_pos ⟨e1, e2⟩]; rfl
theorem ev_l2 {w : List Int} {ss : List S3} {i : Nat} {c : Int} {v : ByteArray × ByteArray} {q : Tri} (hi : i ≤ 1000) (h : q.Ok v) {r : ByteArray × ByteArray × Bool}
    (hr : Ev (fun k => spec_l06Middle.l0 k w ss ((i + 1 : Nat) : Int) v.1 v.2 (q.mv v c).q0.1 (q.mv v c).q0.2 (q.mv v c).q1.1 (q.mv v c).q1.2 (q.mv v c).q2.1 (q.mv v c).q2.2) r) :
    Ev (fun k => spec_l06Middle.l2 k w ss (i : Int) c 0 v.1 v.2 q.q0.1 q.q0.2 q.q1.1 q.q1.2 q.q2.1 q.q2.2) r := by
  refine Ev.step (fun k => l2_0 h.v0 k) ?_
  refine Ev.step (fun k => l2_1 h.v1 k) ?_
  refine Ev.step (fun k => l2_2 h.v2 k) ?_
  exact Ev.step (fun k => by rw [spec_l06Middle.l2, if_neg (by decide), wrS (x := (i : Int) + 1) (by omega) (by omega)]; rfl) hr
theorem str_list (w : List Int) : (strOfNums w).data.toList = w.map fun x => x.toNat.toUInt8 := by simp [strOfNums]
theorem str_size (w : List Int) : (strOfNums w).size = w.length := by
  have := congrArg List.length (str_list w)
  rw [Array.length_toList, List.length_map] at this
  exact this
theorem str_take (w : List Int) (i : Nat) : (strOfNums w).extract 0 i = strOfNums (w.take i) := by
  apply ext_data
  rw [extract_list, str_list, str_list, List.drop_zero, Nat.sub_zero, List.map_take]
theorem str_drop (w : List Int) (i : Nat) : (strOfNums w).extract i (strOfNums w).size = strOfNums (w.drop i) := by
  apply ext_data
  rw [extract_list, str_list, str_list, str_size, List.map_drop, List.take_of_length_le (by simp)]
theorem str_push (w : List Int) {c : Int} (h : c = 48 ∨ c = 49) : strOfNums w ++ Utf8.encode c = strOfNums (w ++ [c]) := by
  apply ext_data
  rw [append_list, str_list, str_list, List.map_append]
  rcases h with rfl | rfl <;> rfl
theorem tri_sizes {v : ByteArray × ByteArray} {q : Tri} (h : q.Ok v) : q.p.ok := by
  have h0 := h.v0.le
  have h1 := h.v1.le
  have h2 := h.v2.le
  unfold P6.ok Tri.p
  refine ⟨?_, ?_, ?_, ?_, ?_, ?_⟩ <;> dsimp only <;> omega
theorem same_val {v : ByteArray × ByteArray} {q : Tri} (h : q.Ok v) (hs : q.same.2.2 = true) : 1 ≤ q.same.2.1.size ∧ q.same.1.size + q.same.2.1.size ≤ 64 := by
  unfold Tri.same at *
  split
  · exact ⟨h.v0.one, h.v0.le⟩
  · split
    · exact ⟨h.v1.one, h.v1.le⟩
    · rename_i h1 h2
      rw [if_neg h1, if_neg h2] at hs
      cases hs
theorem same_ne {q : Tri} (hs : q.same.2.2 = false) : q.q0 ≠ q.q1 ∧ q.q0 ≠ q.q2 ∧ q.q1 ≠ q.q2 := by
  unfold Tri.same at hs
  split at hs
  · cases hs
  · rename_i h1
    split at hs
    · cases hs
    · rename_i h2
      exact ⟨fun e => h1 (.inl e), fun e => h1 (.inr e), h2⟩
theorem mid_round {v : ByteArray × ByteArray} (hv : Val v) (hpv : Pt v v) (hv1 : v.1.size = 0) (hv2 : bt v.2 ((v.2.size - 1 : Nat) : Int) = 42) (w : List Int) (qs : List Tri) (q : Tri) (hw : w.length ≤ 600) (hq : qs.length = w.length) (h : q.Ok v) (hseen : ∀ t, t ∈ qs → t.vote.2 = -1)
    (next : q.vote.2 = -1 → (q.vote.1 = 48 ∨ q.vote.1 = 49) → ∃ r, Ev (fun k => spec_l06Middle.l2 k (w ++ [q.vote.1]) ((qs ++ [q]).map Tri.s) (w.length : Int) q.vote.1 0 v.1 v.2 q.q0.1 q.q0.2 q.q1.1 q.q1.2 q.q2.1 q.q2.2) r ∧
      Ev (fun k => if (strOfNums w).size = 600 then some (⟨#[]⟩, ⟨#[]⟩, 3) else impl_Sequence_middle.l v.1 v.2 k (q.mv v q.vote.1).p (strOfNums (w ++ [q.vote.1])) ((qs ++ [q]).map Tri.p)) (handed r)) :
    ∃ r, Ev (fun k => spec_l06Middle.l0 k w (qs.map Tri.s) (w.length : Int) v.1 v.2 q.q0.1 q.q0.2 q.q1.1 q.q1.2 q.q2.1 q.q2.2) r ∧ Ev (fun k => impl_Sequence_middle.l v.1 v.2 k q.p (strOfNums w) (qs.map Tri.p)) (handed r) := by
  have gd : q.p.ok ∧ (strOfNums w).size ≤ 600 ∧ (qs.map Tri.p).length = (strOfNums w).size := ⟨tri_sizes h, by rw [str_size]; exact hw, by rw [str_size, List.length_map]; exact hq⟩
  have hsz := str_size w
  by_cases hs : q.same.2.2 = true
  · obtain ⟨z1, z2⟩ := same_val h hs
    obtain ⟨c, c1, c2⟩ := both_told (strOfNums w ++ q.same.1) q.same.2.1 z1 (by rw [ByteArray.size_append]; omega)
    refine ⟨told c, ?_, ?_⟩
    · refine Ev.step (fun k => (spec_l06Middle.l0.eq_2 _ _ _ _ _ _ _ _ _ _ _ _).trans (if_pos (by omega))) ?_
      refine Ev.bind (same_spec q) ?_
      simp only [if_pos hs, if_pos (show (strOfNums w).size + q.same.1.size ≤ 9223372036854775807 by omega)]
      exact Ev.bind c1 (Ev.now _)
    · refine Ev.step (fun k => (impl_Sequence_middle.l.eq_2 _ _ _ _ _ _).trans (if_pos gd)) ?_
      refine Ev.bind (same_impl q) ?_
      simp only [if_pos hs, if_pos (show q.same.1.size ≤ 1000 by omega)]
      exact c2
  · have hs' : q.same.2.2 = false := Bool.eq_false_iff.2 hs
    obtain ⟨d0, d1, d2⟩ := same_ne hs'
    obtain ⟨lv, lc⟩ := letters_val h hv1 hv2 d0 d1 d2
    have vv : impl_three_vote.f q.p.p0 q.p.p1 q.p.p2 q.p.p3 q.p.p4 q.p.p5 = some q.vote := vote_val h
    by_cases hst : 0 ≤ q.vote.2
    · have hnone : idx6 (qs.map Tri.p) q.p = none := by
        cases hi : idx6 (qs.map Tri.p) q.p with
        | none => rfl
        | some m =>
          obtain ⟨hm, e, _⟩ := idx_some qs q m hi
          have := hseen _ (List.getElem_mem hm)
          rw [e] at this
          omega
      have lc' : q.vote.2 = 0 ∨ q.vote.2 = 1 ∨ q.vote.2 = 2 := by
        rcases lc with lc | lc
        · have := lc.1; omega
        · exact lc
      rcases lc' with e | e | e
      · obtain ⟨c, c1, c2⟩ := both_told (strOfNums w ++ q.q0.1) q.q0.2 h.v0.one (by rw [ByteArray.size_append]; have := h.v0.le; omega)
        refine ⟨told c, ?_, ?_⟩
        · refine Ev.step (fun k => (spec_l06Middle.l0.eq_2 _ _ _ _ _ _ _ _ _ _ _ _).trans (if_pos (by omega))) ?_
          refine Ev.bind (same_spec q) ?_
          simp only [if_neg hs, lv, Option.bind_some, if_pos (show q.vote.2 ≥ 0 from hst), if_pos e, if_pos (show (strOfNums w).size + q.q0.1.size ≤ 9223372036854775807 by have := h.v0.le; omega)]
          exact Ev.bind c1 (Ev.now _)
        · refine Ev.step (fun k => (impl_Sequence_middle.l.eq_2 _ _ _ _ _ _).trans (if_pos gd)) ?_
          refine Ev.bind (same_impl q) ?_
          simp only [if_neg hs, hnone, vv, Option.bind_some, if_pos hst, if_pos e]
          exact c2
      · obtain ⟨c, c1, c2⟩ := both_told (strOfNums w ++ q.q1.1) q.q1.2 h.v1.one (by rw [ByteArray.size_append]; have := h.v1.le; omega)
        refine ⟨told c, ?_, ?_⟩
        · refine Ev.step (fun k => (spec_l06Middle.l0.eq_2 _ _ _ _ _ _ _ _ _ _ _ _).trans (if_pos (by omega))) ?_
          refine Ev.bind (same_spec q) ?_
          simp only [if_neg hs, lv, Option.bind_some, if_pos (show q.vote.2 ≥ 0 from hst), if_neg (show ¬ q.vote.2 = 0 by omega), if_pos e, if_pos (show (strOfNums w).size + q.q1.1.size ≤ 9223372036854775807 by have := h.v1.le; omega)]
          exact Ev.bind c1 (Ev.now _)
        · refine Ev.step (fun k => (impl_Sequence_middle.l.eq_2 _ _ _ _ _ _).trans (if_pos gd)) ?_
          refine Ev.bind (same_impl q) ?_
          simp only [if_neg hs, hnone, vv, Option.bind_some, if_pos hst, if_neg (show ¬ q.vote.2 = 0 by omega), if_pos e]
          exact c2
      · obtain ⟨c, c1, c2⟩ := both_told (strOfNums w ++ q.q2.1) q.q2.2 h.v2.one (by rw [ByteArray.size_append]; have := h.v2.le; omega)
        refine ⟨told c, ?_, ?_⟩
        · refine Ev.step (fun k => (spec_l06Middle.l0.eq_2 _ _ _ _ _ _ _ _ _ _ _ _).trans (if_pos (by omega))) ?_
          refine Ev.bind (same_spec q) ?_
          simp only [if_neg hs, lv, Option.bind_some, if_pos (show q.vote.2 ≥ 0 from hst), if_neg (show ¬ q.vote.2 = 0 by omega), if_neg (show ¬ q.vote.2 = 1 by omega), if_pos e, if_pos (show (strOfNums w).size + q.q2.1.size ≤ 9223372036854775807 by have := h.v2.le; omega)]
          exact Ev.bind c1 (Ev.now _)
        · refine Ev.step (fun k => (impl_Sequence_middle.l.eq_2 _ _ _ _ _ _).trans (if_pos gd)) ?_
          refine Ev.bind (same_impl q) ?_
          simp only [if_neg hs, hnone, vv, Option.bind_some, if_pos hst, if_neg (show ¬ q.vote.2 = 0 by omega), if_neg (show ¬ q.vote.2 = 1 by omega), if_pos e]
          exact c2
    · have lc' : q.vote.2 = -1 ∧ (q.vote.1 = 48 ∨ q.vote.1 = 49) := by
        rcases lc with lc | lc
        · exact lc
        · omega
      have hsp : ∀ r, Ev (fun k => spec_l06Middle.l1 k w (qs.map Tri.s) (w.length : Int) q.vote.1 ((0 : Nat) : Int) v.1 v.2 q.q0.1 q.q0.2 q.q1.1 q.q1.2 q.q2.1 q.q2.2) r → Ev (fun k => spec_l06Middle.l0 k w (qs.map Tri.s) (w.length : Int) v.1 v.2 q.q0.1 q.q0.2 q.q1.1 q.q1.2 q.q2.1 q.q2.2) r := by
        intro r hr
        refine Ev.step (fun k => (spec_l06Middle.l0.eq_2 _ _ _ _ _ _ _ _ _ _ _ _).trans (if_pos (by omega))) ?_
        refine Ev.bind (same_spec q) ?_
        simp only [if_neg hs, lv, Option.bind_some, if_neg (show ¬ q.vote.2 ≥ 0 from hst)]
        exact hr
      cases hi : idx6 (qs.map Tri.p) q.p with
      | some m =>
        obtain ⟨hm, he, hlt⟩ := idx_some qs q m hi
        obtain ⟨c, c1, c2⟩ := both_told (strOfNums (w.take m)) (strOfNums (w.drop m)) (by rw [str_size, List.length_drop]; omega) (by rw [str_size, str_size, List.length_drop, List.length_take]; omega)
        refine ⟨told c, hsp _ (scan_some (by omega) hq m hm he c1 m 0 (by omega) hlt), ?_⟩
        refine Ev.step (fun k => (impl_Sequence_middle.l.eq_2 _ _ _ _ _ _).trans (if_pos gd)) ?_
        refine Ev.bind (same_impl q) ?_
        simp only [if_neg hs, hi, str_take, str_drop]
        exact c2
      | none =>
        obtain ⟨r, r1, r2⟩ := next lc'.1 lc'.2
        refine ⟨r, hsp _ (scan_none (by omega) hq r1 qs.length 0 (by omega) (fun t ht _ => idx_none qs q hi t ht)), ?_⟩
        refine Ev.step (fun k => (impl_Sequence_middle.l.eq_2 _ _ _ _ _ _).trans (if_pos gd)) ?_
        refine Ev.bind (same_impl q) ?_
        simp only [if_neg hs, hi, vv, Option.bind_some, if_neg hst]
        refine Ev.congr (fun k => ?_) r2
        have mm : impl_Sequence_moved.f v.1 v.2 q.p.p0 q.p.p1 q.p.p2 q.p.p3 q.p.p4 q.p.p5 q.vote.1 = _ := moved_val h q.vote.1
        by_cases h6 : (strOfNums w).size = 600
        · rw [if_pos h6, if_pos h6]
        · rw [if_neg h6, if_neg h6, if_pos lc'.2, mm, Option.bind_some, str_push w lc'.2, List.map_append]
          rfl
theorem both_mid {v : ByteArray × ByteArray} (hv : Val v) (hpv : Pt v v) (hv1 : v.1.size = 0) (hv2 : bt v.2 ((v.2.size - 1 : Nat) : Int) = 42) :
    ∀ (d : Nat) (w : List Int) (qs : List Tri) (q : Tri), w.length + d = 600 → qs.length = w.length → q.Ok v → (∀ t, t ∈ qs → t.vote.2 = -1) →
      ∃ r, Ev (fun k => spec_l06Middle.l0 k w (qs.map Tri.s) (w.length : Int) v.1 v.2 q.q0.1 q.q0.2 q.q1.1 q.q1.2 q.q2.1 q.q2.2) r ∧ Ev (fun k => impl_Sequence_middle.l v.1 v.2 k q.p (strOfNums w) (qs.map Tri.p)) (handed r) := by
  intro d
  induction d with
  | zero =>
    intro w qs q hwd hq h hseen
    refine mid_round hv hpv hv1 hv2 w qs q (by omega) hq h hseen (fun _ _ => ⟨(⟨#[]⟩, ⟨#[]⟩, false), ?_, ?_⟩)
    · refine ev_l2 (by omega) h ?_
      exact Ev.step (f := fun _ => some _) (fun k => by rw [spec_l06Middle.l0, if_neg (by omega)]) (Ev.now _)
    · simp only [if_pos (show (strOfNums w).size = 600 by rw [str_size]; omega)]
      exact Ev.now _
  | succ d ih =>
    intro w qs q hwd hq h hseen
    refine mid_round hv hpv hv1 hv2 w qs q (by omega) hq h hseen (fun e _ => ?_)
    obtain ⟨r, r1, r2⟩ := ih (w ++ [q.vote.1]) (qs ++ [q]) (q.mv v q.vote.1) (by simp; omega) (by simp; omega) (h.mv hv hpv _) (fun t ht => by
      rcases List.mem_append.1 ht with ht | ht
      · exact hseen t ht
      · rw [List.mem_singleton.1 ht]; exact e)
    refine ⟨r, ?_, ?_⟩
    · refine ev_l2 (by omega) h ?_
      rw [List.length_append] at r1
      exact r1
    · simp only [if_neg (show ¬ (strOfNums w).size = 600 by rw [str_size]; omega)]
      exact r2
theorem star_self {v : ByteArray × ByteArray} (hv : Val v) (hv1 : v.1.size = 0) (h : ∀ i : Nat, i < v.2.size - 1 → bt v.2 (i : Int) ≠ 42) : Pt v v := by
  have e0 : v = (⟨#[]⟩, v.2) := by
    refine Prod.ext (ext_data ?_) rfl
    have e : v.1.data.toList.length = v.1.size := Array.length_toList (xs := v.1.data)
    show v.1.data.toList = _
    rw [List.length_eq_zero_iff.1 (show v.1.data.toList.length = 0 by omega)]
  have hlen : v.2.data.toList.length = v.2.size := Array.length_toList (xs := v.2.data)
  refine pt_of hv.one (fun j hj hst => ?_)
  obtain ⟨t1, t2⟩ := shN_turn v.2 j (by omega)
  rw [← e0] at t1 t2
  have hs : (shN j v).2.size = v.2.size := by
    have e : (shN j v).2.data.toList.length = (shN j v).2.size := Array.length_toList (xs := (shN j v).2.data)
    rw [← e, t2, List.length_append, List.length_drop, List.length_take]
    omega
  have hb : bt (shN j v).2 ((0 : Nat) : Int) = 42 := by
    have := hst
    unfold star atV at this
    rw [if_neg (by rw [t1]; show ¬ 0 < (0 : Nat); omega), t1] at this
    rw [show (0 - (⟨#[]⟩ : ByteArray).size) % (shN j v).2.size = 0 from by rw [show (⟨#[]⟩ : ByteArray).size = 0 from rfl, Nat.sub_zero, Nat.zero_mod]] at this
    exact this
  have h42 := (bt_star _ 0 (by rw [hs]; exact hv.one)).1 hb
  rw [t2, List.getElem?_append_left (by rw [List.length_drop]; omega), List.getElem?_drop, Nat.add_zero] at h42
  have hj2 : j = v.2.size - 1 := by
    refine Classical.byContradiction fun hne => h j (by omega) ?_
    exact (bt_star v.2 j (by omega)).2 h42
  rw [← shN_succ, hj2, Nat.sub_add_cancel hv.one]
  conv => lhs; rw [e0]
  rw [shN_round, ← e0]
theorem Ev.back {α : Type} {g f : Nat → Option α} {r : α} (h : ∀ k, g (k + 1) = f k) (k : Ev g r) : Ev f r := by
  obtain ⟨K, hK⟩ := k
  exact ⟨K, fun k hk => by rw [← h k]; exact hK (k + 1) (by omega)⟩
theorem Ev.val {α : Type} {a r : α} (h : Ev (fun _ => some a) r) : a = r := by
  obtain ⟨K, hK⟩ := h
  exact Option.some.inj (hK K (Nat.le_refl _))
theorem point_steps (p q a b : ByteArray) (h64 : a.size + b.size ≤ 64) : ∀ (d i : Nat) (s : ByteArray × ByteArray), i + d = a.size + b.size → 1 ≤ s.2.size → s.1.size + s.2.size ≤ 64 →
    Ev (fun k => spec_l06Point.l0 k (i : Int) p q a b s.1 s.2) true → ∀ j, j < d → star (shN j s) → sh (shN j s) = (p, q) := by
  intro d
  induction d with
  | zero => intro i s _ _ _ _ j hj; omega
  | succ d ih =>
    intro i s h hy hxy hev j hj hst
    have hs := sh_sizes s hy
    have ea := at_val s.1 s.2 0 hy (by omega) (by omega)
    have es : ∀ k, spec_l06Point.l0 (k + 1) (i : Int) p q a b s.1 s.2 = if atV s.1 s.2 0 = 42 then (if (!((sh s).1.toList == p.toList) || (!((sh s).2.toList == q.toList))) = true then some false else spec_l06Point.l0 k ((i + 1 : Nat) : Int) p q a b (sh s).1 (sh s).2) else spec_l06Point.l0 k ((i + 1 : Nat) : Int) p q a b (sh s).1 (sh s).2 := by
      intro k
      rw [spec_l06Point.l0, wrS (x := (a.size : Int) + (b.size : Int)) (by omega) (by omega), if_pos (by omega), shift_eq s.1 s.2 hy hxy, Option.bind_some, show (0 : Int) = ((0 : Nat) : Int) from rfl, ea, Option.bind_some, wrS (x := (i : Int) + 1) (by omega) (by omega)]
      rfl
    have e1 := Ev.back es hev
    by_cases h1 : atV s.1 s.2 0 = 42
    · by_cases h2 : (!((sh s).1.toList == p.toList) || (!((sh s).2.toList == q.toList))) = true
      · simp only [if_pos h1, if_pos h2] at e1
        cases Ev.val e1
      · simp only [if_pos h1, if_neg h2] at e1
        cases j with
        | zero =>
          refine (eqP (sh s) (p, q)).1 ?_
          simpa using h2
        | succ j => exact ih (i + 1) (sh s) (by omega) (by omega) (by omega) e1 j (by omega) hst
    · simp only [if_neg h1] at e1
      cases j with
      | zero => exact absurd hst h1
      | succ j => exact ih (i + 1) (sh s) (by omega) (by omega) (by omega) e1 j (by omega) hst
theorem point_pt {v s : ByteArray × ByteArray} (h1 : 1 ≤ s.2.size) (h64 : s.1.size + s.2.size ≤ 64) (h : Ev (fun k => spec_l06Point.f k v.1 v.2 s.1 s.2) true) : Pt v s := by
  unfold spec_l06Point.f at h
  exact pt_of h1 (fun j hj => point_steps v.1 v.2 s.1 s.2 h64 (s.1.size + s.2.size) 0 s (by omega) h1 h64 h j hj)
abbrev SP := S27
def SP.pr (x : SP) : ByteArray × ByteArray := (x.f0, x.f1)
theorem val_of {a b : ByteArray} (h : lettersB a = true ∧ lettersB b = true ∧ 1 ≤ b.size ∧ a.size + b.size ≤ 64 ∧ Cn a b) : Val (a, b) := ⟨h.1, h.2.1, h.2.2.1, h.2.2.2.1, h.2.2.2.2⟩
theorem rd_sp (L : List SP) (j : Nat) (hj : j < L.length) : rd_T27 L (j : Int) = L[j] := by
  unfold rd_T27
  rw [Int.toNat_natCast, List.getD_eq_getElem?_getD, List.getElem?_eq_getElem hj]
  rfl
theorem code_seqs (v : ByteArray × ByteArray) (L : List SP) (hl : L.length ≤ 1000) (hL : ∀ x, x ∈ L → x.f0.size + x.f1.size ≤ 1048576) : ∀ d j, j + d = L.length →
    ∃ b : Bool, (∀ r, Ev (fun k => if b = true then ((spec_l02Star.f k v.1 v.2).bind fun t => if t = true then spec_l06Code.l1 k L 0 v.1 v.2 else some 5) else some 1) r → Ev (fun k => spec_l06Code.l0 k L (j : Int) v.1 v.2) r) ∧
      Ev (fun k => allM (fun x : SP => impl_IsSequence.f k x.f0 x.f1) (L.drop j)) b ∧ (b = true → ∀ x, x ∈ L.drop j → Val (SP.pr x)) := by
  intro d
  induction d with
  | zero =>
    intro j hj
    refine ⟨true, fun r hr => ?_, ?_, fun _ x hx => by rw [List.drop_of_length_le (by omega)] at hx; cases hx⟩
    · simp only [if_true] at hr
      exact Ev.step (fun k => by rw [spec_l06Code.l0, if_neg (by omega)]) hr
    · rw [List.drop_of_length_le (by omega)]
      exact Ev.now true
  | succ d ih =>
    intro j hj
    have hjl : j < L.length := by omega
    obtain ⟨q, q1, q2, q3⟩ := both_seq L[j].f0 L[j].f1 (hL _ (List.getElem_mem hjl))
    have e : L.drop j = L[j] :: L.drop (j + 1) := List.drop_eq_getElem_cons hjl
    obtain ⟨b, b1, b2, b3⟩ := ih (j + 1) (by omega)
    cases q with
    | false =>
      refine ⟨false, fun r hr => ?_, ?_, fun h => by cases h⟩
      · simp only [Bool.false_eq_true, if_false] at hr
        refine Ev.step (f := fun k => (spec_l01Seq.f k L[j].f0 L[j].f1).bind fun t => if t = true then spec_l06Code.l0 k L ((j + 1 : Nat) : Int) v.1 v.2 else some 1) (fun k => by rw [spec_l06Code.l0, if_pos (by omega), if_pos (by omega), rd_sp L j hjl, wrS (x := (j : Int) + 1) (by omega) (by omega)]; rfl) (Ev.bind q1 ?_)
        simp only [Bool.false_eq_true, if_false]
        exact hr
      · rw [e]
        refine Ev.bind q2 ?_
        simp only [Bool.false_eq_true, if_false]
        exact Ev.now _
    | true =>
      refine ⟨b, fun r hr => ?_, ?_, fun h x hx => ?_⟩
      · refine Ev.step (f := fun k => (spec_l01Seq.f k L[j].f0 L[j].f1).bind fun t => if t = true then spec_l06Code.l0 k L ((j + 1 : Nat) : Int) v.1 v.2 else some 1) (fun k => by rw [spec_l06Code.l0, if_pos (by omega), if_pos (by omega), rd_sp L j hjl, wrS (x := (j : Int) + 1) (by omega) (by omega)]; rfl) (Ev.bind q1 ?_)
        simp only [if_true]
        exact b1 r hr
      · rw [e]
        refine Ev.bind q2 ?_
        simp only [if_true]
        exact b2
      · rw [e] at hx
        rcases List.mem_cons.1 hx with rfl | hx
        · exact val_of (q3 rfl)
        · exact b3 h x hx
theorem code_points (v : ByteArray × ByteArray) (L : List SP) (hl : L.length ≤ 1000) (hV : ∀ x, x ∈ L → Val (SP.pr x)) : ∀ d j, j + d = L.length →
    ∃ b : Bool, Ev (fun k => spec_l06Code.l1 k L (j : Int) v.1 v.2) (if b = true then 0 else 5) ∧ Ev (fun k => allM (fun x : SP => impl_Sequence_isPoint.f k v.1 v.2 x.f0 x.f1) (L.drop j)) b ∧ (b = true → ∀ x, x ∈ L.drop j → Pt v (SP.pr x)) := by
  intro d
  induction d with
  | zero =>
    intro j hj
    refine ⟨true, ?_, ?_, fun _ x hx => by rw [List.drop_of_length_le (by omega)] at hx; cases hx⟩
    · exact Ev.step (f := fun _ => some 0) (fun k => by rw [spec_l06Code.l1, if_neg (by omega)]) (Ev.now _)
    · rw [List.drop_of_length_le (by omega)]
      exact Ev.now true
  | succ d ih =>
    intro j hj
    have hjl : j < L.length := by omega
    have hx := hV _ (List.getElem_mem hjl)
    obtain ⟨q, q1, q2⟩ := both_point v.1 v.2 L[j].f0 L[j].f1 hx.one hx.le
    have e : L.drop j = L[j] :: L.drop (j + 1) := List.drop_eq_getElem_cons hjl
    obtain ⟨b, b1, b2, b3⟩ := ih (j + 1) (by omega)
    have st : ∀ r, Ev (fun k => if q = true then spec_l06Code.l1 k L ((j + 1 : Nat) : Int) v.1 v.2 else some 5) r → Ev (fun k => spec_l06Code.l1 k L (j : Int) v.1 v.2) r := fun r hr =>
      Ev.step (f := fun k => (spec_l06Point.f k v.1 v.2 L[j].f0 L[j].f1).bind fun t => if t = true then spec_l06Code.l1 k L ((j + 1 : Nat) : Int) v.1 v.2 else some 5) (fun k => by rw [spec_l06Code.l1, if_pos (by omega), if_pos (by omega), rd_sp L j hjl, wrS (x := (j : Int) + 1) (by omega) (by omega)]; rfl) (Ev.bind q1 hr)
    cases q with
    | false =>
      refine ⟨false, st _ ?_, ?_, fun h => by cases h⟩
      · simp only [Bool.false_eq_true, if_false]
        exact Ev.now _
      · rw [e]
        refine Ev.bind q2 ?_
        simp only [Bool.false_eq_true, if_false]
        exact Ev.now _
    | true =>
      refine ⟨b, st _ ?_, ?_, fun h x hm => ?_⟩
      · simp only [if_true]
        exact b1
      · rw [e]
        refine Ev.bind q2 ?_
        simp only [if_true]
        exact b2
      · rw [e] at hm
        rcases List.mem_cons.1 hm with rfl | hm
        · exact point_pt hx.one hx.le q1
        · exact b3 h x hm
theorem both_code (v : ByteArray × ByteArray) (L : List SP) (hl : L.length ≤ 1000) (hv : v.1.size + v.2.size ≤ 1048576) (hL : ∀ x, x ∈ L → x.f0.size + x.f1.size ≤ 1048576) :
    ∃ c : Int, Ev (fun k => spec_l06Code.f k v.1 v.2 L) c ∧ Ev (fun k => impl_starCode.f k v.1 v.2 L) c ∧
      (c = 0 → Val v ∧ v.1.size = 0 ∧ bt v.2 ((v.2.size - 1 : Nat) : Int) = 42 ∧ Pt v v ∧ ∀ x, x ∈ L → Val (SP.pr x) ∧ Pt v (SP.pr x)) := by
  obtain ⟨q, q1, q2, q3⟩ := both_seq v.1 v.2 hv
  obtain ⟨b, b1, b2, b3⟩ := code_seqs v L hl hL L.length 0 (by omega)
  rw [List.drop_zero] at b2 b3
  have top : ∀ r, Ev (fun k => if q = true then spec_l06Code.l0 k L ((0 : Nat) : Int) v.1 v.2 else some 1) r → Ev (fun k => spec_l06Code.f k v.1 v.2 L) r := fun r hr => by
    unfold spec_l06Code.f
    exact Ev.bind q1 hr
  cases q with
  | false =>
    refine ⟨1, top _ ?_, ?_, fun h => by omega⟩
    · simp only [Bool.false_eq_true, if_false]
      exact Ev.now _
    · unfold impl_starCode.f
      refine Ev.bind q2 ?_
      simp only [Bool.false_eq_true, if_false]
      exact Ev.now _
  | true =>
    have hval := val_of (q3 rfl)
    cases b with
    | false =>
      refine ⟨1, top _ ?_, ?_, fun h => by omega⟩
      · simp only [if_true]
        refine b1 _ ?_
        simp only [Bool.false_eq_true, if_false]
        exact Ev.now _
      · unfold impl_starCode.f
        refine Ev.bind q2 ?_
        simp only [if_true]
        refine Ev.bind b2 ?_
        simp only [Bool.false_eq_true, if_false]
        exact Ev.now _
    | true =>
      obtain ⟨s, s1, s2, s3⟩ := both_star v.1 v.2 hval.one hval.le
      obtain ⟨p, p1, p2, p3⟩ := code_points v L hl (b3 rfl) L.length 0 (by omega)
      rw [List.drop_zero] at p2 p3
      cases s with
      | false =>
        refine ⟨5, top _ ?_, ?_, fun h => by omega⟩
        · simp only [if_true]
          refine b1 _ ?_
          simp only [if_true]
          refine Ev.bind s1 ?_
          simp only [Bool.false_eq_true, if_false]
          exact Ev.now _
        · unfold impl_starCode.f
          refine Ev.bind q2 ?_
          simp only [if_true]
          refine Ev.bind b2 ?_
          simp only [if_true, s2, Option.bind_some, Bool.false_eq_true, if_false]
          exact Ev.now _
      | true =>
        obtain ⟨t1, t2, t3⟩ := s3 rfl
        refine ⟨if p = true then 0 else 5, top _ ?_, ?_, fun h => ⟨hval, t1, t2, star_self hval t1 t3, fun x hx => ?_⟩⟩
        · simp only [if_true]
          refine b1 _ ?_
          simp only [if_true]
          refine Ev.bind s1 ?_
          simp only [if_true]
          exact p1
        · unfold impl_starCode.f
          refine Ev.bind q2 ?_
          simp only [if_true]
          refine Ev.bind b2 ?_
          simp only [if_true, s2, Option.bind_some]
          exact Ev.bind p2 (Ev.now _)
        · cases p with
          | false => simp at h
          | true => exact ⟨b3 rfl x hx, p3 rfl x hx⟩
theorem both_three (v s t u : ByteArray × ByteArray) (hv : v.1.size + v.2.size ≤ 1048576) (hs : s.1.size + s.2.size ≤ 1048576) (ht : t.1.size + t.2.size ≤ 1048576) (hu : u.1.size + u.2.size ≤ 1048576) :
    (∃ d : Int, d ≠ 0 ∧ Ev (fun k => spec_l06Three.f k v.1 v.2 s.1 s.2 t.1 t.2 u.1 u.2) d ∧ Ev (fun k => impl_MiddleOf.f k v.1 v.2 s.1 s.2 t.1 t.2 u.1 u.2) (⟨#[]⟩, ⟨#[]⟩, d)) ∨
    (Ev (fun k => spec_l06Three.f k v.1 v.2 s.1 s.2 t.1 t.2 u.1 u.2) 0 ∧ ∃ r, Ev (fun k => spec_l06Middle.f k v.1 v.2 s.1 s.2 t.1 t.2 u.1 u.2) r ∧ Ev (fun k => impl_MiddleOf.f k v.1 v.2 s.1 s.2 t.1 t.2 u.1 u.2) (handed r)) := by
  obtain ⟨c, c1, c2, c3⟩ := both_code v [⟨s.1, s.2⟩, ⟨t.1, t.2⟩, ⟨u.1, u.2⟩] (by simp) hv (fun x hx => by
    rcases List.mem_cons.1 hx with rfl | hx
    · exact hs
    rcases List.mem_cons.1 hx with rfl | hx
    · exact ht
    rcases List.mem_cons.1 hx with rfl | hx
    · exact hu
    cases hx)
  have sp := same_spec ⟨s, t, u⟩
  have im := same_impl ⟨s, t, u⟩
  have code : ∀ d : Int, (if c = 0 then (if (Tri.same ⟨s, t, u⟩).2.2 = true then 5 else c) else c) = d →
      Ev (fun k => spec_l06Three.f k v.1 v.2 s.1 s.2 t.1 t.2 u.1 u.2) d ∧ Ev (fun k => impl_differentCode.f k v.1 v.2 s.1 s.2 t.1 t.2 u.1 u.2) d := by
    intro d hd
    constructor
    · unfold spec_l06Three.f
      refine Ev.bind c1 (Ev.bind sp ?_)
      subst hd
      by_cases h0 : c = 0
      · simp only [if_pos h0]
        by_cases h1 : (Tri.same ⟨s, t, u⟩).2.2 = true
        · simp only [if_pos h1]; exact Ev.now _
        · simp only [if_neg h1]; exact Ev.now _
      · simp only [if_neg h0]; exact Ev.now _
    · unfold impl_differentCode.f
      refine Ev.bind c2 ?_
      subst hd
      by_cases h0 : c = 0
      · simp only [if_pos h0, if_neg (show ¬ c ≠ 0 from fun z => z h0)]
        refine Ev.bind im ?_
        by_cases h1 : (Tri.same ⟨s, t, u⟩).2.2 = true
        · simp only [if_pos h1]; exact Ev.now _
        · simp only [if_neg h1, h0]; exact Ev.now _
      · simp only [if_neg h0, if_pos (show c ≠ 0 from h0)]; exact Ev.now _
  by_cases h : c = 0 ∧ (Tri.same ⟨s, t, u⟩).2.2 = false
  · obtain ⟨h0, h1⟩ := h
    obtain ⟨d1, d2⟩ := code 0 (by rw [if_pos h0, h1, if_neg (by decide), h0])
    obtain ⟨hV, e1, e2, e3, e4⟩ := c3 h0
    have k0 := e4 ⟨s.1, s.2⟩ (by simp)
    have k1 := e4 ⟨t.1, t.2⟩ (by simp)
    have k2 := e4 ⟨u.1, u.2⟩ (by simp)
    obtain ⟨r, r1, r2⟩ := both_mid hV e3 e1 e2 600 [] [] ⟨s, t, u⟩ (by simp) rfl ⟨k0.1, k1.1, k2.1, k0.2, k1.2, k2.2⟩ (fun t ht => by cases ht)
    refine Or.inr ⟨d1, r, ?_, ?_⟩
    · unfold spec_l06Middle.f
      exact r1
    · unfold impl_MiddleOf.f
      refine Ev.bind d2 ?_
      simp only [if_true]
      unfold impl_Sequence_middle.f
      exact Ev.bind r2 (Ev.now _)
  · obtain ⟨d, hd⟩ : ∃ d : Int, (if c = 0 then (if (Tri.same ⟨s, t, u⟩).2.2 = true then 5 else c) else c) = d := ⟨_, rfl⟩
    have hd0 : d ≠ 0 := by
      intro e
      subst e
      by_cases h0 : c = 0
      · rw [if_pos h0] at hd
        by_cases h1 : (Tri.same ⟨s, t, u⟩).2.2 = true
        · rw [if_pos h1] at hd; omega
        · exact h ⟨h0, Bool.eq_false_iff.2 h1⟩
      · rw [if_neg h0] at hd; exact h0 hd
    obtain ⟨d1, d2⟩ := code d hd
    refine Or.inl ⟨d, hd0, d1, ?_⟩
    unfold impl_MiddleOf.f
    refine Ev.bind d2 ?_
    simp only [if_neg hd0]
    exact Ev.now _
theorem both_isBetween (v s t u : ByteArray × ByteArray) (hv : v.1.size + v.2.size ≤ 1048576) (hs : s.1.size + s.2.size ≤ 1048576) (ht : t.1.size + t.2.size ≤ 1048576) (hu : u.1.size + u.2.size ≤ 1048576) :
    ∃ r, Ev (fun k => spec_IsBetween.f k v.1 v.2 s.1 s.2 t.1 t.2 u.1 u.2) r ∧ Ev (fun k => impl_IsBetween.f k v.1 v.2 s.1 s.2 t.1 t.2 u.1 u.2) r := by
  rcases both_three v s t u hv hs ht hu with ⟨d, hd0, d1, d2⟩ | ⟨d1, r, r1, r2⟩
  · refine ⟨(false, d), ?_, ?_⟩
    · unfold spec_IsBetween.f
      refine Ev.bind d1 ?_
      simp only [if_neg hd0]
      exact Ev.now _
    · unfold impl_IsBetween.f
      refine Ev.bind d2 ?_
      simp only [if_neg hd0]
      exact Ev.now _
  · by_cases hr : r.2.2 = true
    · refine ⟨((r.1.toList == t.1.toList && (r.2.1.toList == t.2.toList)), 0), ?_, ?_⟩
      rotate_left
      · unfold impl_IsBetween.f
        refine Ev.bind r2 ?_
        unfold handed
        simp only [if_pos hr, if_true]
        exact Ev.now _
      · unfold spec_IsBetween.f
        refine Ev.bind d1 ?_
        simp only [if_true]
        refine Ev.bind r1 ?_
        simp only [if_pos hr]
        exact Ev.now _
    · refine ⟨(false, 3), ?_, ?_⟩
      · unfold spec_IsBetween.f
        refine Ev.bind d1 ?_
        simp only [if_true]
        refine Ev.bind r1 ?_
        simp only [if_neg hr]
        exact Ev.now _
      · unfold impl_IsBetween.f
        refine Ev.bind r2 ?_
        unfold handed
        simp only [if_neg hr]
        exact Ev.now _
theorem pure_FnExactIsBetween (a b c d e f g h : ByteArray) (ha : a.size ≤ maxLen) (hb : b.size ≤ maxLen) (hc : c.size ≤ maxLen) (hd : d.size ≤ maxLen) (he : e.size ≤ maxLen) (hf : f.size ≤ maxLen) (hg : g.size ≤ maxLen) (hh : h.size ≤ maxLen) : ∃ k, laws_FnExactIsBetween.f k a b c d e f g h = some true := by
  refine Ev.rounds (g := fun k => laws_FnExactIsBetween.f k a b c d e f g h) ?_
  unfold laws_FnExactIsBetween.f
  simp only [laws_toSequence.f, Option.bind_some]
  obtain ⟨z, hz, z1⟩ := sz_some a b 1048576 (by omega) (by omega) ha hb
  rw [hz]
  simp only [Option.bind_some]
  by_cases hz0 : z < 0
  · simp only [if_pos hz0]; exact Ev.now _
  obtain ⟨y, hy, y1⟩ := sz_some c d z (by omega) (by omega) hc hd
  simp only [if_neg hz0, hy, Option.bind_some]
  by_cases hy0 : y < 0
  · simp only [if_pos hy0]; exact Ev.now _
  obtain ⟨x, hx, x1⟩ := sz_some e f y (by omega) (by omega) he hf
  simp only [if_neg hy0, hx, Option.bind_some]
  by_cases hx0 : x < 0
  · simp only [if_pos hx0]; exact Ev.now _
  obtain ⟨m, hm, m1⟩ := sz_some g h x (by omega) (by omega) hg hh
  simp only [if_neg hx0, hm, Option.bind_some]
  by_cases hm0 : m < 0
  · simp only [if_pos hm0]; exact Ev.now _
  simp only [if_neg hm0]
  obtain ⟨r, r1, r2⟩ := both_isBetween (a, b) (c, d) (e, f) (g, h) (by show a.size + b.size ≤ _; omega) (by show c.size + d.size ≤ _; omega) (by show e.size + f.size ≤ _; omega) (by show g.size + h.size ≤ _; omega)
  refine Ev.bind r1 (Ev.bind r2 ?_)
  simp
  exact Ev.now _
end Go.Proofs.Ytbiehbmojbmnoaa.Q
end
