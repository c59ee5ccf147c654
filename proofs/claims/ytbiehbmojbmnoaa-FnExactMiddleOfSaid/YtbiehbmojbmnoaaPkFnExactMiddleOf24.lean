/- Joined texts: Qx12, Qx13, Qx2, Qx14, Qx15, Qx16, Qx45, Qx46 -/
import Derived.Test.YtbiehbmojbmnoaaPkFnExactMiddleOf22
import Derived.Test.YtbiehbmojbmnoaaPkFnExactMiddleOf23
section
namespace Go.Proofs.Ytbiehbmojbmnoaa.Q
open Go.Proofs.YtbiehbmojbmnoaaW.Ext
open Go.RowKit Go.Proofs.YtbiehbmojbmnoaaW.PrintWords Go.Proofs.YtbiehbmojbmnoaaW.PrintLast Go.Proofs.YtbiehbmojbmnoaaW.PrintMore
attribute [local go_sem] max2_int min2_int max_two min_two max_three min_three max_four min_four   -- for this text's walks alone
set_option linter.unusedVariables false
set_option linter.unusedSimpArgs false
attribute [local go_sem high] eqA27
def spec_l06Same.j0:Nat → Bool → ByteArray → ByteArray → ByteArray → ByteArray → ByteArray → ByteArray → Option (ByteArray × ByteArray × Bool)
 | 0,_,_,_,_,_,_,_=>none
 | k + 1,x4,x127000,x127001,x127002,x127003,x127004,x127005=>if x4 = true then (some (x127000,x127001,true)) else (if (x127002.toList == x127004.toList && (x127003.toList == x127005.toList)) = true then (some (x127002,x127003,true)) else (some ((⟨#[]⟩:ByteArray),(⟨#[]⟩:ByteArray),false)))
def spec_l06Same.f (k:Nat) (a0_0:ByteArray) (a0_1:ByteArray) (a0_2:ByteArray) (a0_3:ByteArray) (a0_4:ByteArray) (a0_5:ByteArray):Option (ByteArray × ByteArray × Bool):=if (a0_0.toList == a0_2.toList && (a0_1.toList == a0_3.toList)) = true then (spec_l06Same.j0 k true a0_0 a0_1 a0_2 a0_3 a0_4 a0_5) else (spec_l06Same.j0 k (a0_0.toList == a0_4.toList && (a0_1.toList == a0_5.toList)) a0_0 a0_1 a0_2 a0_3 a0_4 a0_5)
theorem spec_l06Same.mono_l:∀ k,(∀ y0 y1 y2 y3 y4 y5 y6,LeO (spec_l06Same.j0 k y0 y1 y2 y3 y4 y5 y6) (spec_l06Same.j0 (k + 1) y0 y1 y2 y3 y4 y5 y6))
 | 0=>fun _ _ _ _ _ _ _ r h=>by simp [spec_l06Same.j0] at h
 | k + 1=>by
  have ih0:=spec_l06Same.mono_l k
  ·intro y0 y1 y2 y3 y4 y5 y6
   unfold spec_l06Same.j0
   repeat' first
   | (with_reducible exact ih0 _ _ _ _ _ _ _)
   | (with_reducible exact LeO.refl _)
   | (with_reducible exact LeO.none _)
   | (with_reducible refine LeO.ite ?_ ?_)
   | (with_reducible refine LeO.bind ?_ (fun _=>?_))
   | exact ih0 _ _ _ _ _ _ _
   | exact LeO.none _
   | refine LeO.ite ?_ ?_
   | refine LeO.bind ?_ (fun _=>?_)
theorem spec_l06Same.mono:∀ a0 a1 a2 a3 a4 a5 k,LeO (spec_l06Same.f k a0 a1 a2 a3 a4 a5) (spec_l06Same.f (k + 1) a0 a1 a2 a3 a4 a5):=by
 intro a0 a1 a2 a3 a4 a5 k
 have ih0:=spec_l06Same.mono_l k
 unfold spec_l06Same.f
 repeat' first
   | (with_reducible exact ih0 _ _ _ _ _ _ _)
   | (with_reducible exact LeO.refl _)
   | (with_reducible exact LeO.none _)
   | (with_reducible refine LeO.ite ?_ ?_)
   | (with_reducible refine LeO.bind ?_ (fun _=>?_))
   | exact ih0 _ _ _ _ _ _ _
   | exact LeO.none _
   | refine LeO.ite ?_ ?_
   | refine LeO.bind ?_ (fun _=>?_)
set_option maxHeartbeats 8000000 in
set_option maxRecDepth 100000 in
theorem spec_l06Same.calls (k:Nat) (a0_0:ByteArray) (a0_1:ByteArray) (a0_2:ByteArray) (a0_3:ByteArray) (a0_4:ByteArray) (a0_5:ByteArray) (r1:ByteArray) (r2:ByteArray) (r3:Bool) (w:World) (h:spec_l06Same.f k a0_0 a0_1 a0_2 a0_3 a0_4 a0_5 = some (r1,r2,r3)) :
  Calls Try.prog 17 #[.agg #[.string a0_0,.string a0_1,.string a0_2,.string a0_3,.string a0_4,.string a0_5]] w fun e w'=>e = .returned (.tuple #[.agg #[.string r1,.string r2],.bool r3]) ∧ Below w.heap.size w w':=by
 have hu36:=Try.underlying36
 have hu27:=Try.underlying27
 have HB:=aM (Below.refl w.heap.size w)
 have H:(if (a0_0.toList == a0_2.toList && (a0_1.toList == a0_3.toList)) = true then (spec_l06Same.j0 k true a0_0 a0_1 a0_2 a0_3 a0_4 a0_5) else (spec_l06Same.j0 k (a0_0.toList == a0_4.toList && (a0_1.toList == a0_5.toList)) a0_0 a0_1 a0_2 a0_3 a0_4 a0_5)) = some (r1,r2,r3):=h
 clear h
 have HC2:=aM H
 clear H
 go_enter Try.func17,Try.ntmps17
 go_upto_region 1 with (first|((with_reducible refine gate_dst (N:=1) rfl ?_);refine box_event ?hg (N:=1) ?hd (cs:=#[.string a0_0,.string a0_1,.string a0_2,.string a0_3,.string a0_4,.string a0_5]) (t:=36) ?hr ?_;(case hd=>rfl);(case hg=>rfl);(case hr=>first|(go_simp;done)|(go_simp;rfl));intro gb126 hg w3 hbox hb;have BK126:=aM (hbox);have GW126:=wl hg HB;have GE126:=wl hg HB;replace HB:=bs HB hb;clear hb hbox hg)|((with_reducible refine gate_dst (N:=2) rfl ?_);refine box_event ?hg (N:=2) ?hd (cs:=#[.string ⟨#[]⟩,.string ⟨#[]⟩]) (t:=27) ?hr ?_;(case hd=>rfl);(case hg=>rfl);(case hr=>first|(go_simp;done)|(go_simp;rfl));intro gb127 hg w4 hbox hb;have BK127:=aM (hbox);have GW127:=wl hg HB;have GE127:=wl hg HB;have NB126_127:=nl hg BK126;have NB127_126:=nr hg BK126;replace BK126:=kb BK126 hb;replace HB:=bs HB hb;clear hb hbox hg))
 (try simp only [Act.put,sI,sZ,sS])
 go_cut [4] (fun v4 wc=>∃ (kq:Nat) (x4_1:Bool),v4 = .bool x4_1 ∧ Aside0 (spec_l06Same.j0 kq x4_1 a0_0 a0_1 a0_2 a0_3 a0_4 a0_5 = some (r1,r2,r3)) ∧ Aside0 (kq ≤ k) ∧ Aside0 (wc.heap[gb126]? = some (.cells #[.string a0_0,.string a0_1,.string a0_2,.string a0_3,.string a0_4,.string a0_5] 36 (0,0))) ∧ Aside0 (wc.heap[gb127]? = some (.cells #[.string ⟨#[]⟩,.string ⟨#[]⟩] 27 (0,0))) ∧ Aside0 (Below w.heap.size w wc))
 case first =>
  have H:=HC2.out
  clear HC2
  by_cases c5:(a0_0.toList == a0_2.toList && (a0_1.toList == a0_3.toList)) = true
  ·rw [if_pos c5] at H
   have c5b0:(a0_0.toList == a0_2.toList && (a0_1.toList == a0_3.toList)) = true:=c5
   (try (have c5b1:decide (a0_0.toList = a0_2.toList && (a0_1.toList == a0_3.toList)) = true:=by simpa using c5))
   (try (have c5b2:(a0_0.toList == a0_2.toList && (a0_1.toList == a0_3.toList)) = true:=by simpa using c5))
   clear c5
   (first|rw [c5b0]|(simp only [i64_w,i32_w];rw [c5b0])|skip)
   have H':=aM H
   clear H
   have hnb6:=NB126_127.out
   have hnc6:=NB127_126.out
   have⟨a0,a1,a2,a3,a4,a5,b0,b1,b2,b3,b4,b5⟩:=q6f BK126
   go_wp2
   go_meet
   case rel=>exact ⟨_,(true),(by first|rfl|(simp;done)|(simp [*];done)),H',⟨by first|omega|exact Nat.le_refl _⟩,⟨bk BK126⟩,⟨bk BK127⟩,⟨bb HB⟩⟩
  ·rw [if_neg c5] at H
   have c5b0:(a0_0.toList == a0_2.toList && (a0_1.toList == a0_3.toList)) = false:=by simpa using c5
   (try (have c5b1:decide (a0_0.toList = a0_2.toList && (a0_1.toList == a0_3.toList)) = false:=by simpa using c5))
   (try (have c5b2:(a0_0.toList == a0_2.toList && (a0_1.toList == a0_3.toList)) = false:=by simpa using c5))
   (try (have c5b3:¬ (a0_0.toList = a0_2.toList && (a0_1.toList == a0_3.toList)):=by simpa using c5))
   clear c5
   (first|rw [c5b0]|(simp only [i64_w,i32_w];rw [c5b0])|skip)
   have H':=aM H
   clear H
   have hnb8:=NB126_127.out
   have hnc8:=NB127_126.out
   have⟨a0,a1,a2,a3,a4,a5,b0,b1,b2,b3,b4,b5⟩:=q6f BK126
   go_wp2
   go_meet
   case rel=>exact ⟨_,((a0_0.toList == a0_4.toList && (a0_1.toList == a0_5.toList))),(by first|rfl|(simp;done)|(simp [*];done)),H',⟨by first|omega|exact Nat.le_refl _⟩,⟨bk BK126⟩,⟨bk BK127⟩,⟨bb HB⟩⟩
 case rest =>
  clear HC2
  try clear c1
  try clear p2
  try clear c5
  try clear c5b0
  try clear c5b1
  try clear c5b2
  try clear c6
  try clear c8
  try clear hcz7_0
  try clear hcz7_1
  try clear hcz7_2
  try clear hcz7_3
  try clear hcz7_4
  try clear hcz7_5
  try clear hcz9_0
  try clear hcz9_1
  try clear hcz9_2
  try clear hcz9_3
  try clear hcz9_4
  try clear hcz9_5
  try clear hfz7_0
  try clear hfz7_1
  try clear hfz7_2
  try clear hfz7_3
  try clear hfz7_4
  try clear hfz7_5
  try clear hfz9_0
  try clear hfz9_1
  try clear hfz9_2
  try clear hfz9_3
  try clear hfz9_4
  try clear hfz9_5
  obtain ⟨kq,x4_1,rfl,HA,HJ1,BK126,BK127,HB⟩:=hcut
  cases kq with
  | zero=>exact absurd HA.out (by simp [spec_l06Same.j0])
  | succ kj1 =>
   have H:=HA.out
   clear HA
   simp only [spec_l06Same.j0] at H
   by_cases c10:x4_1 = true
   ·subst c10
    have H1:(some (a0_0,a0_1,true)) = some (r1,r2,r3):=by rw [if_pos rfl] at H;exact H
    clear H
    have H:=H1
    clear H1
    simp only [Option.some.injEq,Prod.mk.injEq] at H
    obtain ⟨rfl,rfl,rfl⟩:=H
    have hnb11:=NB126_127.out
    have hnc11:=NB127_126.out
    have⟨a0,a1,a2,a3,a4,a5,b0,b1,b2,b3,b4,b5⟩:=q6f BK126;have⟨a0,a1,b0,b1⟩:=q2f BK127
    go_wp2
    refine bodyPost_ret (results_ct rfl _ _ gb127 27 #[.string a0_0,.string a0_1] (0,0) _ rfl (by (with_reducible repeat (first|apply yN|apply yD|apply yA));refine blk_put (cs:=#[.string a0_0,.string ⟨#[]⟩]) ?_ 1 _ rfl;(with_reducible repeat (first|apply yN|apply yD|apply yA));refine blk_put (cs:=#[.string ⟨#[]⟩,.string ⟨#[]⟩]) ?_ 0 _ rfl;(with_reducible repeat (first|apply yN|apply yD|apply yA));exact BK127.out) Try.underlying27 rfl (by kernel_rfl)) rfl ?_
    exact ⟨by first|rfl|(simp [errW_none,errW_some] <;> rfl)|(simp [*,errW_none,errW_some] <;> rfl),by first|exact bb HB|exact bg HB GE126|exact bg HB GE127⟩
   ·replace c10:=Bool.eq_false_iff.mpr c10
    subst c10
    have H1:(if (a0_2.toList == a0_4.toList && (a0_3.toList == a0_5.toList)) = true then (some (a0_2,a0_3,true)) else (some ((⟨#[]⟩:ByteArray),(⟨#[]⟩:ByteArray),false))) = some (r1,r2,r3):=by rw [if_neg (show ¬ (false = true) by decide)] at H;exact H
    clear H
    have H:=H1
    clear H1
    by_cases c14:(a0_2.toList == a0_4.toList && (a0_3.toList == a0_5.toList)) = true
    ·rw [if_pos c14] at H
     have c14b0:(a0_2.toList == a0_4.toList && (a0_3.toList == a0_5.toList)) = true:=c14
     (try (have c14b1:decide (a0_2.toList = a0_4.toList && (a0_3.toList == a0_5.toList)) = true:=by simpa using c14))
     (try (have c14b2:(a0_2.toList == a0_4.toList && (a0_3.toList == a0_5.toList)) = true:=by simpa using c14))
     clear c14
     simp only [Option.some.injEq,Prod.mk.injEq] at H
     obtain ⟨rfl,rfl,rfl⟩:=H
     have hnb15:=NB126_127.out
     have hnc15:=NB127_126.out
     have⟨a0,a1,a2,a3,a4,a5,b0,b1,b2,b3,b4,b5⟩:=q6f BK126;have⟨a0,a1,b0,b1⟩:=q2f BK127
     go_wp2
     refine bodyPost_ret (results_ct rfl _ _ gb127 27 #[.string a0_2,.string a0_3] (0,0) _ rfl (by (with_reducible repeat (first|apply yN|apply yD|apply yA));refine blk_put (cs:=#[.string a0_2,.string ⟨#[]⟩]) ?_ 1 _ rfl;(with_reducible repeat (first|apply yN|apply yD|apply yA));refine blk_put (cs:=#[.string ⟨#[]⟩,.string ⟨#[]⟩]) ?_ 0 _ rfl;(with_reducible repeat (first|apply yN|apply yD|apply yA));exact BK127.out) Try.underlying27 rfl (by kernel_rfl)) rfl ?_
     exact ⟨by first|rfl|(simp [errW_none,errW_some] <;> rfl)|(simp [*,errW_none,errW_some] <;> rfl),by first|exact bb HB|exact bg HB GE126|exact bg HB GE127⟩
    ·rw [if_neg c14] at H
     have c14b0:(a0_2.toList == a0_4.toList && (a0_3.toList == a0_5.toList)) = false:=by simpa using c14
     (try (have c14b1:decide (a0_2.toList = a0_4.toList && (a0_3.toList == a0_5.toList)) = false:=by simpa using c14))
     (try (have c14b2:(a0_2.toList == a0_4.toList && (a0_3.toList == a0_5.toList)) = false:=by simpa using c14))
     (try (have c14b3:¬ (a0_2.toList = a0_4.toList && (a0_3.toList == a0_5.toList)):=by simpa using c14))
     clear c14
     simp only [Option.some.injEq,Prod.mk.injEq] at H
     obtain ⟨rfl,rfl,rfl⟩:=H
     have hnb18:=NB126_127.out
     have hnc18:=NB127_126.out
     have⟨a0,a1,a2,a3,a4,a5,b0,b1,b2,b3,b4,b5⟩:=q6f BK126;have⟨a0,a1,b0,b1⟩:=q2f BK127
     go_wp2
     refine bodyPost_ret (results_ct rfl _ _ gb127 27 #[.string ⟨#[]⟩,.string ⟨#[]⟩] (0,0) _ rfl (by (with_reducible repeat (first|apply yN|apply yD|apply yA));refine blk_put (cs:=#[.string ⟨#[]⟩,.string ⟨#[]⟩]) ?_ 1 _ rfl;(with_reducible repeat (first|apply yN|apply yD|apply yA));refine blk_put (cs:=#[.string ⟨#[]⟩,.string ⟨#[]⟩]) ?_ 0 _ rfl;(with_reducible repeat (first|apply yN|apply yD|apply yA));exact BK127.out) Try.underlying27 rfl (by kernel_rfl)) rfl ?_
     exact ⟨by first|rfl|(simp [errW_none,errW_some] <;> rfl)|(simp [*,errW_none,errW_some] <;> rfl),by first|exact bb HB|exact bg HB GE126|exact bg HB GE127⟩
end Go.Proofs.Ytbiehbmojbmnoaa.Q
end
section
namespace Go.Proofs.Ytbiehbmojbmnoaa.Q
open Go.Proofs.YtbiehbmojbmnoaaW.Ext
open Go.RowKit Go.Proofs.YtbiehbmojbmnoaaW.PrintWords Go.Proofs.YtbiehbmojbmnoaaW.PrintLast Go.Proofs.YtbiehbmojbmnoaaW.PrintMore
attribute [local go_sem] max2_int min2_int max_two min_two max_three min_three max_four min_four   -- for this text's walks alone
set_option linter.unusedVariables false
set_option linter.unusedSimpArgs false
def spec_l06Three.f (k:Nat) (a0_0:ByteArray) (a0_1:ByteArray) (a1_0:ByteArray) (a1_1:ByteArray) (a2_0:ByteArray) (a2_1:ByteArray) (a3_0:ByteArray) (a3_1:ByteArray):Option (Int):=(spec_l06Code.f k a0_0 a0_1 (([(⟨a1_0,a1_1⟩:S27),(⟨a2_0,a2_1⟩:S27),(⟨a3_0,a3_1⟩:S27)]:List (S27)))).bind fun t135=>((spec_l06Same.f k a1_0 a1_1 a2_0 a2_1 a3_0 a3_1).bind fun bt136=>(if t135 = 0 then (if bt136.2.2 = true then (some 5) else (some t135)) else (some t135)))
theorem spec_l06Three.mono:∀ a0 a1 a2 a3 a4 a5 a6 a7 k,LeO (spec_l06Three.f k a0 a1 a2 a3 a4 a5 a6 a7) (spec_l06Three.f (k + 1) a0 a1 a2 a3 a4 a5 a6 a7):=by
 intro a0 a1 a2 a3 a4 a5 a6 a7 k
 unfold spec_l06Three.f
 repeat' first
   | (with_reducible exact spec_l06Code.mono _ _ _ _)
   | (with_reducible exact spec_l06Same.mono _ _ _ _ _ _ _)
   | (with_reducible exact LeO.refl _)
   | (with_reducible exact LeO.none _)
   | (with_reducible refine LeO.ite ?_ ?_)
   | (with_reducible refine LeO.bind ?_ (fun _=>?_))
   | exact spec_l06Code.mono _ _ _ _
   | exact spec_l06Same.mono _ _ _ _ _ _ _
   | exact LeO.none _
   | refine LeO.ite ?_ ?_
   | refine LeO.bind ?_ (fun _=>?_)
set_option maxHeartbeats 8000000 in
set_option maxRecDepth 100000 in
theorem spec_l06Three.calls (k:Nat) (a0_0:ByteArray) (a0_1:ByteArray) (a1_0:ByteArray) (a1_1:ByteArray) (a2_0:ByteArray) (a2_1:ByteArray) (a3_0:ByteArray) (a3_1:ByteArray) (r:Int) (w:World) (h:spec_l06Three.f k a0_0 a0_1 a1_0 a1_1 a2_0 a2_1 a3_0 a3_1 = some r) :
  Calls Try.prog 12 #[.agg #[.string a0_0,.string a0_1],.agg #[.string a1_0,.string a1_1],.agg #[.string a2_0,.string a2_1],.agg #[.string a3_0,.string a3_1]] w fun e w'=>e = .returned (.int .i64 r) ∧ Below w.heap.size w w':=by
 have hu27:=Try.underlying27
 have hu36:=Try.underlying36
 have HB:=aM (Below.refl w.heap.size w)
 have H:((spec_l06Code.f k a0_0 a0_1 (([(⟨a1_0,a1_1⟩:S27),(⟨a2_0,a2_1⟩:S27),(⟨a3_0,a3_1⟩:S27)]:List (S27)))).bind fun t135=>((spec_l06Same.f k a1_0 a1_1 a2_0 a2_1 a3_0 a3_1).bind fun bt136=>(if t135 = 0 then (if bt136.2.2 = true then (some 5) else (some t135)) else (some t135)))) = some r:=h
 clear h
 obtain ⟨y132,hy132⟩:∃ y_:List (S27),y_ = (([(⟨a1_0,a1_1⟩:S27),(⟨a2_0,a2_1⟩:S27),(⟨a3_0,a3_1⟩:S27)]:List (S27))):=⟨_,rfl⟩
 replace H:((spec_l06Code.f k a0_0 a0_1 y132).bind fun t135=>((spec_l06Same.f k a1_0 a1_1 a2_0 a2_1 a3_0 a3_1).bind fun bt136=>(if t135 = 0 then (if bt136.2.2 = true then (some 5) else (some t135)) else (some t135)))) = some r:=by first|(rw [hy132];with_reducible exact H)|(have H2_:=(Option.bind_some _ _).symm.trans H;rw [hy132];with_reducible exact H2_)|(have H2_:=(Option.bind_some _ _).symm.trans H;with_reducible exact H2_)|with_reducible exact H|(rw [hy132];exact H)|exact H
 have Ny132:=aM hy132
 clear hy132
 replace H:=Option.bind_eq_some_iff.mp H
 obtain ⟨t135,A50,H⟩:=H
 replace H:((spec_l06Same.f k a1_0 a1_1 a2_0 a2_1 a3_0 a3_1).bind fun bt136=>(if t135 = 0 then (if bt136.2.2 = true then (some 5) else (some t135)) else (some t135))) = some r:=H;have A5:=aM A50
 clear A50
 replace H:=Option.bind_eq_some_iff.mp H
 obtain ⟨⟨t136,t137,t138⟩,A60,H⟩:=H
 replace H:(if t135 = 0 then (if t138 = true then (some 5) else (some t135)) else (some t135)) = some r:=H;have A6:=aM A60
 clear A60
 by_cases c7:t135 = 0
 ·rw [if_pos c7] at H
  have c7b0:(t135 == 0) = true:=beq_iff_eq.mpr c7
  have c7b1:(t135 != 0) = false:=bne_eq_false_iff_eq.mpr c7
  clear c7
  by_cases c8:t138 = true
  ·subst c8
   have H1:(some 5) = some r:=by rw [if_pos rfl] at H;exact H
   clear H
   have H:=H1
   clear H1
   obtain rfl:=Option.some.inj H
   go_enter Try.func12,Try.ntmps12
   go_wp2_with (first|((with_reducible refine gate_dst (N:=4) rfl ?_);refine box_event ?hg (N:=4) ?hd (cs:=#[.string a0_0,.string a0_1]) (t:=27) ?hr ?_;(case hd=>rfl);(case hg=>rfl);(case hr=>first|(go_simp;done)|(go_simp;rfl));intro gb128 hg w9 hbox hb;have BK128:=aM (hbox);have GW128:=wl hg HB;have GE128:=wl hg HB;replace HB:=bs HB hb;clear hb hbox hg)|((with_reducible refine gate_dst (N:=5) rfl ?_);refine box_event ?hg (N:=5) ?hd (cs:=#[.string a1_0,.string a1_1]) (t:=27) ?hr ?_;(case hd=>rfl);(case hg=>rfl);(case hr=>first|(go_simp;done)|(go_simp;rfl));intro gb129 hg w10 hbox hb;have BK129:=aM (hbox);have GW129:=wl hg HB;have GE129:=wl hg HB;have NB128_129:=nl hg BK128;have NB129_128:=nr hg BK128;replace BK128:=kb BK128 hb;replace HB:=bs HB hb;clear hb hbox hg)|((with_reducible refine gate_dst (N:=6) rfl ?_);refine box_event ?hg (N:=6) ?hd (cs:=#[.string a2_0,.string a2_1]) (t:=27) ?hr ?_;(case hd=>rfl);(case hg=>rfl);(case hr=>first|(go_simp;done)|(go_simp;rfl));intro gb130 hg w11 hbox hb;have BK130:=aM (hbox);have GW130:=wl hg HB;have GE130:=wl hg HB;have NB128_130:=nl hg BK128;have NB130_128:=nr hg BK128;have NB129_130:=nl hg BK129;have NB130_129:=nr hg BK129;replace BK128:=kb BK128 hb;replace BK129:=kb BK129 hb;replace HB:=bs HB hb;clear hb hbox hg)|((with_reducible refine gate_dst (N:=7) rfl ?_);refine box_event ?hg (N:=7) ?hd (cs:=#[.string a3_0,.string a3_1]) (t:=27) ?hr ?_;(case hd=>rfl);(case hg=>rfl);(case hr=>first|(go_simp;done)|(go_simp;rfl));intro gb131 hg w12 hbox hb;have BK131:=aM (hbox);have GW131:=wl hg HB;have GE131:=wl hg HB;have NB128_131:=nl hg BK128;have NB131_128:=nr hg BK128;have NB129_131:=nl hg BK129;have NB131_129:=nr hg BK129;have NB130_131:=nl hg BK130;have NB131_130:=nr hg BK130;replace BK128:=kb BK128 hb;replace BK129:=kb BK129 hb;replace BK130:=kb BK130 hb;replace HB:=bs HB hb;clear hb hbox hg;have hnb13:=NB128_129.out;have hnc13:=NB129_128.out;have hnb14:=NB128_130.out;have hnc14:=NB130_128.out;have hnb15:=NB128_131.out;have hnc15:=NB131_128.out;have⟨a0,a1,b0,b1⟩:=q2f BK128;have hnb17:=NB129_130.out;have hnc17:=NB130_129.out;have hnb18:=NB129_131.out;have hnc18:=NB131_129.out;have⟨a0,a1,b0,b1⟩:=q2f BK129;have hnb20:=NB130_131.out;have hnc20:=NB131_130.out;have⟨a0,a1,b0,b1⟩:=q2f BK130;have⟨a0,a1,b0,b1⟩:=q2f BK131)|((with_reducible refine gate_dst (N:=16) rfl ?_);refine Kd.R_lit k27 _ 27 ?hg (N:=16) ?hd (xs:=([(⟨a1_0,a1_1⟩:S27),(⟨a2_0,a2_1⟩:S27),(⟨a3_0,a3_1⟩:S27)]:List (S27))) (inner:=[.string a1_0,.string a1_1,.string a2_0,.string a2_1,.string a3_0,.string a3_1]) (ok:=fun _=>True) (okp:=fun _=>True) ?hr ?hp (fun _ hk=>hk) trivial (Below.refl _ _) (Nat.le_refl _) (by simp) ?_;(case hd=>rfl);(case hg=>rfl);(case hr=>first|(go_simp;done)|(go_simp;rfl));(case hp=>exact (Reps.c2 (show Kd.M k27 _ _ _ (⟨a1_0,a1_1⟩:S27) [.string a1_0,.string a1_1] from (k27_mkM _ _ _ (⟨a1_0,a1_1⟩:S27) )) (Reps.c2 (show Kd.M k27 _ _ _ (⟨a2_0,a2_1⟩:S27) [.string a2_0,.string a2_1] from (k27_mkM _ _ _ (⟨a2_0,a2_1⟩:S27) )) (Reps.c2 (show Kd.M k27 _ _ _ (⟨a3_0,a3_1⟩:S27) [.string a3_0,.string a3_1] from (k27_mkM _ _ _ (⟨a3_0,a3_1⟩:S27) )) (Reps.none _ _)))));intro v133 w23 ho24 hb hg_ hnew_;clear hg_ hnew_;(first|rw [← Ny132.out] at ho24|(simp only [Int.reduceToNat] at ho24;rw [← Ny132.out] at ho24));have HO134:=aM (Kd.R_lower (Kd.R_newB (Kd.R_newB (Kd.R_newB (Kd.R_newB ho24 (g:=gb128) (o:=.cells #[.string a0_0,.string a0_1] 27 (0,0)) (bk BK128)) (g:=gb129) (o:=.cells #[.string a1_0,.string a1_1] 27 (0,0)) (bk BK129)) (g:=gb130) (o:=.cells #[.string a2_0,.string a2_1] 27 (0,0)) (bk BK130)) (g:=gb131) (o:=.cells #[.string a3_0,.string a3_1] 27 (0,0)) (bk BK131)) (below_size (bb HB)));replace BK128:=kb BK128 hb;replace BK129:=kb BK129 hb;replace BK130:=kb BK130 hb;replace BK131:=kb BK131 hb;replace HB:=bs HB hb;clear hb ho24;obtain ⟨Ao25,co25,eo25⟩:=Kd.R_slice HO134.out;subst eo25)|((with_reducible refine gate_callee (f:=16) rfl ?_);refine goesL_ (some 17) rfl rfl Try.func16 (by kernel_rfl) rfl #[.agg #[.string a0_0,.string a0_1],.slice Ao25 y132.length co25] rfl (by (try simp only [sM,sC,sN]);first|done|rfl|(simp only [List.length_drop,List.length_take];rfl)) ?_;(with_reducible refine (spec_l06Code.calls k a0_0 a0_1 _ _ y132 t135 _ ?side1 ?side2 A5.out).mono ?_);(case side1=>repeat (first|exact (Kd.R_reads' HO134.out).2.2|(with_reducible refine cA ?_ _)|(with_reducible refine cN ?_ _)|(with_reducible refine cD ?_)));(case side2=>exact (Kd.R_reads' HO134.out).2.1);rintro e w26 ⟨rfl,hb⟩;refine ⟨_,rfl,?_⟩;replace HO134:=ko HO134 hb;replace BK128:=kb BK128 hb;replace BK129:=kb BK129 hb;replace BK130:=kb BK130 hb;replace BK131:=kb BK131 hb;replace HB:=bs HB hb;(try clear hb);have⟨a0,a1,b0,b1⟩:=q2f BK129;have⟨a0,a1,b0,b1⟩:=q2f BK130;have⟨a0,a1,b0,b1⟩:=q2f BK131)|((with_reducible refine gate_callee (f:=17) rfl ?_);refine goesL_ (some 23) rfl rfl Try.func17 (by kernel_rfl) rfl #[.agg #[.string a1_0,.string a1_1,.string a2_0,.string a2_1,.string a3_0,.string a3_1]] rfl (by (try simp only [sM,sC,sN]);first|done|rfl|(simp only [List.length_drop,List.length_take];rfl)) ?_;(with_reducible refine (spec_l06Same.calls k a1_0 a1_1 a2_0 a2_1 a3_0 a3_1 t136 t137 true _ A6.out).mono ?_);rintro e w30 ⟨rfl,hb⟩;refine ⟨_,rfl,?_⟩;replace HO134:=ko HO134 hb;replace BK128:=kb BK128 hb;replace BK129:=kb BK129 hb;replace BK130:=kb BK130 hb;replace BK131:=kb BK131 hb;replace HB:=bs HB hb;(try clear hb))|((with_reducible refine gate_dst (N:=10) rfl ?_);refine box_event ?hg (N:=10) ?hd (cs:=#[.string ⟨#[]⟩,.string ⟨#[]⟩]) (t:=27) ?hr ?_;(case hd=>rfl);(case hg=>rfl);(case hr=>first|(go_simp;done)|(go_simp;rfl));intro gb139 hg w31 hbox hb;have BK139:=aM (hbox);have GW139:=wl hg HB;have GE139:=wl hg HB;have NB128_139:=nl hg BK128;have NB139_128:=nr hg BK128;have NB129_139:=nl hg BK129;have NB139_129:=nr hg BK129;have NB130_139:=nl hg BK130;have NB139_130:=nr hg BK130;have NB131_139:=nl hg BK131;have NB139_131:=nr hg BK131;replace HO134:=aM (Kd.R_below (Kd.R_elderB (rk HO134) gb139 (Nat.le_of_eq hg.symm)) hb);replace BK128:=kb BK128 hb;replace BK129:=kb BK129 hb;replace BK130:=kb BK130 hb;replace BK131:=kb BK131 hb;replace HB:=bs HB hb;clear hb hbox hg;have hnb32:=NB139_128.out;have hnc32:=NB128_139.out;have hnb33:=NB139_129.out;have hnc33:=NB129_139.out;have hnb34:=NB139_130.out;have hnc34:=NB130_139.out;have hnb35:=NB139_131.out;have hnc35:=NB131_139.out;have⟨a0,a1,b0,b1⟩:=q2f BK139))
   go_ret
   exact ⟨by first|rfl|(simp [errW_none,errW_some] <;> rfl)|(simp [*,errW_none,errW_some] <;> rfl),by first|exact bb HB|exact bg HB GE128|exact bg HB GE129|exact bg HB GE130|exact bg HB GE131|exact bg HB GE139⟩
  ·replace c8:=Bool.eq_false_iff.mpr c8
   subst c8
   have H1:(some t135) = some r:=by rw [if_neg (show ¬ (false = true) by decide)] at H;exact H
   clear H
   have H:=H1
   clear H1
   obtain rfl:=Option.some.inj H
   go_enter Try.func12,Try.ntmps12
   go_wp2_with (first|((with_reducible refine gate_dst (N:=4) rfl ?_);refine box_event ?hg (N:=4) ?hd (cs:=#[.string a0_0,.string a0_1]) (t:=27) ?hr ?_;(case hd=>rfl);(case hg=>rfl);(case hr=>first|(go_simp;done)|(go_simp;rfl));intro gb128 hg w37 hbox hb;have BK128:=aM (hbox);have GW128:=wl hg HB;have GE128:=wl hg HB;replace HB:=bs HB hb;clear hb hbox hg)|((with_reducible refine gate_dst (N:=5) rfl ?_);refine box_event ?hg (N:=5) ?hd (cs:=#[.string a1_0,.string a1_1]) (t:=27) ?hr ?_;(case hd=>rfl);(case hg=>rfl);(case hr=>first|(go_simp;done)|(go_simp;rfl));intro gb129 hg w38 hbox hb;have BK129:=aM (hbox);have GW129:=wl hg HB;have GE129:=wl hg HB;have NB128_129:=nl hg BK128;have NB129_128:=nr hg BK128;replace BK128:=kb BK128 hb;replace HB:=bs HB hb;clear hb hbox hg)|((with_reducible refine gate_dst (N:=6) rfl ?_);refine box_event ?hg (N:=6) ?hd (cs:=#[.string a2_0,.string a2_1]) (t:=27) ?hr ?_;(case hd=>rfl);(case hg=>rfl);(case hr=>first|(go_simp;done)|(go_simp;rfl));intro gb130 hg w39 hbox hb;have BK130:=aM (hbox);have GW130:=wl hg HB;have GE130:=wl hg HB;have NB128_130:=nl hg BK128;have NB130_128:=nr hg BK128;have NB129_130:=nl hg BK129;have NB130_129:=nr hg BK129;replace BK128:=kb BK128 hb;replace BK129:=kb BK129 hb;replace HB:=bs HB hb;clear hb hbox hg)|((with_reducible refine gate_dst (N:=7) rfl ?_);refine box_event ?hg (N:=7) ?hd (cs:=#[.string a3_0,.string a3_1]) (t:=27) ?hr ?_;(case hd=>rfl);(case hg=>rfl);(case hr=>first|(go_simp;done)|(go_simp;rfl));intro gb131 hg w40 hbox hb;have BK131:=aM (hbox);have GW131:=wl hg HB;have GE131:=wl hg HB;have NB128_131:=nl hg BK128;have NB131_128:=nr hg BK128;have NB129_131:=nl hg BK129;have NB131_129:=nr hg BK129;have NB130_131:=nl hg BK130;have NB131_130:=nr hg BK130;replace BK128:=kb BK128 hb;replace BK129:=kb BK129 hb;replace BK130:=kb BK130 hb;replace HB:=bs HB hb;clear hb hbox hg;have hnb41:=NB128_129.out;have hnc41:=NB129_128.out;have hnb42:=NB128_130.out;have hnc42:=NB130_128.out;have hnb43:=NB128_131.out;have hnc43:=NB131_128.out;have⟨a0,a1,b0,b1⟩:=q2f BK128;have hnb45:=NB129_130.out;have hnc45:=NB130_129.out;have hnb46:=NB129_131.out;have hnc46:=NB131_129.out;have⟨a0,a1,b0,b1⟩:=q2f BK129;have hnb48:=NB130_131.out;have hnc48:=NB131_130.out;have⟨a0,a1,b0,b1⟩:=q2f BK130;have⟨a0,a1,b0,b1⟩:=q2f BK131)|((with_reducible refine gate_dst (N:=16) rfl ?_);refine Kd.R_lit k27 _ 27 ?hg (N:=16) ?hd (xs:=([(⟨a1_0,a1_1⟩:S27),(⟨a2_0,a2_1⟩:S27),(⟨a3_0,a3_1⟩:S27)]:List (S27))) (inner:=[.string a1_0,.string a1_1,.string a2_0,.string a2_1,.string a3_0,.string a3_1]) (ok:=fun _=>True) (okp:=fun _=>True) ?hr ?hp (fun _ hk=>hk) trivial (Below.refl _ _) (Nat.le_refl _) (by simp) ?_;(case hd=>rfl);(case hg=>rfl);(case hr=>first|(go_simp;done)|(go_simp;rfl));(case hp=>exact (Reps.c2 (show Kd.M k27 _ _ _ (⟨a1_0,a1_1⟩:S27) [.string a1_0,.string a1_1] from (k27_mkM _ _ _ (⟨a1_0,a1_1⟩:S27) )) (Reps.c2 (show Kd.M k27 _ _ _ (⟨a2_0,a2_1⟩:S27) [.string a2_0,.string a2_1] from (k27_mkM _ _ _ (⟨a2_0,a2_1⟩:S27) )) (Reps.c2 (show Kd.M k27 _ _ _ (⟨a3_0,a3_1⟩:S27) [.string a3_0,.string a3_1] from (k27_mkM _ _ _ (⟨a3_0,a3_1⟩:S27) )) (Reps.none _ _)))));intro v133 w51 ho52 hb hg_ hnew_;clear hg_ hnew_;(first|rw [← Ny132.out] at ho52|(simp only [Int.reduceToNat] at ho52;rw [← Ny132.out] at ho52));have HO134:=aM (Kd.R_lower (Kd.R_newB (Kd.R_newB (Kd.R_newB (Kd.R_newB ho52 (g:=gb128) (o:=.cells #[.string a0_0,.string a0_1] 27 (0,0)) (bk BK128)) (g:=gb129) (o:=.cells #[.string a1_0,.string a1_1] 27 (0,0)) (bk BK129)) (g:=gb130) (o:=.cells #[.string a2_0,.string a2_1] 27 (0,0)) (bk BK130)) (g:=gb131) (o:=.cells #[.string a3_0,.string a3_1] 27 (0,0)) (bk BK131)) (below_size (bb HB)));replace BK128:=kb BK128 hb;replace BK129:=kb BK129 hb;replace BK130:=kb BK130 hb;replace BK131:=kb BK131 hb;replace HB:=bs HB hb;clear hb ho52;obtain ⟨Ao53,co53,eo53⟩:=Kd.R_slice HO134.out;subst eo53)|((with_reducible refine gate_callee (f:=16) rfl ?_);refine goesL_ (some 17) rfl rfl Try.func16 (by kernel_rfl) rfl #[.agg #[.string a0_0,.string a0_1],.slice Ao53 y132.length co53] rfl (by (try simp only [sM,sC,sN]);first|done|rfl|(simp only [List.length_drop,List.length_take];rfl)) ?_;(with_reducible refine (spec_l06Code.calls k a0_0 a0_1 _ _ y132 t135 _ ?side1 ?side2 A5.out).mono ?_);(case side1=>repeat (first|exact (Kd.R_reads' HO134.out).2.2|(with_reducible refine cA ?_ _)|(with_reducible refine cN ?_ _)|(with_reducible refine cD ?_)));(case side2=>exact (Kd.R_reads' HO134.out).2.1);rintro e w54 ⟨rfl,hb⟩;refine ⟨_,rfl,?_⟩;replace HO134:=ko HO134 hb;replace BK128:=kb BK128 hb;replace BK129:=kb BK129 hb;replace BK130:=kb BK130 hb;replace BK131:=kb BK131 hb;replace HB:=bs HB hb;(try clear hb);have⟨a0,a1,b0,b1⟩:=q2f BK129;have⟨a0,a1,b0,b1⟩:=q2f BK130;have⟨a0,a1,b0,b1⟩:=q2f BK131)|((with_reducible refine gate_callee (f:=17) rfl ?_);refine goesL_ (some 23) rfl rfl Try.func17 (by kernel_rfl) rfl #[.agg #[.string a1_0,.string a1_1,.string a2_0,.string a2_1,.string a3_0,.string a3_1]] rfl (by (try simp only [sM,sC,sN]);first|done|rfl|(simp only [List.length_drop,List.length_take];rfl)) ?_;(with_reducible refine (spec_l06Same.calls k a1_0 a1_1 a2_0 a2_1 a3_0 a3_1 t136 t137 false _ A6.out).mono ?_);rintro e w58 ⟨rfl,hb⟩;refine ⟨_,rfl,?_⟩;replace HO134:=ko HO134 hb;replace BK128:=kb BK128 hb;replace BK129:=kb BK129 hb;replace BK130:=kb BK130 hb;replace BK131:=kb BK131 hb;replace HB:=bs HB hb;(try clear hb))|((with_reducible refine gate_dst (N:=10) rfl ?_);refine box_event ?hg (N:=10) ?hd (cs:=#[.string ⟨#[]⟩,.string ⟨#[]⟩]) (t:=27) ?hr ?_;(case hd=>rfl);(case hg=>rfl);(case hr=>first|(go_simp;done)|(go_simp;rfl));intro gb139 hg w59 hbox hb;have BK139:=aM (hbox);have GW139:=wl hg HB;have GE139:=wl hg HB;have NB128_139:=nl hg BK128;have NB139_128:=nr hg BK128;have NB129_139:=nl hg BK129;have NB139_129:=nr hg BK129;have NB130_139:=nl hg BK130;have NB139_130:=nr hg BK130;have NB131_139:=nl hg BK131;have NB139_131:=nr hg BK131;replace HO134:=aM (Kd.R_below (Kd.R_elderB (rk HO134) gb139 (Nat.le_of_eq hg.symm)) hb);replace BK128:=kb BK128 hb;replace BK129:=kb BK129 hb;replace BK130:=kb BK130 hb;replace BK131:=kb BK131 hb;replace HB:=bs HB hb;clear hb hbox hg;have hnb60:=NB139_128.out;have hnc60:=NB128_139.out;have hnb61:=NB139_129.out;have hnc61:=NB129_139.out;have hnb62:=NB139_130.out;have hnc62:=NB130_139.out;have hnb63:=NB139_131.out;have hnc63:=NB131_139.out;have⟨a0,a1,b0,b1⟩:=q2f BK139))
   go_ret
   exact ⟨by first|rfl|(simp [errW_none,errW_some] <;> rfl)|(simp [*,errW_none,errW_some] <;> rfl),by first|exact bb HB|exact bg HB GE128|exact bg HB GE129|exact bg HB GE130|exact bg HB GE131|exact bg HB GE139⟩
 ·rw [if_neg c7] at H
  have c7b0:(t135 == 0) = false:=beq_eq_false_iff_ne.mpr c7
  have c7b1:(t135 != 0) = true:=bne_iff_ne.mpr c7
  obtain rfl:=Option.some.inj H
  go_enter Try.func12,Try.ntmps12
  go_wp2_with (first|((with_reducible refine gate_dst (N:=4) rfl ?_);refine box_event ?hg (N:=4) ?hd (cs:=#[.string a0_0,.string a0_1]) (t:=27) ?hr ?_;(case hd=>rfl);(case hg=>rfl);(case hr=>first|(go_simp;done)|(go_simp;rfl));intro gb128 hg w65 hbox hb;have BK128:=aM (hbox);have GW128:=wl hg HB;have GE128:=wl hg HB;replace HB:=bs HB hb;clear hb hbox hg)|((with_reducible refine gate_dst (N:=5) rfl ?_);refine box_event ?hg (N:=5) ?hd (cs:=#[.string a1_0,.string a1_1]) (t:=27) ?hr ?_;(case hd=>rfl);(case hg=>rfl);(case hr=>first|(go_simp;done)|(go_simp;rfl));intro gb129 hg w66 hbox hb;have BK129:=aM (hbox);have GW129:=wl hg HB;have GE129:=wl hg HB;have NB128_129:=nl hg BK128;have NB129_128:=nr hg BK128;replace BK128:=kb BK128 hb;replace HB:=bs HB hb;clear hb hbox hg)|((with_reducible refine gate_dst (N:=6) rfl ?_);refine box_event ?hg (N:=6) ?hd (cs:=#[.string a2_0,.string a2_1]) (t:=27) ?hr ?_;(case hd=>rfl);(case hg=>rfl);(case hr=>first|(go_simp;done)|(go_simp;rfl));intro gb130 hg w67 hbox hb;have BK130:=aM (hbox);have GW130:=wl hg HB;have GE130:=wl hg HB;have NB128_130:=nl hg BK128;have NB130_128:=nr hg BK128;have NB129_130:=nl hg BK129;have NB130_129:=nr hg BK129;replace BK128:=kb BK128 hb;replace BK129:=kb BK129 hb;replace HB:=bs HB hb;clear hb hbox hg)|((with_reducible refine gate_dst (N:=7) rfl ?_);refine box_event ?hg (N:=7) ?hd (cs:=#[.string a3_0,.string a3_1]) (t:=27) ?hr ?_;(case hd=>rfl);(case hg=>rfl);(case hr=>first|(go_simp;done)|(go_simp;rfl));intro gb131 hg w68 hbox hb;have BK131:=aM (hbox);have GW131:=wl hg HB;have GE131:=wl hg HB;have NB128_131:=nl hg BK128;have NB131_128:=nr hg BK128;have NB129_131:=nl hg BK129;have NB131_129:=nr hg BK129;have NB130_131:=nl hg BK130;have NB131_130:=nr hg BK130;replace BK128:=kb BK128 hb;replace BK129:=kb BK129 hb;replace BK130:=kb BK130 hb;replace HB:=bs HB hb;clear hb hbox hg;have hnb69:=NB128_129.out;have hnc69:=NB129_128.out;have hnb70:=NB128_130.out;have hnc70:=NB130_128.out;have hnb71:=NB128_131.out;have hnc71:=NB131_128.out;have⟨a0,a1,b0,b1⟩:=q2f BK128;have hnb73:=NB129_130.out;have hnc73:=NB130_129.out;have hnb74:=NB129_131.out;have hnc74:=NB131_129.out;have⟨a0,a1,b0,b1⟩:=q2f BK129;have hnb76:=NB130_131.out;have hnc76:=NB131_130.out;have⟨a0,a1,b0,b1⟩:=q2f BK130;have⟨a0,a1,b0,b1⟩:=q2f BK131)|((with_reducible refine gate_dst (N:=16) rfl ?_);refine Kd.R_lit k27 _ 27 ?hg (N:=16) ?hd (xs:=([(⟨a1_0,a1_1⟩:S27),(⟨a2_0,a2_1⟩:S27),(⟨a3_0,a3_1⟩:S27)]:List (S27))) (inner:=[.string a1_0,.string a1_1,.string a2_0,.string a2_1,.string a3_0,.string a3_1]) (ok:=fun _=>True) (okp:=fun _=>True) ?hr ?hp (fun _ hk=>hk) trivial (Below.refl _ _) (Nat.le_refl _) (by simp) ?_;(case hd=>rfl);(case hg=>rfl);(case hr=>first|(go_simp;done)|(go_simp;rfl));(case hp=>exact (Reps.c2 (show Kd.M k27 _ _ _ (⟨a1_0,a1_1⟩:S27) [.string a1_0,.string a1_1] from (k27_mkM _ _ _ (⟨a1_0,a1_1⟩:S27) )) (Reps.c2 (show Kd.M k27 _ _ _ (⟨a2_0,a2_1⟩:S27) [.string a2_0,.string a2_1] from (k27_mkM _ _ _ (⟨a2_0,a2_1⟩:S27) )) (Reps.c2 (show Kd.M k27 _ _ _ (⟨a3_0,a3_1⟩:S27) [.string a3_0,.string a3_1] from (k27_mkM _ _ _ (⟨a3_0,a3_1⟩:S27) )) (Reps.none _ _)))));intro v133 w79 ho80 hb hg_ hnew_;clear hg_ hnew_;(first|rw [← Ny132.out] at ho80|(simp only [Int.reduceToNat] at ho80;rw [← Ny132.out] at ho80));have HO134:=aM (Kd.R_lower (Kd.R_newB (Kd.R_newB (Kd.R_newB (Kd.R_newB ho80 (g:=gb128) (o:=.cells #[.string a0_0,.string a0_1] 27 (0,0)) (bk BK128)) (g:=gb129) (o:=.cells #[.string a1_0,.string a1_1] 27 (0,0)) (bk BK129)) (g:=gb130) (o:=.cells #[.string a2_0,.string a2_1] 27 (0,0)) (bk BK130)) (g:=gb131) (o:=.cells #[.string a3_0,.string a3_1] 27 (0,0)) (bk BK131)) (below_size (bb HB)));replace BK128:=kb BK128 hb;replace BK129:=kb BK129 hb;replace BK130:=kb BK130 hb;replace BK131:=kb BK131 hb;replace HB:=bs HB hb;clear hb ho80;obtain ⟨Ao81,co81,eo81⟩:=Kd.R_slice HO134.out;subst eo81)|((with_reducible refine gate_callee (f:=16) rfl ?_);refine goesL_ (some 17) rfl rfl Try.func16 (by kernel_rfl) rfl #[.agg #[.string a0_0,.string a0_1],.slice Ao81 y132.length co81] rfl (by (try simp only [sM,sC,sN]);first|done|rfl|(simp only [List.length_drop,List.length_take];rfl)) ?_;(with_reducible refine (spec_l06Code.calls k a0_0 a0_1 _ _ y132 t135 _ ?side1 ?side2 A5.out).mono ?_);(case side1=>repeat (first|exact (Kd.R_reads' HO134.out).2.2|(with_reducible refine cA ?_ _)|(with_reducible refine cN ?_ _)|(with_reducible refine cD ?_)));(case side2=>exact (Kd.R_reads' HO134.out).2.1);rintro e w82 ⟨rfl,hb⟩;refine ⟨_,rfl,?_⟩;replace HO134:=ko HO134 hb;replace BK128:=kb BK128 hb;replace BK129:=kb BK129 hb;replace BK130:=kb BK130 hb;replace BK131:=kb BK131 hb;replace HB:=bs HB hb;(try clear hb);have⟨a0,a1,b0,b1⟩:=q2f BK129;have⟨a0,a1,b0,b1⟩:=q2f BK130;have⟨a0,a1,b0,b1⟩:=q2f BK131)|((with_reducible refine gate_callee (f:=17) rfl ?_);refine goesL_ (some 23) rfl rfl Try.func17 (by kernel_rfl) rfl #[.agg #[.string a1_0,.string a1_1,.string a2_0,.string a2_1,.string a3_0,.string a3_1]] rfl (by (try simp only [sM,sC,sN]);first|done|rfl|(simp only [List.length_drop,List.length_take];rfl)) ?_;(with_reducible refine (spec_l06Same.calls k a1_0 a1_1 a2_0 a2_1 a3_0 a3_1 t136 t137 t138 _ A6.out).mono ?_);rintro e w86 ⟨rfl,hb⟩;refine ⟨_,rfl,?_⟩;replace HO134:=ko HO134 hb;replace BK128:=kb BK128 hb;replace BK129:=kb BK129 hb;replace BK130:=kb BK130 hb;replace BK131:=kb BK131 hb;replace HB:=bs HB hb;(try clear hb))|((with_reducible refine gate_dst (N:=10) rfl ?_);refine box_event ?hg (N:=10) ?hd (cs:=#[.string ⟨#[]⟩,.string ⟨#[]⟩]) (t:=27) ?hr ?_;(case hd=>rfl);(case hg=>rfl);(case hr=>first|(go_simp;done)|(go_simp;rfl));intro gb139 hg w87 hbox hb;have BK139:=aM (hbox);have GW139:=wl hg HB;have GE139:=wl hg HB;have NB128_139:=nl hg BK128;have NB139_128:=nr hg BK128;have NB129_139:=nl hg BK129;have NB139_129:=nr hg BK129;have NB130_139:=nl hg BK130;have NB139_130:=nr hg BK130;have NB131_139:=nl hg BK131;have NB139_131:=nr hg BK131;replace HO134:=aM (Kd.R_below (Kd.R_elderB (rk HO134) gb139 (Nat.le_of_eq hg.symm)) hb);replace BK128:=kb BK128 hb;replace BK129:=kb BK129 hb;replace BK130:=kb BK130 hb;replace BK131:=kb BK131 hb;replace HB:=bs HB hb;clear hb hbox hg;have hnb88:=NB139_128.out;have hnc88:=NB128_139.out;have hnb89:=NB139_129.out;have hnc89:=NB129_139.out;have hnb90:=NB139_130.out;have hnc90:=NB130_139.out;have hnb91:=NB139_131.out;have hnc91:=NB131_139.out;have⟨a0,a1,b0,b1⟩:=q2f BK139))
  go_ret
  exact ⟨by first|rfl|(simp [errW_none,errW_some] <;> rfl)|(simp [*,errW_none,errW_some] <;> rfl),by first|exact bb HB|exact bg HB GE128|exact bg HB GE129|exact bg HB GE130|exact bg HB GE131|exact bg HB GE139⟩
theorem eqA36 (d:Nat) (w:World) (x0 y0 x1 y1 x2 y2 x3 y3 x4 y4 x5 y5:ByteArray) :
  (Op.equalIn (d + 3) 36 (.agg #[.string x0,.string x1,.string x2,.string x3,.string x4,.string x5]) (.agg #[.string y0,.string y1,.string y2,.string y3,.string y4,.string y5])).run Try.prog w
   = .ok ((x0.toList == y0.toList && (x1.toList == y1.toList)) && ((x2.toList == y2.toList && (x3.toList == y3.toList)) && (x4.toList == y4.toList && (x5.toList == y5.toList)))) w:=by
 have hu:=Try.underlying36
 have e0:=eqA27 d w x0 y0 x1 y1
 have e1:=eqA27 d w x2 y2 x3 y3
 have e2:=eqA27 d w x4 y4 x5 y5
 have hs:(sizeOf 27).run Try.prog w = .ok 2 w:=by kernel_rfl
 have p0:∀ a0 a1 a2 a3 a4 a5:Value,(part 27 #[a0,a1,a2,a3,a4,a5] 0).run Try.prog w = .ok (.agg #[a0,a1]) w:=fun _ _ _ _ _ _=>by kernel_rfl
 have p1:∀ a0 a1 a2 a3 a4 a5:Value,(part 27 #[a0,a1,a2,a3,a4,a5] 2).run Try.prog w = .ok (.agg #[a2,a3]) w:=fun _ _ _ _ _ _=>by kernel_rfl
 have p2:∀ a0 a1 a2 a3 a4 a5:Value,(part 27 #[a0,a1,a2,a3,a4,a5] 4).run Try.prog w = .ok (.agg #[a4,a5]) w:=fun _ _ _ _ _ _=>by kernel_rfl
 have hr:List.range' 0 3 = [0,1,2]:=rfl
 generalize (x0.toList == y0.toList && (x1.toList == y1.toList)) = b0 at e0 ⊢
 generalize (x2.toList == y2.toList && (x3.toList == y3.toList)) = b1 at e1 ⊢
 generalize (x4.toList == y4.toList && (x5.toList == y5.toList)) = b2 at e2 ⊢
 unfold Op.equalIn
 cases b0 <;> cases b1 <;> cases b2 <;> simp [hu,hs,run_underlying,Result.andThen,Std.Legacy.Range.forIn_eq_forIn_range',Std.Legacy.Range.size,hr,p0,p1,p2,e0,e1,e2]
def spec_l06Told.f (k:Nat) (a0:ByteArray) (a1:ByteArray):Option (ByteArray × ByteArray × Bool):=(spec_l01Canonical.f k a0 a1).bind fun bt141=>(some (bt141.1,bt141.2,decide ((wrap64 ((bt141.1.size:Int) + (bt141.2.size:Int))) ≤ 64)))
theorem spec_l06Told.mono:∀ a0 a1 k,LeO (spec_l06Told.f k a0 a1) (spec_l06Told.f (k + 1) a0 a1):=by
 intro a0 a1 k
 unfold spec_l06Told.f
 repeat' first
   | (with_reducible exact spec_l01Canonical.mono _ _ _)
   | (with_reducible exact LeO.refl _)
   | (with_reducible exact LeO.none _)
   | (with_reducible refine LeO.ite ?_ ?_)
   | (with_reducible refine LeO.bind ?_ (fun _=>?_))
   | exact spec_l01Canonical.mono _ _ _
   | exact LeO.none _
   | refine LeO.ite ?_ ?_
   | refine LeO.bind ?_ (fun _=>?_)
def spec_l06Told.T2:Bool × List (List Nat × List Nat):=(true,[([],[]),([],[]),([1],[1]),([2],[2]),([],[]),([4],[4]),([5],[5]),([3,6],[3,6]),([7],[7]),([0,0],[0]),([8,9,0,1,2,3,4,5,6,7,8,9],[8])])
def spec_l06Told.B2:List Nat:=[0,0,2,6,0,16,48,126,254,1,1023]
theorem spec_l06Told.tab2:rtab .any (opsOf Try.f18 2) = spec_l06Told.T2:=by kernel_rfl
theorem spec_l06Told.bits2:waitsOk spec_l06Told.T2.2 spec_l06Told.B2 = true:=by kernel_rfl
set_option maxHeartbeats 8000000 in
set_option maxRecDepth 100000 in
theorem spec_l06Told.calls (k:Nat) (a0:ByteArray) (a1:ByteArray) (r1:ByteArray) (r2:ByteArray) (r3:Bool) (w:World) (h:spec_l06Told.f k a0 a1 = some (r1,r2,r3)) :
  Calls Try.prog 18 #[.string a0,.string a1] w fun e w'=>e = .returned (.tuple #[.agg #[.string r1,.string r2],.bool r3]) ∧ Below w.heap.size w w':=by
 have hu27:=Try.underlying27
 have HB:=aM (Below.refl w.heap.size w)
 have H:((spec_l01Canonical.f k a0 a1).bind fun bt141=>(some (bt141.1,bt141.2,decide ((wrap64 ((bt141.1.size:Int) + (bt141.2.size:Int))) ≤ 64)))) = some (r1,r2,r3):=h
 clear h
 replace H:=Option.bind_eq_some_iff.mp H
 obtain ⟨⟨t141,t142⟩,A30,H⟩:=H
 replace H:(some (t141,t142,decide ((wrap64 ((t141.size:Int) + (t142.size:Int))) ≤ 64))) = some (r1,r2,r3):=H;have A3:=aM A30
 clear A30
 simp only [Option.some.injEq,Prod.mk.injEq] at H
 obtain ⟨rfl,rfl,rfl⟩:=H
 go_enter Try.func18,Try.ntmps18
 try go_wp2_with (first|((with_reducible refine gate_dst (N:=4) rfl ?_);refine box_event ?hg (N:=4) ?hd (cs:=#[.string ⟨#[]⟩,.string ⟨#[]⟩]) (t:=27) ?hr ?_;(case hd=>rfl);(case hg=>rfl);(case hr=>first|(go_simp;done)|(go_simp;rfl));intro gb140 hg w4 hbox hb;have BK140:=aM (hbox);have GW140:=wl hg HB;have GE140:=wl hg HB;replace HB:=bs HB hb;clear hb hbox hg)|((with_reducible refine gate_callee (f:=31) rfl ?_);refine goesL_ (some 9) rfl rfl Try.func31 (by kernel_rfl) rfl #[.string a0,.string a1] rfl (by (try simp only [sM,sC,sN]);first|done|rfl|(simp only [List.length_drop,List.length_take];rfl)) ?_;(with_reducible refine (spec_l01Canonical.calls k a0 a1 t141 t142 _ A3.out).mono ?_);rintro e w5 ⟨rfl,hb⟩;refine ⟨_,rfl,?_⟩;replace BK140:=kb BK140 hb;replace HB:=bs HB hb;(try clear hb))|((with_reducible refine gate_dst (N:=6) rfl ?_);refine box_event ?hg (N:=6) ?hd (cs:=#[.string ⟨#[]⟩,.string ⟨#[]⟩]) (t:=27) ?hr ?_;(case hd=>rfl);(case hg=>rfl);(case hr=>first|(go_simp;done)|(go_simp;rfl));intro gb143 hg w6 hbox hb;have BK143:=aM (hbox);have GW143:=wl hg HB;have GE143:=wl hg HB;have NB140_143:=nl hg BK140;have NB143_140:=nr hg BK140;replace BK140:=kb BK140 hb;replace HB:=bs HB hb;clear hb hbox hg;have hnb7:=NB143_140.out;have hnc7:=NB140_143.out;have⟨a0,a1,b0,b1⟩:=q2f BK143))
 have n0_:Aside0 (((w6.setCell ⟨gb143,0,none⟩ (.string t141)).setCell ⟨gb143,1,none⟩ (.string t142)).heap[gb140]? = some (.cells #[.string ⟨#[]⟩,.string ⟨#[]⟩] 27 (0,0))):=⟨bf BK140 NB140_143⟩
 have n1_:Aside0 (((w6.setCell ⟨gb143,0,none⟩ (.string t141)).setCell ⟨gb143,1,none⟩ (.string t142)).heap[gb143]? = some (.cells #[.string t141,.string t142] 27 (0,0))):=⟨by (with_reducible repeat (first|apply yN|apply yD|apply yA));refine blk_put (cs:=#[.string t141,.string ⟨#[]⟩]) ?_ 1 _ rfl;(with_reducible repeat (first|apply yN|apply yD|apply yA));refine blk_put (cs:=#[.string ⟨#[]⟩,.string ⟨#[]⟩]) ?_ 0 _ rfl;(with_reducible repeat (first|apply yN|apply yD|apply yA));exact BK143.out⟩
 have n2_:Aside0 (Below w.heap.size w ((w6.setCell ⟨gb143,0,none⟩ (.string t141)).setCell ⟨gb143,1,none⟩ (.string t142))):=⟨by first|exact bb HB|exact bg HB GE140|exact bg HB GE143⟩
 (try clear BK140);(try clear BK143);(try clear HB)
 generalize ((w6.setCell ⟨gb143,0,none⟩ (.string t141)).setCell ⟨gb143,1,none⟩ (.string t142)) = w9 at n0_ n1_ n2_ ⊢
 have BK140:=n0_
 have BK143:=n1_
 have HB:=n2_
 clear n0_ n1_ n2_
 replace BK140:=aM (yD BK140.out);replace BK143:=aM (yD BK143.out);replace HB:=aM (zD HB.out)
 refine start_ (n:=11) (S:=fun w'=>w'.cell? ⟨gb143,0,none⟩ = some (.string t141) ∧ w'.cell? ⟨gb143,1,none⟩ = some (.string t142)) (ds:=[]) #[fF,fF,fF,fF,fF,fF,fF,fF,fF,fF,fF] (by kernel_rfl) rfl rfl ⟨(blk_cell BK143.out 0).trans rfl,(blk_cell BK143.out 1).trans rfl⟩ (fun hHeld=>?_);refine with_tabW spec_l06Told.tab2 spec_l06Told.bits2 (fun HT_ HW_=>?_)
 generalize w9.drew = w10 at BK140 BK143 HB hHeld ⊢
 refine pure_ (i:=1) (N:=some 11) (v:=?_) (a':=?_) #[fF,tT,fF,fF,fF,fF,fF,fF,fF,fF,fF] rfl rfl (any_of HT_.out (by kernel_rfl)) (fun _ _ _ h=>h) (Or.inl ⟨by rfl,?_⟩) ?_ ?_
 rotate_left
 ·intro w'
  go_simp
  with_reducible rfl
 rotate_left
 ·simp only [Act.put,sI,sZ,sS,i64_w,i32_w]
  rfl
 refine pure_ (i:=4) (N:=some 14) (v:=?_) (a':=?_) #[fF,tT,fF,fF,tT,fF,fF,fF,fF,fF,fF] rfl rfl (any_of HT_.out (by kernel_rfl)) (fun _ _ _ h=>h) (Or.inl ⟨by rfl,?_⟩) ?_ ?_
 rotate_left
 ·intro w'
  go_simp
  with_reducible rfl
 rotate_left
 ·simp only [Act.put,sI,sZ,sS,i64_w,i32_w]
  rfl
 refine take_ (i:=0) (N:=some 10) (v:=?_) (a':=?_) #[tT,tT,fF,fF,tT,fF,fF,fF,fF,fF,fF] rfl rfl (take_ofW HT_.out HW_.out (by kernel_rfl)) (fun _ _ _ h=>h) (Or.inl ⟨by rfl,?_⟩) hHeld ?_ ?_
 rotate_left
 ·rintro w' ⟨s0,s1⟩
  go_simp
  with_reducible rfl
 rotate_left
 ·simp only [Act.put,sI,sZ,sS,i64_w,i32_w]
  rfl
 refine take_ (i:=2) (N:=some 12) (v:=?_) (a':=?_) #[tT,tT,tT,fF,tT,fF,fF,fF,fF,fF,fF] rfl rfl (take_ofW HT_.out HW_.out (by kernel_rfl)) (fun _ _ _ h=>h) (Or.inl ⟨by rfl,?_⟩) hHeld ?_ ?_
 rotate_left
 ·rintro w' ⟨s0,s1⟩
  go_simp
  with_reducible rfl
 rotate_left
 ·simp only [Act.put,sI,sZ,sS,i64_w,i32_w]
  rfl
 refine pure_ (i:=3) (N:=some 13) (v:=?_) (a':=?_) #[tT,tT,tT,tT,tT,fF,fF,fF,fF,fF,fF] rfl rfl (any_of HT_.out (by kernel_rfl)) (fun _ _ _ h=>h) (Or.inl ⟨by rfl,?_⟩) ?_ ?_
 rotate_left
 ·intro w'
  go_simp
  with_reducible rfl
 rotate_left
 ·simp only [Act.put,sI,sZ,sS,i64_w,i32_w]
  rfl
 refine take_ (i:=5) (N:=some 15) (v:=?_) (a':=?_) #[tT,tT,tT,tT,tT,tT,fF,fF,fF,fF,fF] rfl rfl (take_ofW HT_.out HW_.out (by kernel_rfl)) (fun _ _ _ h=>h) (Or.inl ⟨by rfl,?_⟩) hHeld ?_ ?_
 rotate_left
 ·rintro w' ⟨s0,s1⟩
  go_simp
  with_reducible rfl
 rotate_left
 ·simp only [Act.put,sI,sZ,sS,i64_w,i32_w]
  rfl
 refine pure_ (i:=6) (N:=some 16) (v:=?_) (a':=?_) #[tT,tT,tT,tT,tT,tT,tT,fF,fF,fF,fF] rfl rfl (any_of HT_.out (by kernel_rfl)) (fun _ _ _ h=>h) (Or.inl ⟨by rfl,?_⟩) ?_ ?_
 rotate_left
 ·intro w'
  go_simp
  with_reducible rfl
 rotate_left
 ·simp only [Act.put,sI,sZ,sS,i64_w,i32_w]
  rfl
 refine pure_ (i:=7) (N:=some 17) (v:=?_) (a':=?_) #[tT,tT,tT,tT,tT,tT,tT,tT,fF,fF,fF] rfl rfl (any_of HT_.out (by kernel_rfl)) (fun _ _ _ h=>h) (Or.inl ⟨by rfl,?_⟩) ?_ ?_
 rotate_left
 ·intro w'
  go_simp
  with_reducible rfl
 rotate_left
 ·simp only [Act.put,sI,sZ,sS,i64_w,i32_w]
  rfl
 refine pure_ (i:=8) (N:=some 18) (v:=?_) (a':=?_) #[tT,tT,tT,tT,tT,tT,tT,tT,tT,fF,fF] rfl rfl (any_of HT_.out (by kernel_rfl)) (fun _ _ _ h=>h) (Or.inl ⟨by rfl,?_⟩) ?_ ?_
 rotate_left
 ·intro w'
  go_simp
  with_reducible rfl
 rotate_left
 ·simp only [Act.put,sI,sZ,sS,i64_w,i32_w]
  rfl
 refine one_ (i:=9) (N:=none) #[tT,tT,tT,tT,tT,tT,tT,tT,tT,tT,fF] rfl rfl (one_of HT_.out (by kernel_rfl)) (by decide) (fun K hK=>?_)
 have hs11:w10.cell? ⟨gb140,0,none⟩ = some (.string ⟨#[]⟩):=(blk_cell BK140.out 0).trans rfl
 have hfs11:=blk_frozen BK140.out 0
 have hns11_1:=NB143_140.out
 have hms11_1:=NB140_143.out
 have hs12:w10.cell? ⟨gb140,1,none⟩ = some (.string ⟨#[]⟩):=(blk_cell BK140.out 1).trans rfl
 have hfs12:=blk_frozen BK140.out 1
 have hns12_1:=NB143_140.out
 have hms12_1:=NB140_143.out
 refine skip_ (w1:=?_) (by rfl) rfl ?_ ?_
 rotate_left
 ·go_simp
  rfl
 refine hK.out _ _ ⟨((cell_far (p:=⟨gb140,_,none⟩) NB143_140.out _).trans (((cell_far (p:=⟨gb140,_,none⟩) NB143_140.out _).trans (hHeld.1)))),((cell_far (p:=⟨gb140,_,none⟩) NB143_140.out _).trans (((cell_far (p:=⟨gb140,_,none⟩) NB143_140.out _).trans (hHeld.2))))⟩ (fun hHeld=>?_)
 clear hK K
 refine pure_ (i:=10) (N:=some 5) (v:=?_) (a':=?_) #[tT,tT,tT,tT,tT,tT,tT,tT,tT,tT,tT] rfl rfl (any_of HT_.out (by kernel_rfl)) (fun _ _ _ h=>h) (Or.inl ⟨by rfl,?_⟩) ?_ ?_
 rotate_left
 ·intro w'
  go_simp
  with_reducible rfl
 rotate_left
 ·simp only [Act.put,sI,sZ,sS,i64_w,i32_w]
  rfl
 refine done_ (done_of HT_.out (by kernel_rfl)) ?_
 try go_wp2
 refine bodyPost_ret (results_ct rfl _ _ gb140 27 #[.string t141,.string t142] (0,0) _ rfl (by (with_reducible repeat (first|apply yN|apply yD|apply yA));refine blk_put (cs:=#[.string t141,.string ⟨#[]⟩]) ?_ 1 _ rfl;(with_reducible repeat (first|apply yN|apply yD|apply yA));refine blk_put (cs:=#[.string ⟨#[]⟩,.string ⟨#[]⟩]) ?_ 0 _ rfl;(with_reducible repeat (first|apply yN|apply yD|apply yA));exact BK140.out) Try.underlying27 rfl (by kernel_rfl)) rfl ?_
 exact ⟨by first|rfl|(simp [errW_none,errW_some] <;> rfl)|(simp [*,errW_none,errW_some] <;> rfl),by first|exact bb HB|exact bg HB GE140|exact bg HB GE143⟩
section
def lettersEnd (s:Int × Int × Int):Int × Int:=if s.1 = 1 ∧ s.2.1 = 1 then (0,s.2.2) else if s.1 > s.2.1 then (48,-1) else (49,-1)
def spec_l06Letters.f (a0_0 a0_1 a0_2 a0_3 a0_4 a0_5:ByteArray):Option (Int × Int) :=
 (spec_l01At.f a0_0 a0_1 0).bind fun x0=>(spec_l01At.f a0_2 a0_3 0).bind fun x1=>(spec_l01At.f a0_4 a0_5 0).bind fun x2=>some (lettersEnd (voteAt x0 x1 x2 3))
set_option maxHeartbeats 4000000 in
set_option maxRecDepth 100000 in
theorem spec_l06Letters.calls (a0_0 a0_1 a0_2 a0_3 a0_4 a0_5:ByteArray) (r1 r2:Int) (w:World) (h:spec_l06Letters.f a0_0 a0_1 a0_2 a0_3 a0_4 a0_5 = some (r1,r2)) :
  Calls Try.prog 19 #[.agg #[.string a0_0,.string a0_1,.string a0_2,.string a0_3,.string a0_4,.string a0_5]] w fun e w'=>e = .returned (.tuple #[.int .u8 r1,.int .i64 r2]) ∧ Below w.heap.size w w':=by
 unfold spec_l06Letters.f at h
 obtain ⟨x0,h0,h⟩:=Option.bind_eq_some_iff.1 h
 obtain ⟨x1,h1,h⟩:=Option.bind_eq_some_iff.1 h
 obtain ⟨x2,h2,h⟩:=Option.bind_eq_some_iff.1 h
 have c0:∀ W,Calls Try.prog 20 #[.agg #[.string a0_0,.string a0_1],.int .i64 0] W fun e w'=>e = .returned (.int .u8 x0) ∧ Below W.heap.size W w':=fun W=>(spec_l01At.calls _ _ _ x0 W h0).mono fun e w' ⟨he,hd⟩=>⟨he,by first|exact hd|exact hd.below⟩
 have c1:∀ W,Calls Try.prog 20 #[.agg #[.string a0_2,.string a0_3],.int .i64 0] W fun e w'=>e = .returned (.int .u8 x1) ∧ Below W.heap.size W w':=fun W=>(spec_l01At.calls _ _ _ x1 W h1).mono fun e w' ⟨he,hd⟩=>⟨he,by first|exact hd|exact hd.below⟩
 have c2:∀ W,Calls Try.prog 20 #[.agg #[.string a0_4,.string a0_5],.int .i64 0] W fun e w'=>e = .returned (.int .u8 x2) ∧ Below W.heap.size W w':=fun W=>(spec_l01At.calls _ _ _ x2 W h2).mono fun e w' ⟨he,hd⟩=>⟨he,by first|exact hd|exact hd.below⟩
 have C0:=aM c0;have C1:=aM c1;have C2:=aM c2;have HE:=aM (Option.some.inj h)
 clear c0 c1 c2 h h0 h1 h2
 have hu27:=Try.underlying27
 have hu36:=Try.underlying36
 have hu58:=Try.underlying58
 go_enter Try.func19,Try.ntmps19
 go_wp2
 go_loopg [5,6] 3 (fun gg v5 v6 wr=>∃ (i z o s:Int),(i = 0 ∨ i = 1 ∨ i = 2 ∨ i = 3) ∧ 3 - i.toNat ≤ gg ∧ v5 = .int .i64 s ∧ v6 = .int .i64 i ∧ (0 ≤ z ∧ z ≤ i ∧ 0 ≤ o ∧ o ≤ i) ∧ Aside0 (wr.heap[w.heap.size]? = some (.cells #[.string a0_0,.string a0_1,.string a0_2,.string a0_3,.string a0_4,.string a0_5] 36 (0,0))) ∧ Aside0 (wr.heap[w.heap.size + 1]? = some (.cells #[.int .i64 z,.int .i64 o] 58 (0,0))) ∧ Aside0 (voteAt x0 x1 x2 i = (z,o,s)) ∧ Aside0 (Below w.heap.size w wr) ∧ Aside0 (w.heap.size + 2 ≤ wr.heap.size))
 case atStart =>
  have s1:(w.alloc (.cells #[.string a0_0,.string a0_1,.string a0_2,.string a0_3,.string a0_4,.string a0_5] 36)).heap.size = w.heap.size + 1:=by simp
  exact ⟨0,0,0,-1,.inl rfl,by decide,rfl,rfl,by decide,⟨yA (blk_new _ _) _⟩,⟨s1 ▸ blk_new _ _⟩,⟨rfl⟩,⟨zA (zA (Below.refl _ _) _) _⟩,⟨by simp⟩⟩
 case round =>
  obtain ⟨i,z,o,s,hi,hg,rfl,rfl,hz,HP,HC,HV,HB,HZ⟩:=hrel
  have wz:wrap64 (z + 1) = z + 1:=by unfold wrap64;omega
  have wo:wrap64 (o + 1) = o + 1:=by unfold wrap64;omega
  rcases hi with rfl|rfl|rfl|rfl
  ·have G0:=(blk_cell HP.out 0).trans rfl
   have G1:=(blk_cell HP.out 1).trans rfl
   by_cases d1:x0 = 48
   ·have b1:(x0 == 48) = true:=beq_iff_eq.mpr d1
    go_wp2_with (go_at_call 20;refine (C0.out _).mono ?_;rintro e wA ⟨rfl,hb⟩;have nP:=aM (blk_below HP.out hb);have nC:=aM (blk_below HC.out hb);have nB:=aM (HB.out.trans (hb.mono HB.out.size));have nZ:=aM (Nat.le_trans HZ.out hb.size);clear hb HP HC HB HZ;have HP:=nP;have HC:=nC;have HB:=nB;have HZ:=nZ;clear nP nC nB nZ;have K0:=(blk_cell HC.out 0).trans rfl;have K1:=(blk_cell HC.out 1).trans rfl;have F0:=blk_frozen HC.out 0;have F1:=blk_frozen HC.out 1)
    all_goals
     go_roundg 2
     case measure=>omega
     case rel=>exact ⟨1,z + 1,o,s,.inr (.inl rfl),by decide,rfl,rfl,by omega,⟨blk_far HP.out (by simp) _⟩,⟨blk_put (cs:=#[.int .i64 z,.int .i64 o]) HC.out 0 _ (by first|rfl|(simp [wz];done)|(simp [wrap64] at *;omega))⟩,⟨by have e:=HV.out;show voteStep 0 x0 (voteAt x0 x1 x2 0) = _;rw [e];simp [voteStep,d1]⟩,⟨zS HB.out (by omega)⟩,⟨by have:=HZ.out;first|exact this|simpa [World.setCell] using this⟩⟩
   ·have b1:(x0 == 48) = false:=beq_eq_false_iff_ne.mpr d1
    by_cases d2:x0 = 49
    ·have b2:(x0 == 49) = true:=beq_iff_eq.mpr d2
     go_wp2_with (go_at_call 20;refine (C0.out _).mono ?_;rintro e wA ⟨rfl,hb⟩;have nP:=aM (blk_below HP.out hb);have nC:=aM (blk_below HC.out hb);have nB:=aM (HB.out.trans (hb.mono HB.out.size));have nZ:=aM (Nat.le_trans HZ.out hb.size);clear hb HP HC HB HZ;have HP:=nP;have HC:=nC;have HB:=nB;have HZ:=nZ;clear nP nC nB nZ;have K0:=(blk_cell HC.out 0).trans rfl;have K1:=(blk_cell HC.out 1).trans rfl;have F0:=blk_frozen HC.out 0;have F1:=blk_frozen HC.out 1)
     all_goals
      go_roundg 2
      case measure=>omega
      case rel=>exact ⟨1,z,o + 1,s,.inr (.inl rfl),by decide,rfl,rfl,by omega,⟨blk_far HP.out (by simp) _⟩,⟨blk_put (cs:=#[.int .i64 z,.int .i64 o]) HC.out 1 _ (by first|rfl|(simp [wo];done))⟩,⟨by have e:=HV.out;show voteStep 0 x0 (voteAt x0 x1 x2 0) = _;rw [e];simp [voteStep,d1,d2]⟩,⟨zS HB.out (by omega)⟩,⟨by have:=HZ.out;first|exact this|simpa [World.setCell] using this⟩⟩
    ·have b2:(x0 == 49) = false:=beq_eq_false_iff_ne.mpr d2
     go_wp2_with (go_at_call 20;refine (C0.out _).mono ?_;rintro e wA ⟨rfl,hb⟩;have nP:=aM (blk_below HP.out hb);have nC:=aM (blk_below HC.out hb);have nB:=aM (HB.out.trans (hb.mono HB.out.size));have nZ:=aM (Nat.le_trans HZ.out hb.size);clear hb HP HC HB HZ;have HP:=nP;have HC:=nC;have HB:=nB;have HZ:=nZ;clear nP nC nB nZ;have K0:=(blk_cell HC.out 0).trans rfl;have K1:=(blk_cell HC.out 1).trans rfl;have F0:=blk_frozen HC.out 0;have F1:=blk_frozen HC.out 1)
     all_goals
      go_roundg 2
      case measure=>omega
      case rel=>exact ⟨1,z,o,0,.inr (.inl rfl),by decide,rfl,rfl,by omega,⟨HP.out⟩,⟨HC.out⟩,⟨by have e:=HV.out;show voteStep 0 x0 (voteAt x0 x1 x2 0) = _;rw [e];simp [voteStep,d1,d2]⟩,⟨HB.out⟩,⟨by have:=HZ.out;first|exact this|simpa [World.setCell] using this⟩⟩
  ·have G0:=(blk_cell HP.out 2).trans rfl
   have G1:=(blk_cell HP.out 3).trans rfl
   by_cases d1:x1 = 48
   ·have b1:(x1 == 48) = true:=beq_iff_eq.mpr d1
    go_wp2_with (go_at_call 20;refine (C1.out _).mono ?_;rintro e wA ⟨rfl,hb⟩;have nP:=aM (blk_below HP.out hb);have nC:=aM (blk_below HC.out hb);have nB:=aM (HB.out.trans (hb.mono HB.out.size));have nZ:=aM (Nat.le_trans HZ.out hb.size);clear hb HP HC HB HZ;have HP:=nP;have HC:=nC;have HB:=nB;have HZ:=nZ;clear nP nC nB nZ;have K0:=(blk_cell HC.out 0).trans rfl;have K1:=(blk_cell HC.out 1).trans rfl;have F0:=blk_frozen HC.out 0;have F1:=blk_frozen HC.out 1)
    all_goals
     go_roundg 1
     case measure=>omega
     case rel=>exact ⟨2,z + 1,o,s,.inr (.inr (.inl rfl)),by decide,rfl,rfl,by omega,⟨blk_far HP.out (by simp) _⟩,⟨blk_put (cs:=#[.int .i64 z,.int .i64 o]) HC.out 0 _ (by first|rfl|(simp [wz];done)|(simp [wrap64] at *;omega))⟩,⟨by have e:=HV.out;show voteStep 1 x1 (voteAt x0 x1 x2 1) = _;rw [e];simp [voteStep,d1]⟩,⟨zS HB.out (by omega)⟩,⟨by have:=HZ.out;first|exact this|simpa [World.setCell] using this⟩⟩
   ·have b1:(x1 == 48) = false:=beq_eq_false_iff_ne.mpr d1
    by_cases d2:x1 = 49
    ·have b2:(x1 == 49) = true:=beq_iff_eq.mpr d2
     go_wp2_with (go_at_call 20;refine (C1.out _).mono ?_;rintro e wA ⟨rfl,hb⟩;have nP:=aM (blk_below HP.out hb);have nC:=aM (blk_below HC.out hb);have nB:=aM (HB.out.trans (hb.mono HB.out.size));have nZ:=aM (Nat.le_trans HZ.out hb.size);clear hb HP HC HB HZ;have HP:=nP;have HC:=nC;have HB:=nB;have HZ:=nZ;clear nP nC nB nZ;have K0:=(blk_cell HC.out 0).trans rfl;have K1:=(blk_cell HC.out 1).trans rfl;have F0:=blk_frozen HC.out 0;have F1:=blk_frozen HC.out 1)
     all_goals
      go_roundg 1
      case measure=>omega
      case rel=>exact ⟨2,z,o + 1,s,.inr (.inr (.inl rfl)),by decide,rfl,rfl,by omega,⟨blk_far HP.out (by simp) _⟩,⟨blk_put (cs:=#[.int .i64 z,.int .i64 o]) HC.out 1 _ (by first|rfl|(simp [wo];done))⟩,⟨by have e:=HV.out;show voteStep 1 x1 (voteAt x0 x1 x2 1) = _;rw [e];simp [voteStep,d1,d2]⟩,⟨zS HB.out (by omega)⟩,⟨by have:=HZ.out;first|exact this|simpa [World.setCell] using this⟩⟩
    ·have b2:(x1 == 49) = false:=beq_eq_false_iff_ne.mpr d2
     go_wp2_with (go_at_call 20;refine (C1.out _).mono ?_;rintro e wA ⟨rfl,hb⟩;have nP:=aM (blk_below HP.out hb);have nC:=aM (blk_below HC.out hb);have nB:=aM (HB.out.trans (hb.mono HB.out.size));have nZ:=aM (Nat.le_trans HZ.out hb.size);clear hb HP HC HB HZ;have HP:=nP;have HC:=nC;have HB:=nB;have HZ:=nZ;clear nP nC nB nZ;have K0:=(blk_cell HC.out 0).trans rfl;have K1:=(blk_cell HC.out 1).trans rfl;have F0:=blk_frozen HC.out 0;have F1:=blk_frozen HC.out 1)
     all_goals
      go_roundg 1
      case measure=>omega
      case rel=>exact ⟨2,z,o,1,.inr (.inr (.inl rfl)),by decide,rfl,rfl,by omega,⟨HP.out⟩,⟨HC.out⟩,⟨by have e:=HV.out;show voteStep 1 x1 (voteAt x0 x1 x2 1) = _;rw [e];simp [voteStep,d1,d2]⟩,⟨HB.out⟩,⟨by have:=HZ.out;first|exact this|simpa [World.setCell] using this⟩⟩
  ·have G0:=(blk_cell HP.out 4).trans rfl
   have G1:=(blk_cell HP.out 5).trans rfl
   by_cases d1:x2 = 48
   ·have b1:(x2 == 48) = true:=beq_iff_eq.mpr d1
    go_wp2_with (go_at_call 20;refine (C2.out _).mono ?_;rintro e wA ⟨rfl,hb⟩;have nP:=aM (blk_below HP.out hb);have nC:=aM (blk_below HC.out hb);have nB:=aM (HB.out.trans (hb.mono HB.out.size));have nZ:=aM (Nat.le_trans HZ.out hb.size);clear hb HP HC HB HZ;have HP:=nP;have HC:=nC;have HB:=nB;have HZ:=nZ;clear nP nC nB nZ;have K0:=(blk_cell HC.out 0).trans rfl;have K1:=(blk_cell HC.out 1).trans rfl;have F0:=blk_frozen HC.out 0;have F1:=blk_frozen HC.out 1)
    all_goals
     go_roundg 0
     case measure=>omega
     case rel=>exact ⟨3,z + 1,o,s,.inr (.inr (.inr rfl)),by decide,rfl,rfl,by omega,⟨blk_far HP.out (by simp) _⟩,⟨blk_put (cs:=#[.int .i64 z,.int .i64 o]) HC.out 0 _ (by first|rfl|(simp [wz];done)|(simp [wrap64] at *;omega))⟩,⟨by have e:=HV.out;show voteStep 2 x2 (voteAt x0 x1 x2 2) = _;rw [e];simp [voteStep,d1]⟩,⟨zS HB.out (by omega)⟩,⟨by have:=HZ.out;first|exact this|simpa [World.setCell] using this⟩⟩
   ·have b1:(x2 == 48) = false:=beq_eq_false_iff_ne.mpr d1
    by_cases d2:x2 = 49
    ·have b2:(x2 == 49) = true:=beq_iff_eq.mpr d2
     go_wp2_with (go_at_call 20;refine (C2.out _).mono ?_;rintro e wA ⟨rfl,hb⟩;have nP:=aM (blk_below HP.out hb);have nC:=aM (blk_below HC.out hb);have nB:=aM (HB.out.trans (hb.mono HB.out.size));have nZ:=aM (Nat.le_trans HZ.out hb.size);clear hb HP HC HB HZ;have HP:=nP;have HC:=nC;have HB:=nB;have HZ:=nZ;clear nP nC nB nZ;have K0:=(blk_cell HC.out 0).trans rfl;have K1:=(blk_cell HC.out 1).trans rfl;have F0:=blk_frozen HC.out 0;have F1:=blk_frozen HC.out 1)
     all_goals
      go_roundg 0
      case measure=>omega
      case rel=>exact ⟨3,z,o + 1,s,.inr (.inr (.inr rfl)),by decide,rfl,rfl,by omega,⟨blk_far HP.out (by simp) _⟩,⟨blk_put (cs:=#[.int .i64 z,.int .i64 o]) HC.out 1 _ (by first|rfl|(simp [wo];done))⟩,⟨by have e:=HV.out;show voteStep 2 x2 (voteAt x0 x1 x2 2) = _;rw [e];simp [voteStep,d1,d2]⟩,⟨zS HB.out (by omega)⟩,⟨by have:=HZ.out;first|exact this|simpa [World.setCell] using this⟩⟩
    ·have b2:(x2 == 49) = false:=beq_eq_false_iff_ne.mpr d2
     go_wp2_with (go_at_call 20;refine (C2.out _).mono ?_;rintro e wA ⟨rfl,hb⟩;have nP:=aM (blk_below HP.out hb);have nC:=aM (blk_below HC.out hb);have nB:=aM (HB.out.trans (hb.mono HB.out.size));have nZ:=aM (Nat.le_trans HZ.out hb.size);clear hb HP HC HB HZ;have HP:=nP;have HC:=nC;have HB:=nB;have HZ:=nZ;clear nP nC nB nZ;have K0:=(blk_cell HC.out 0).trans rfl;have K1:=(blk_cell HC.out 1).trans rfl;have F0:=blk_frozen HC.out 0;have F1:=blk_frozen HC.out 1)
     all_goals
      go_roundg 0
      case measure=>omega
      case rel=>exact ⟨3,z,o,2,.inr (.inr (.inr rfl)),by decide,rfl,rfl,by omega,⟨HP.out⟩,⟨HC.out⟩,⟨by have e:=HV.out;show voteStep 2 x2 (voteAt x0 x1 x2 2) = _;rw [e];simp [voteStep,d1,d2]⟩,⟨HB.out⟩,⟨by have:=HZ.out;first|exact this|simpa [World.setCell] using this⟩⟩
  ·have HR:=aM (HE.out.symm.trans (congrArg lettersEnd HV.out))
   have K0:=(blk_cell HC.out 0).trans rfl
   have K1:=(blk_cell HC.out 1).trans rfl
   have e:(if z = 1 ∧ o = 1 then ((0:Int),s) else if z > o then (48,-1) else (49,-1)) = (r1,r2):=HR.out.symm
   clear HR
   by_cases e1:z = 1
   ·have b1:(z == 1) = true:=beq_iff_eq.mpr e1
    by_cases e2:o = 1
    ·have b2:(o == 1) = true:=beq_iff_eq.mpr e2
     rw [if_pos ⟨e1,e2⟩] at e
     obtain ⟨rfl,rfl⟩:=Prod.mk.inj e
     clear e1 e2
     go_wp2
     go_ret2
     exact ⟨rfl,HB.out⟩
    ·have b2:(o == 1) = false:=beq_eq_false_iff_ne.mpr e2
     rw [if_neg (fun h=>e2 h.2)] at e
     by_cases e3:z > o
     ·rw [if_pos e3] at e
      obtain ⟨rfl,rfl⟩:=Prod.mk.inj e
      have b3:decide (o < z) = true:=decide_eq_true e3
      have b4:decide (z > o) = true:=decide_eq_true e3
      go_wp2
      go_ret2
      exact ⟨rfl,HB.out⟩
     ·rw [if_neg e3] at e
      obtain ⟨rfl,rfl⟩:=Prod.mk.inj e
      have b3:decide (o < z) = false:=decide_eq_false e3
      have b4:decide (z > o) = false:=decide_eq_false e3
      go_wp2
      go_ret2
      exact ⟨rfl,HB.out⟩
   ·have b1:(z == 1) = false:=beq_eq_false_iff_ne.mpr e1
    rw [if_neg (fun h=>e1 h.1)] at e
    by_cases e3:z > o
    ·rw [if_pos e3] at e
     obtain ⟨rfl,rfl⟩:=Prod.mk.inj e
     have b3:decide (o < z) = true:=decide_eq_true e3
     have b4:decide (z > o) = true:=decide_eq_true e3
     go_wp2
     go_ret2
     exact ⟨rfl,HB.out⟩
    ·rw [if_neg e3] at e
     obtain ⟨rfl,rfl⟩:=Prod.mk.inj e
     have b3:decide (o < z) = false:=decide_eq_false e3
     have b4:decide (z > o) = false:=decide_eq_false e3
     go_wp2
     go_ret2
     exact ⟨rfl,HB.out⟩
end
end Go.Proofs.Ytbiehbmojbmnoaa.Q
end
section
namespace Go.Proofs.Ytbiehbmojbmnoaa.Q
open Go.Proofs.YtbiehbmojbmnoaaW.Ext
open Go.RowKit Go.Proofs.YtbiehbmojbmnoaaW.PrintWords Go.Proofs.YtbiehbmojbmnoaaW.PrintLast Go.Proofs.YtbiehbmojbmnoaaW.PrintMore
attribute [local go_sem] max2_int min2_int max_two min_two max_three min_three max_four min_four   -- for this text's walks alone
set_option linter.unusedVariables false
set_option linter.unusedSimpArgs false
attribute [local go_sem high] eqA36
mutual
def spec_l06Middle.l0:Nat → List Int → List (S36) → Int → ByteArray → ByteArray → ByteArray → ByteArray → ByteArray → ByteArray → ByteArray → ByteArray → Option (ByteArray × ByteArray × Bool)
 | 0,_,_,_,_,_,_,_,_,_,_,_=>none
 | k + 1,x6,x7,x8,x145000,x145001,x146000,x146001,x146002,x146003,x146004,x146005=>if x8 ≤ 600 then ((spec_l06Same.f k x146000 x146001 x146002 x146003 x146004 x146005).bind fun bt153=>(if bt153.2.2 = true then (if (strOfNums x6).size + bt153.1.size ≤ 9223372036854775807 then ((spec_l06Told.f k ((strOfNums x6) ++ bt153.1) bt153.2.1).bind fun bt157=>(some (bt157.1,bt157.2.1,bt157.2.2))) else (none)) else ((spec_l06Letters.f x146000 x146001 x146002 x146003 x146004 x146005).bind fun bt160=>(if bt160.2 ≥ 0 then (if bt160.2 = 0 then (if (strOfNums x6).size + x146000.size ≤ 9223372036854775807 then ((spec_l06Told.f k ((strOfNums x6) ++ x146000) x146001).bind fun bt162=>(some (bt162.1,bt162.2.1,bt162.2.2))) else (none)) else (if bt160.2 = 1 then (if (strOfNums x6).size + x146002.size ≤ 9223372036854775807 then ((spec_l06Told.f k ((strOfNums x6) ++ x146002) x146003).bind fun bt165=>(some (bt165.1,bt165.2.1,bt165.2.2))) else (none)) else (if bt160.2 = 2 then (if (strOfNums x6).size + x146004.size ≤ 9223372036854775807 then ((spec_l06Told.f k ((strOfNums x6) ++ x146004) x146005).bind fun bt168=>(some (bt168.1,bt168.2.1,bt168.2.2))) else (none)) else (none)))) else (spec_l06Middle.l1 k x6 x7 x8 bt160.1 0 x145000 x145001 x146000 x146001 x146002 x146003 x146004 x146005))))) else (some ((⟨#[]⟩:ByteArray),(⟨#[]⟩:ByteArray),false))
def spec_l06Middle.l1:Nat → List Int → List (S36) → Int → Int → Int → ByteArray → ByteArray → ByteArray → ByteArray → ByteArray → ByteArray → ByteArray → ByteArray → Option (ByteArray × ByteArray × Bool)
 | 0,_,_,_,_,_,_,_,_,_,_,_,_,_=>none
 | k + 1,x6,x7,x8,x11,x13,x145000,x145001,x146000,x146001,x146002,x146003,x146004,x146005=>if x13 < (x7.length:Int) then (if 0 ≤ x13 then (if (((((rd_T36 x7 x13).f0.f0).toList) == x146000.toList && ((((rd_T36 x7 x13).f0.f1).toList) == x146001.toList)) && (((((rd_T36 x7 x13).f1.f0).toList) == x146002.toList && ((((rd_T36 x7 x13).f1.f1).toList) == x146003.toList)) && (((((rd_T36 x7 x13).f2.f0).toList) == x146004.toList && ((((rd_T36 x7 x13).f2.f1).toList) == x146005.toList))))) = true then (if x13 ≤ (x6.length:Int) then ((spec_l06Told.f k (strOfNums (x6.take (x13:Int).toNat)) (strOfNums (x6.drop (x13:Int).toNat))).bind fun bt180=>(some (bt180.1,bt180.2.1,bt180.2.2))) else (none)) else (spec_l06Middle.l1 k x6 x7 x8 x11 (wrap64 (x13 + 1)) x145000 x145001 x146000 x146001 x146002 x146003 x146004 x146005)) else (none)) else (if x7.length < 1466015503701 then (if x6.length < 140737488355328 then (spec_l06Middle.l2 k (x6 ++ [x11]) (x7 ++ [(⟨(⟨x146000,x146001⟩:S27),(⟨x146002,x146003⟩:S27),(⟨x146004,x146005⟩:S27)⟩:S36)]) x8 x11 0 x145000 x145001 x146000 x146001 x146002 x146003 x146004 x146005) else (none)) else (none))
def spec_l06Middle.l2:Nat → List Int → List (S36) → Int → Int → Int → ByteArray → ByteArray → ByteArray → ByteArray → ByteArray → ByteArray → ByteArray → ByteArray → Option (ByteArray × ByteArray × Bool)
 | 0,_,_,_,_,_,_,_,_,_,_,_,_,_=>none
 | k + 1,x6,x7,x8,x11,x14,x145000,x145001,x146000,x146001,x146002,x146003,x146004,x146005=>if x14 < 3 then (if x14 = 0 then ((spec_l01At.f x146000 x146001 0).bind fun t189=>(if t189 = x11 then ((spec_l01Shift.f x146000 x146001).bind fun bt190=>(spec_l06Middle.l2 k x6 x7 x8 x11 (0 + 1) x145000 x145001 bt190.1 bt190.2 x146002 x146003 x146004 x146005)) else (if t189 = 42 then ((spec_l01Shift.f x146000 x146001).bind fun bt192=>(spec_l06Middle.l2 k x6 x7 x8 x11 (0 + 1) x145000 x145001 bt192.1 bt192.2 x146002 x146003 x146004 x146005)) else (spec_l06Middle.l2 k x6 x7 x8 x11 (0 + 1) x145000 x145001 x145000 x145001 x146002 x146003 x146004 x146005)))) else (if x14 = 1 then ((spec_l01At.f x146002 x146003 0).bind fun t194=>(if t194 = x11 then ((spec_l01Shift.f x146002 x146003).bind fun bt195=>(spec_l06Middle.l2 k x6 x7 x8 x11 (1 + 1) x145000 x145001 x146000 x146001 bt195.1 bt195.2 x146004 x146005)) else (if t194 = 42 then ((spec_l01Shift.f x146002 x146003).bind fun bt197=>(spec_l06Middle.l2 k x6 x7 x8 x11 (1 + 1) x145000 x145001 x146000 x146001 bt197.1 bt197.2 x146004 x146005)) else (spec_l06Middle.l2 k x6 x7 x8 x11 (1 + 1) x145000 x145001 x146000 x146001 x145000 x145001 x146004 x146005)))) else (if x14 = 2 then ((spec_l01At.f x146004 x146005 0).bind fun t199=>(if t199 = x11 then ((spec_l01Shift.f x146004 x146005).bind fun bt200=>(spec_l06Middle.l2 k x6 x7 x8 x11 (2 + 1) x145000 x145001 x146000 x146001 x146002 x146003 bt200.1 bt200.2)) else (if t199 = 42 then ((spec_l01Shift.f x146004 x146005).bind fun bt202=>(spec_l06Middle.l2 k x6 x7 x8 x11 (2 + 1) x145000 x145001 x146000 x146001 x146002 x146003 bt202.1 bt202.2)) else (spec_l06Middle.l2 k x6 x7 x8 x11 (2 + 1) x145000 x145001 x146000 x146001 x146002 x146003 x145000 x145001)))) else (none)))) else (spec_l06Middle.l0 k x6 x7 (wrap64 (x8 + 1)) x145000 x145001 x146000 x146001 x146002 x146003 x146004 x146005)
end
def spec_l06Middle.f (k:Nat) (a0_0:ByteArray) (a0_1:ByteArray) (a1_0:ByteArray) (a1_1:ByteArray) (a1_2:ByteArray) (a1_3:ByteArray) (a1_4:ByteArray) (a1_5:ByteArray):Option (ByteArray × ByteArray × Bool):=spec_l06Middle.l0 k (([]:List Int)) (([]:List (S36))) 0 a0_0 a0_1 a1_0 a1_1 a1_2 a1_3 a1_4 a1_5
theorem spec_l06Middle.mono_l:∀ k,(∀ y0 y1 y2 y3 y4 y5 y6 y7 y8 y9 y10,LeO (spec_l06Middle.l0 k y0 y1 y2 y3 y4 y5 y6 y7 y8 y9 y10) (spec_l06Middle.l0 (k + 1) y0 y1 y2 y3 y4 y5 y6 y7 y8 y9 y10)) ∧ (∀ y0 y1 y2 y3 y4 y5 y6 y7 y8 y9 y10 y11 y12,LeO (spec_l06Middle.l1 k y0 y1 y2 y3 y4 y5 y6 y7 y8 y9 y10 y11 y12) (spec_l06Middle.l1 (k + 1) y0 y1 y2 y3 y4 y5 y6 y7 y8 y9 y10 y11 y12)) ∧ (∀ y0 y1 y2 y3 y4 y5 y6 y7 y8 y9 y10 y11 y12,LeO (spec_l06Middle.l2 k y0 y1 y2 y3 y4 y5 y6 y7 y8 y9 y10 y11 y12) (spec_l06Middle.l2 (k + 1) y0 y1 y2 y3 y4 y5 y6 y7 y8 y9 y10 y11 y12))
 | 0=>⟨fun _ _ _ _ _ _ _ _ _ _ _ r h=>by simp [spec_l06Middle.l0] at h,fun _ _ _ _ _ _ _ _ _ _ _ _ _ r h=>by simp [spec_l06Middle.l1] at h,fun _ _ _ _ _ _ _ _ _ _ _ _ _ r h=>by simp [spec_l06Middle.l2] at h⟩
 | k + 1=>by
  obtain ⟨ih0,ih1,ih2⟩:=spec_l06Middle.mono_l k
  refine ⟨?_,?_,?_⟩
  ·intro y0 y1 y2 y3 y4 y5 y6 y7 y8 y9 y10
   unfold spec_l06Middle.l0
   repeat' first
   | (with_reducible exact ih0 _ _ _ _ _ _ _ _ _ _ _)
   | (with_reducible exact ih1 _ _ _ _ _ _ _ _ _ _ _ _ _)
   | (with_reducible exact ih2 _ _ _ _ _ _ _ _ _ _ _ _ _)
   | (with_reducible exact spec_l06Same.mono _ _ _ _ _ _ _)
   | (with_reducible exact spec_l06Told.mono _ _ _)
   | (with_reducible exact LeO.refl _)
   | (with_reducible exact LeO.none _)
   | (with_reducible refine LeO.ite ?_ ?_)
   | (with_reducible refine LeO.bind ?_ (fun _=>?_))
   | exact ih0 _ _ _ _ _ _ _ _ _ _ _
   | exact ih1 _ _ _ _ _ _ _ _ _ _ _ _ _
   | exact ih2 _ _ _ _ _ _ _ _ _ _ _ _ _
   | exact spec_l06Same.mono _ _ _ _ _ _ _
   | exact spec_l06Told.mono _ _ _
   | exact LeO.none _
   | refine LeO.ite ?_ ?_
   | refine LeO.bind ?_ (fun _=>?_)
  ·intro y0 y1 y2 y3 y4 y5 y6 y7 y8 y9 y10 y11 y12
   unfold spec_l06Middle.l1
   repeat' first
   | (with_reducible exact ih0 _ _ _ _ _ _ _ _ _ _ _)
   | (with_reducible exact ih1 _ _ _ _ _ _ _ _ _ _ _ _ _)
   | (with_reducible exact ih2 _ _ _ _ _ _ _ _ _ _ _ _ _)
   | (with_reducible exact spec_l06Same.mono _ _ _ _ _ _ _)
   | (with_reducible exact spec_l06Told.mono _ _ _)
   | (with_reducible exact LeO.refl _)
   | (with_reducible exact LeO.none _)
   | (with_reducible refine LeO.ite ?_ ?_)
   | (with_reducible refine LeO.bind ?_ (fun _=>?_))
   | exact ih0 _ _ _ _ _ _ _ _ _ _ _
   | exact ih1 _ _ _ _ _ _ _ _ _ _ _ _ _
   | exact ih2 _ _ _ _ _ _ _ _ _ _ _ _ _
   | exact spec_l06Same.mono _ _ _ _ _ _ _
   | exact spec_l06Told.mono _ _ _
   | exact LeO.none _
   | refine LeO.ite ?_ ?_
   | refine LeO.bind ?_ (fun _=>?_)
  ·intro y0 y1 y2 y3 y4 y5 y6 y7 y8 y9 y10 y11 y12
   unfold spec_l06Middle.l2
   repeat' first
   | (with_reducible exact ih0 _ _ _ _ _ _ _ _ _ _ _)
   | (with_reducible exact ih1 _ _ _ _ _ _ _ _ _ _ _ _ _)
   | (with_reducible exact ih2 _ _ _ _ _ _ _ _ _ _ _ _ _)
   | (with_reducible exact spec_l06Same.mono _ _ _ _ _ _ _)
   | (with_reducible exact spec_l06Told.mono _ _ _)
   | (with_reducible exact LeO.refl _)
   | (with_reducible exact LeO.none _)
   | (with_reducible refine LeO.ite ?_ ?_)
   | (with_reducible refine LeO.bind ?_ (fun _=>?_))
   | exact ih0 _ _ _ _ _ _ _ _ _ _ _
   | exact ih1 _ _ _ _ _ _ _ _ _ _ _ _ _
   | exact ih2 _ _ _ _ _ _ _ _ _ _ _ _ _
   | exact spec_l06Same.mono _ _ _ _ _ _ _
   | exact spec_l06Told.mono _ _ _
   | exact LeO.none _
   | refine LeO.ite ?_ ?_
   | refine LeO.bind ?_ (fun _=>?_)
theorem spec_l06Middle.mono:∀ a0 a1 a2 a3 a4 a5 a6 a7 k,LeO (spec_l06Middle.f k a0 a1 a2 a3 a4 a5 a6 a7) (spec_l06Middle.f (k + 1) a0 a1 a2 a3 a4 a5 a6 a7):=by
 intro a0 a1 a2 a3 a4 a5 a6 a7 k
 obtain ⟨ih0,ih1,ih2⟩:=spec_l06Middle.mono_l k
 unfold spec_l06Middle.f
 repeat' first
   | (with_reducible exact ih0 _ _ _ _ _ _ _ _ _ _ _)
   | (with_reducible exact ih1 _ _ _ _ _ _ _ _ _ _ _ _ _)
   | (with_reducible exact ih2 _ _ _ _ _ _ _ _ _ _ _ _ _)
   | (with_reducible exact spec_l06Same.mono _ _ _ _ _ _ _)
   | (with_reducible exact spec_l06Told.mono _ _ _)
   | (with_reducible exact LeO.refl _)
   | (with_reducible exact LeO.none _)
   | (with_reducible refine LeO.ite ?_ ?_)
   | (with_reducible refine LeO.bind ?_ (fun _=>?_))
   | exact ih0 _ _ _ _ _ _ _ _ _ _ _
   | exact ih1 _ _ _ _ _ _ _ _ _ _ _ _ _
   | exact ih2 _ _ _ _ _ _ _ _ _ _ _ _ _
   | exact spec_l06Same.mono _ _ _ _ _ _ _
   | exact spec_l06Told.mono _ _ _
   | exact LeO.none _
   | refine LeO.ite ?_ ?_
   | refine LeO.bind ?_ (fun _=>?_)
def spec_l06Middle.T10:Bool × List (List Nat × List Nat):=(true,[([],[]),([0],[0]),([],[]),([2],[2]),([3],[3]),([4],[4]),([1,5],[1,5]),([],[]),([7],[7]),([8],[8]),([9],[9]),([6,10],[6,10]),([11],[11]),([11],[11]),([12,11,0,1,2,3,4,5,6,7,8,9,10,11,12,13],[12]),([13,14,0,1,2,3,4,5,6,7,8,9,10,11,12,13,14],[13])])
def spec_l06Middle.B10:List Nat:=[0,1,0,4,12,28,63,0,128,384,896,2047,4095,4095,16383,32767]
theorem spec_l06Middle.tab10:rtab .any (opsOf Try.f13 10) = spec_l06Middle.T10:=by kernel_rfl
theorem spec_l06Middle.bits10:waitsOk spec_l06Middle.T10.2 spec_l06Middle.B10 = true:=by kernel_rfl
def spec_l06Middle.T15:Bool × List (List Nat × List Nat):=(true,[([],[]),([],[]),([0,1],[0,1]),([2],[2]),([],[]),([],[]),([4,5],[4,5]),([6],[6]),([3,7],[3,7]),([8],[8]),([8],[8]),([9,8,0,1,2,3,4,5,6,7,8,9,10],[9]),([10,11,0,1,2,3,4,5,6,7,8,9,10,11],[10])])
def spec_l06Middle.B15:List Nat:=[0,0,3,7,0,0,48,112,255,511,511,2047,4095]
theorem spec_l06Middle.tab15:rtab .any (opsOf Try.f13 15) = spec_l06Middle.T15:=by kernel_rfl
theorem spec_l06Middle.bits15:waitsOk spec_l06Middle.T15.2 spec_l06Middle.B15 = true:=by kernel_rfl
set_option maxHeartbeats 8000000 in
set_option maxRecDepth 100000 in
theorem spec_l06Middle.calls (k:Nat) (a0_0:ByteArray) (a0_1:ByteArray) (a1_0:ByteArray) (a1_1:ByteArray) (a1_2:ByteArray) (a1_3:ByteArray) (a1_4:ByteArray) (a1_5:ByteArray) (r1:ByteArray) (r2:ByteArray) (r3:Bool) (w:World) (h:spec_l06Middle.f k a0_0 a0_1 a1_0 a1_1 a1_2 a1_3 a1_4 a1_5 = some (r1,r2,r3)) :
  Calls Try.prog 13 #[.agg #[.string a0_0,.string a0_1],.agg #[.string a1_0,.string a1_1,.string a1_2,.string a1_3,.string a1_4,.string a1_5]] w fun e w'=>e = .returned (.tuple #[.agg #[.string r1,.string r2],.bool r3]) ∧ Below w.heap.size w w':=by
 have hu27:=Try.underlying27
 have hu36:=Try.underlying36
 have HB:=aM (Below.refl w.heap.size w)
 have H:(spec_l06Middle.l0 k (([]:List Int)) (([]:List (S36))) 0 a0_0 a0_1 a1_0 a1_1 a1_2 a1_3 a1_4 a1_5) = some (r1,r2,r3):=h
 clear h
 obtain ⟨y147,hy147⟩:∃ y_:List Int,y_ = (([]:List Int)):=⟨_,rfl⟩
 replace H:(spec_l06Middle.l0 k y147 (([]:List (S36))) 0 a0_0 a0_1 a1_0 a1_1 a1_2 a1_3 a1_4 a1_5) = some (r1,r2,r3):=by first|(rw [hy147];with_reducible exact H)|(have H2_:=(Option.bind_some _ _).symm.trans H;rw [hy147];with_reducible exact H2_)|(have H2_:=(Option.bind_some _ _).symm.trans H;with_reducible exact H2_)|with_reducible exact H|(rw [hy147];exact H)|exact H
 have Ny147:=aM hy147
 clear hy147
 obtain ⟨y150,hy150⟩:∃ y_:List (S36),y_ = (([]:List (S36))):=⟨_,rfl⟩
 replace H:(spec_l06Middle.l0 k y147 y150 0 a0_0 a0_1 a1_0 a1_1 a1_2 a1_3 a1_4 a1_5) = some (r1,r2,r3):=by first|(rw [hy150];with_reducible exact H)|(have H2_:=(Option.bind_some _ _).symm.trans H;rw [hy150];with_reducible exact H2_)|(have H2_:=(Option.bind_some _ _).symm.trans H;with_reducible exact H2_)|with_reducible exact H|(rw [hy150];exact H)|exact H
 have Ny150:=aM hy150
 clear hy150
 have H':=aM H
 clear H
 go_enter Try.func13,Try.ntmps13
 go_wp2_with (first|((with_reducible refine gate_dst (N:=2) rfl ?_);refine box_event ?hg (N:=2) ?hd (cs:=#[.string a0_0,.string a0_1]) (t:=27) ?hr ?_;(case hd=>rfl);(case hg=>rfl);(case hr=>first|(go_simp;done)|(go_simp;rfl));intro gb144 hg w3 hbox hb;have BK144:=aM (hbox);have GW144:=wl hg HB;have GE144:=wl hg HB;replace HB:=bs HB hb;clear hb hbox hg)|((with_reducible refine gate_dst (N:=3) rfl ?_);refine box_event ?hg (N:=3) ?hd (cs:=#[.string a1_0,.string a1_1,.string a1_2,.string a1_3,.string a1_4,.string a1_5]) (t:=36) ?hr ?_;(case hd=>rfl);(case hg=>rfl);(case hr=>first|(go_simp;done)|(go_simp;rfl));intro gb145 hg w4 hbox hb;have BK145:=aM (hbox);have GW145:=aM ((by rw [hg];exact (below_size (by first|exact bb HB|exact bg HB GE144)):w.heap.size ≤ gb145));have GE145:=aM ((by rw [hg];exact (below_size (by first|exact bb HB|exact bg HB GE144)):w.heap.size ≤ gb145));have NB144_145:=nl hg BK144;have NB145_144:=nr hg BK144;replace BK144:=kb BK144 hb;replace HB:=aM (below_step (by first|exact bb HB|exact bg HB GE144) hb);clear hb hbox hg)|((with_reducible refine gate_dst (N:=4) rfl ?_);refine box_event ?hg (N:=4) ?hd (cs:=#[.string ⟨#[]⟩,.string ⟨#[]⟩]) (t:=27) ?hr ?_;(case hd=>rfl);(case hg=>rfl);(case hr=>first|(go_simp;done)|(go_simp;rfl));intro gb146 hg w5 hbox hb;have BK146:=aM (hbox);have GW146:=aM ((by rw [hg];exact (below_size (by first|exact bb HB|exact bg HB GE144|exact bg HB GE145)):w.heap.size ≤ gb146));have GE146:=aM ((by rw [hg];exact (below_size (by first|exact bb HB|exact bg HB GE144|exact bg HB GE145)):w.heap.size ≤ gb146));have NB144_146:=nl hg BK144;have NB146_144:=nr hg BK144;have NB145_146:=nl hg BK145;have NB146_145:=nr hg BK145;replace BK144:=kb BK144 hb;replace BK145:=kb BK145 hb;replace HB:=aM (below_step (by first|exact bb HB|exact bg HB GE144|exact bg HB GE145) hb);clear hb hbox hg)|((with_reducible refine gate_dst (N:=16) rfl ?_);refine Kd.R_lit (Kd.int .u8) _ 5 ?hg (N:=16) ?hd (xs:=([]:List Int)) (inner:=[]) (ok:=fun _=>True) (okp:=fun _=>True) ?hr ?hp (fun _ hk=>hk) trivial (Below.refl _ _) (Nat.le_refl _) (by simp) ?_;(case hd=>rfl);(case hg=>rfl);(case hr=>first|(go_simp;done)|(go_simp;rfl));(case hp=>exact (Reps.none _ _));intro v148 w6 ho7 hb hg_ hnew_;clear hg_ hnew_;(first|rw [← Ny147.out] at ho7|(simp only [Int.reduceToNat] at ho7;rw [← Ny147.out] at ho7));have HO149:=aM (Kd.R_lower ho7 (below_size (by first|exact bb HB|exact bg HB GE144|exact bg HB GE145|exact bg HB GE146)));replace BK144:=kb BK144 hb;replace BK145:=kb BK145 hb;replace BK146:=kb BK146 hb;replace HB:=aM (below_step (by first|exact bb HB|exact bg HB GE144|exact bg HB GE145|exact bg HB GE146) hb);clear hb ho7)|((with_reducible refine gate_dst (N:=17) rfl ?_);refine Kd.R_lit k36 _ 36 ?hg (N:=17) ?hd (xs:=([]:List (S36))) (inner:=[]) (ok:=fun _=>True) (okp:=fun _=>True) ?hr ?hp (fun _ hk=>hk) trivial (Below.refl _ _) (Nat.le_refl _) (by simp) ?_;(case hd=>rfl);(case hg=>rfl);(case hr=>first|(go_simp;done)|(go_simp;rfl));(case hp=>exact (Reps.none _ _));intro v151 w8 ho9 hb hg_ hnew_;clear hg_ hnew_;(first|rw [← Ny150.out] at ho9|(simp only [Int.reduceToNat] at ho9;rw [← Ny150.out] at ho9));have HO152:=aM (Kd.R_lower (Kd.R_newB ho9 (g:=gb145) (o:=.cells #[.string a1_0,.string a1_1,.string a1_2,.string a1_3,.string a1_4,.string a1_5] 36 (0,0)) (bk BK145)) (below_size (by first|exact bb HB|exact bg HB GE144|exact bg HB GE145|exact bg HB GE146)));replace HO149:=ko HO149 hb;replace BK144:=kb BK144 hb;replace BK145:=kb BK145 hb;replace BK146:=kb BK146 hb;replace HB:=aM (below_step (by first|exact bb HB|exact bg HB GE144|exact bg HB GE145|exact bg HB GE146) hb);clear hb ho9))
 go_loopg [6,7,8] k (fun kq v6 v7 v8 w'=>∃ (x6_1:List Int) (x7_1:List (S36)) (x8_1:Int) (x146000_1:ByteArray) (x146001_1:ByteArray) (x146002_1:ByteArray) (x146003_1:ByteArray) (x146004_1:ByteArray) (x146005_1:ByteArray) (x147000_1:ByteArray) (x147001_1:ByteArray),v8 = .int .i64 x8_1 ∧ Aside0 (spec_l06Middle.l0 kq x6_1 x7_1 x8_1 a0_0 a0_1 x146000_1 x146001_1 x146002_1 x146003_1 x146004_1 x146005_1 = some (r1,r2,r3)) ∧ Aside0 (kq ≤ k) ∧ Aside0 (Kd.R (Kd.int .u8) 5 w' w.heap.size (fun _=>True) v6 x6_1) ∧ Aside0 (Kd.R k36 36 w' w.heap.size (fun k_=>k_ ≠ gb145) v7 x7_1) ∧ Aside0 (w'.heap[gb144]? = some (.cells #[.string a0_0,.string a0_1] 27 (0,0))) ∧ Aside0 (w'.heap[gb145]? = some (.cells #[.string x146000_1,.string x146001_1,.string x146002_1,.string x146003_1,.string x146004_1,.string x146005_1] 36 (0,0))) ∧ Aside0 (w'.heap[gb146]? = some (.cells #[.string x147000_1,.string x147001_1] 27 (0,0))) ∧ Aside0 (Below w.heap.size w w'))
 case atStart=>exact ⟨(y147),(y150),(0),(a1_0),(a1_1),(a1_2),(a1_3),(a1_4),(a1_5),((⟨#[]⟩:ByteArray)),((⟨#[]⟩:ByteArray)),(by first|rfl|(simp;done)|(simp [*];done)),H',⟨Nat.le_refl _⟩,⟨rk HO149⟩,⟨by (with_reducible repeat (first|apply rA|apply rN|apply rD));exact Kd.R_mono HO152.out (fun _ hk=>hk.2)⟩,⟨bk BK144⟩,⟨bk BK145⟩,⟨bk BK146⟩,⟨by first|exact bb HB|exact bg HB GE144|exact bg HB GE145|exact bg HB GE146⟩⟩
 case round =>
  clear H'
  try clear c1
  try clear p2
  obtain ⟨x6_1,x7_1,x8_1,x146000_1,x146001_1,x146002_1,x146003_1,x146004_1,x146005_1,x147000_1,x147001_1,rfl,HA,HK1,HO_6,HO_7,BK144,BK145,BK146,HB⟩:=hrel
  cases gk with
  | zero=>exact absurd HA.out (by simp [spec_l06Middle.l0])
  | succ k1 =>
   have H:=HA.out
   clear HA
   simp only [spec_l06Middle.l0] at H
   by_cases c10:x8_1 ≤ 600
   ·rw [if_pos c10] at H
    have c10b0:decide (x8_1 ≤ 600) = true:=decide_eq_true c10
    clear c10
    replace H:=Option.bind_eq_some_iff.mp H
    obtain ⟨⟨t153,t154,t155⟩,A110,H⟩:=H
    replace H:(if t155 = true then (if (strOfNums x6_1).size + t153.size ≤ 9223372036854775807 then ((spec_l06Told.f k1 ((strOfNums x6_1) ++ t153) t154).bind fun bt157=>(some (bt157.1,bt157.2.1,bt157.2.2))) else (none)) else ((spec_l06Letters.f x146000_1 x146001_1 x146002_1 x146003_1 x146004_1 x146005_1).bind fun bt160=>(if bt160.2 ≥ 0 then (if bt160.2 = 0 then (if (strOfNums x6_1).size + x146000_1.size ≤ 9223372036854775807 then ((spec_l06Told.f k1 ((strOfNums x6_1) ++ x146000_1) x146001_1).bind fun bt162=>(some (bt162.1,bt162.2.1,bt162.2.2))) else (none)) else (if bt160.2 = 1 then (if (strOfNums x6_1).size + x146002_1.size ≤ 9223372036854775807 then ((spec_l06Told.f k1 ((strOfNums x6_1) ++ x146002_1) x146003_1).bind fun bt165=>(some (bt165.1,bt165.2.1,bt165.2.2))) else (none)) else (if bt160.2 = 2 then (if (strOfNums x6_1).size + x146004_1.size ≤ 9223372036854775807 then ((spec_l06Told.f k1 ((strOfNums x6_1) ++ x146004_1) x146005_1).bind fun bt168=>(some (bt168.1,bt168.2.1,bt168.2.2))) else (none)) else (none)))) else (spec_l06Middle.l1 k1 x6_1 x7_1 x8_1 bt160.1 0 a0_0 a0_1 x146000_1 x146001_1 x146002_1 x146003_1 x146004_1 x146005_1)))) = some (r1,r2,r3):=H;have A11:=aM A110
    clear A110
    by_cases c12:t155 = true
    ·subst c12
     have H1:(if (strOfNums x6_1).size + t153.size ≤ 9223372036854775807 then ((spec_l06Told.f k1 ((strOfNums x6_1) ++ t153) t154).bind fun bt157=>(some (bt157.1,bt157.2.1,bt157.2.2))) else (none)) = some (r1,r2,r3):=by rw [if_pos rfl] at H;exact H
     clear H
     have H:=H1
     clear H1
     by_cases c13:(strOfNums x6_1).size + t153.size ≤ 9223372036854775807
     ·rw [if_pos c13] at H
      have c13b0:=eq_true c13
      have c13b1:decide ((strOfNums x6_1).size + t153.size ≤ 9223372036854775807) = true:=decide_eq_true c13
      try have c13b2:(9223372036854775807 < (strOfNums x6_1).size + t153.size) = False:=eq_false (Nat.not_lt.2 c13)
      replace H:=Option.bind_eq_some_iff.mp H
      obtain ⟨⟨t157,t158,t159⟩,A140,H⟩:=H
      replace H:(some (t157,t158,t159)) = some (r1,r2,r3):=H;have A14:=aM A140
      clear A140
      simp only [Option.some.injEq,Prod.mk.injEq] at H
      obtain ⟨rfl,rfl,rfl⟩:=H
      have hnb15:=NB145_144.out
      have hnc15:=NB144_145.out
      have hnb16:=NB145_146.out
      have hnc16:=NB146_145.out
      have⟨a0,a1,a2,a3,a4,a5,b0,b1,b2,b3,b4,b5⟩:=q6f BK145
      go_wp2_with (first|((with_reducible refine gate_callee (f:=17) rfl ?_);refine goesL_ (some 24) rfl rfl Try.func17 (by kernel_rfl) rfl #[.agg #[.string x146000_1,.string x146001_1,.string x146002_1,.string x146003_1,.string x146004_1,.string x146005_1]] rfl (by (try simp only [sM,sC,sN]);first|done|rfl|(simp only [List.length_drop,List.length_take];rfl)) ?_;(with_reducible refine (spec_l06Same.calls k1 x146000_1 x146001_1 x146002_1 x146003_1 x146004_1 x146005_1 t153 t154 true _ A11.out).mono ?_);rintro e w18 ⟨rfl,hb⟩;refine ⟨_,rfl,?_⟩;replace HO_6:=ko HO_6 hb;replace HO_7:=ko HO_7 hb;replace BK144:=kb BK144 hb;replace BK145:=kb BK145 hb;replace BK146:=kb BK146 hb;replace HB:=aM (below_step (by first|exact bb HB|exact bg HB GE144|exact bg HB GE145|exact bg HB GE146) hb);(try clear hb))|((with_reducible refine gate_dst (N:=9) rfl ?_);refine box_event ?hg (N:=9) ?hd (cs:=#[.string ⟨#[]⟩,.string ⟨#[]⟩]) (t:=27) ?hr ?_;(case hd=>rfl);(case hg=>rfl);(case hr=>first|(go_simp;done)|(go_simp;rfl));intro gb156 hg w19 hbox hb;have BK156:=aM (hbox);have GW156:=aM ((by rw [hg];exact (below_size (by first|exact bb HB|exact bg HB GE144|exact bg HB GE145|exact bg HB GE146)):w.heap.size ≤ gb156));have GE156:=aM ((by rw [hg];exact (below_size (by first|exact bb HB|exact bg HB GE144|exact bg HB GE145|exact bg HB GE146)):w.heap.size ≤ gb156));have NB144_156:=nl hg BK144;have NB156_144:=nr hg BK144;have NB145_156:=nl hg BK145;have NB156_145:=nr hg BK145;have NB146_156:=nl hg BK146;have NB156_146:=nr hg BK146;replace HO_6:=ko HO_6 hb;replace HO_7:=ko HO_7 hb;replace BK144:=kb BK144 hb;replace BK145:=kb BK145 hb;replace BK146:=kb BK146 hb;replace HB:=aM (below_step (by first|exact bb HB|exact bg HB GE144|exact bg HB GE145|exact bg HB GE146) hb);clear hb hbox hg;have hnb20:=NB156_144.out;have hnc20:=NB144_156.out;have hnb21:=NB156_145.out;have hnc21:=NB145_156.out;have hnb22:=NB156_146.out;have hnc22:=NB146_156.out;have⟨a0,a1,b0,b1⟩:=q2f BK156;have hcv24:=own_string (P:=Try.prog) Try.underlying42 Try.underlying5 Try.underlying9 (Kd.own_of_R (Kd.R_set (Kd.R_set HO_6.out BK156.out (by decide) 0 (.string t153)) (blk_put (cs':=#[.string t153,.string ⟨#[]⟩]) BK156.out 0 (.string t153) rfl) (by decide) 1 (.string t154))))|((with_reducible refine gate_callee (f:=18) rfl ?_);refine goesL_ (some 35) rfl rfl Try.func18 (by kernel_rfl) rfl #[.string ((strOfNums x6_1) ++ t153),.string t154] rfl (by (try simp only [sM,sC,sN]);first|done|rfl|(simp only [List.length_drop,List.length_take];rfl)) ?_;(with_reducible refine (spec_l06Told.calls k1 ((strOfNums x6_1) ++ t153) t154 t157 t158 t159 _ A14.out).mono ?_);rintro e w25 ⟨rfl,hb⟩;refine ⟨_,rfl,?_⟩;replace HO_6:=aM (Kd.R_below (by (with_reducible repeat (first|apply rA|apply rN|apply rD));exact (Kd.R_mono (Kd.R_far (p:=⟨gb156,1,none⟩) (Kd.R_far (p:=⟨gb156,0,none⟩) (Kd.R_types HO_6.out BK156.out (by decide)) (fun _ hk=>hk.2) (.string t153)) (fun _ hk=>hk.2) (.string t154)) (fun _ h_=>h_.1))) hb);replace HO_7:=aM (Kd.R_below (by (with_reducible repeat (first|apply rA|apply rN|apply rD));exact (Kd.R_mono (Kd.R_far (p:=⟨gb156,1,none⟩) (Kd.R_far (p:=⟨gb156,0,none⟩) (Kd.R_types HO_7.out BK156.out (by decide)) (fun _ hk=>hk.2) (.string t153)) (fun _ hk=>hk.2) (.string t154)) (fun _ h_=>h_.1))) hb);replace BK144:=kf BK144 NB144_156 hb;replace BK145:=kf BK145 NB145_156 hb;replace BK146:=kf BK146 NB146_156 hb;replace BK156:=aM (blk_below (g:=gb156) (o:=.cells #[.string t153,.string t154] 27 (0,0)) (by (with_reducible repeat (first|apply yN|apply yD|apply yA));refine blk_put (cs:=#[.string t153,.string ⟨#[]⟩]) ?_ 1 _ rfl;(with_reducible repeat (first|apply yN|apply yD|apply yA));refine blk_put (cs:=#[.string ⟨#[]⟩,.string ⟨#[]⟩]) ?_ 0 _ rfl;(with_reducible repeat (first|apply yN|apply yD|apply yA));exact BK156.out) hb);replace HB:=aM (below_step (by first|exact bb HB|exact bg HB GE144|exact bg HB GE145|exact bg HB GE146|exact bg HB GE156) hb);(try clear hb);have hnb26:=NB146_144.out;have hnc26:=NB144_146.out;have⟨a0,a1,b0,b1⟩:=q2f BK146))
      refine bodyPost_ret (results_ct rfl _ _ gb146 27 #[.string t157,.string t158] (0,0) _ rfl (by (with_reducible repeat (first|apply yN|apply yD|apply yA));refine blk_put (cs:=#[.string t157,.string x147001_1]) ?_ 1 _ rfl;(with_reducible repeat (first|apply yN|apply yD|apply yA));refine blk_put (cs:=#[.string x147000_1,.string x147001_1]) ?_ 0 _ rfl;(with_reducible repeat (first|apply yN|apply yD|apply yA));exact BK146.out) Try.underlying27 rfl (by kernel_rfl)) rfl ?_
      exact ⟨by first|rfl|(simp [errW_none,errW_some] <;> rfl)|(simp [*,errW_none,errW_some] <;> rfl),by first|exact bb HB|exact bg HB GE144|exact bg HB GE145|exact bg HB GE146|exact bg HB GE156⟩
     ·rw [if_neg c13] at H
      exact absurd H (by simp)
    ·replace c12:=Bool.eq_false_iff.mpr c12
     subst c12
     have H1:((spec_l06Letters.f x146000_1 x146001_1 x146002_1 x146003_1 x146004_1 x146005_1).bind fun bt160=>(if bt160.2 ≥ 0 then (if bt160.2 = 0 then (if (strOfNums x6_1).size + x146000_1.size ≤ 9223372036854775807 then ((spec_l06Told.f k1 ((strOfNums x6_1) ++ x146000_1) x146001_1).bind fun bt162=>(some (bt162.1,bt162.2.1,bt162.2.2))) else (none)) else (if bt160.2 = 1 then (if (strOfNums x6_1).size + x146002_1.size ≤ 9223372036854775807 then ((spec_l06Told.f k1 ((strOfNums x6_1) ++ x146002_1) x146003_1).bind fun bt165=>(some (bt165.1,bt165.2.1,bt165.2.2))) else (none)) else (if bt160.2 = 2 then (if (strOfNums x6_1).size + x146004_1.size ≤ 9223372036854775807 then ((spec_l06Told.f k1 ((strOfNums x6_1) ++ x146004_1) x146005_1).bind fun bt168=>(some (bt168.1,bt168.2.1,bt168.2.2))) else (none)) else (none)))) else (spec_l06Middle.l1 k1 x6_1 x7_1 x8_1 bt160.1 0 a0_0 a0_1 x146000_1 x146001_1 x146002_1 x146003_1 x146004_1 x146005_1))) = some (r1,r2,r3):=by rw [if_neg (show ¬ (false = true) by decide)] at H;exact H
     clear H
     have H:=H1
     clear H1
     replace H:=Option.bind_eq_some_iff.mp H
     obtain ⟨⟨t160,t161⟩,A280,H⟩:=H
     replace H:(if t161 ≥ 0 then (if t161 = 0 then (if (strOfNums x6_1).size + x146000_1.size ≤ 9223372036854775807 then ((spec_l06Told.f k1 ((strOfNums x6_1) ++ x146000_1) x146001_1).bind fun bt162=>(some (bt162.1,bt162.2.1,bt162.2.2))) else (none)) else (if t161 = 1 then (if (strOfNums x6_1).size + x146002_1.size ≤ 9223372036854775807 then ((spec_l06Told.f k1 ((strOfNums x6_1) ++ x146002_1) x146003_1).bind fun bt165=>(some (bt165.1,bt165.2.1,bt165.2.2))) else (none)) else (if t161 = 2 then (if (strOfNums x6_1).size + x146004_1.size ≤ 9223372036854775807 then ((spec_l06Told.f k1 ((strOfNums x6_1) ++ x146004_1) x146005_1).bind fun bt168=>(some (bt168.1,bt168.2.1,bt168.2.2))) else (none)) else (none)))) else (spec_l06Middle.l1 k1 x6_1 x7_1 x8_1 t160 0 a0_0 a0_1 x146000_1 x146001_1 x146002_1 x146003_1 x146004_1 x146005_1)) = some (r1,r2,r3):=H;have A28:=aM A280
     clear A280
     by_cases c29:t161 ≥ 0
     ·rw [if_pos c29] at H
      have c29b0:decide (0 ≤ t161) = true:=decide_eq_true c29
      clear c29
      by_cases c30:t161 = 0
      ·subst c30
       have H1:(if (strOfNums x6_1).size + x146000_1.size ≤ 9223372036854775807 then ((spec_l06Told.f k1 ((strOfNums x6_1) ++ x146000_1) x146001_1).bind fun bt162=>(some (bt162.1,bt162.2.1,bt162.2.2))) else (none)) = some (r1,r2,r3):=by rw [if_pos rfl] at H;exact H
       clear H
       have H:=H1
       clear H1
       by_cases c31:(strOfNums x6_1).size + x146000_1.size ≤ 9223372036854775807
       ·rw [if_pos c31] at H
        have c31b0:=eq_true c31
        have c31b1:decide ((strOfNums x6_1).size + x146000_1.size ≤ 9223372036854775807) = true:=decide_eq_true c31
        try have c31b2:(9223372036854775807 < (strOfNums x6_1).size + x146000_1.size) = False:=eq_false (Nat.not_lt.2 c31)
        replace H:=Option.bind_eq_some_iff.mp H
        obtain ⟨⟨t162,t163,t164⟩,A320,H⟩:=H
        replace H:(some (t162,t163,t164)) = some (r1,r2,r3):=H;have A32:=aM A320
        clear A320
        simp only [Option.some.injEq,Prod.mk.injEq] at H
        obtain ⟨rfl,rfl,rfl⟩:=H
        have hnb33:=NB145_144.out
        have hnc33:=NB144_145.out
        have hnb34:=NB145_146.out
        have hnc34:=NB146_145.out
        have⟨a0,a1,a2,a3,a4,a5,b0,b1,b2,b3,b4,b5⟩:=q6f BK145
        try go_wp2_with (first|((with_reducible refine gate_callee (f:=17) rfl ?_);refine goesL_ (some 24) rfl rfl Try.func17 (by kernel_rfl) rfl #[.agg #[.string x146000_1,.string x146001_1,.string x146002_1,.string x146003_1,.string x146004_1,.string x146005_1]] rfl (by (try simp only [sM,sC,sN]);first|done|rfl|(simp only [List.length_drop,List.length_take];rfl)) ?_;(with_reducible refine (spec_l06Same.calls k1 x146000_1 x146001_1 x146002_1 x146003_1 x146004_1 x146005_1 t153 t154 false _ A11.out).mono ?_);rintro e w36 ⟨rfl,hb⟩;refine ⟨_,rfl,?_⟩;replace HO_6:=ko HO_6 hb;replace HO_7:=ko HO_7 hb;replace BK144:=kb BK144 hb;replace BK145:=kb BK145 hb;replace BK146:=kb BK146 hb;replace HB:=aM (below_step (by first|exact bb HB|exact bg HB GE144|exact bg HB GE145|exact bg HB GE146) hb);(try clear hb))|((with_reducible refine gate_dst (N:=9) rfl ?_);refine box_event ?hg (N:=9) ?hd (cs:=#[.string ⟨#[]⟩,.string ⟨#[]⟩]) (t:=27) ?hr ?_;(case hd=>rfl);(case hg=>rfl);(case hr=>first|(go_simp;done)|(go_simp;rfl));intro gb156 hg w37 hbox hb;have BK156:=aM (hbox);have GW156:=aM ((by rw [hg];exact (below_size (by first|exact bb HB|exact bg HB GE144|exact bg HB GE145|exact bg HB GE146)):w.heap.size ≤ gb156));have GE156:=aM ((by rw [hg];exact (below_size (by first|exact bb HB|exact bg HB GE144|exact bg HB GE145|exact bg HB GE146)):w.heap.size ≤ gb156));have NB144_156:=nl hg BK144;have NB156_144:=nr hg BK144;have NB145_156:=nl hg BK145;have NB156_145:=nr hg BK145;have NB146_156:=nl hg BK146;have NB156_146:=nr hg BK146;replace HO_6:=ko HO_6 hb;replace HO_7:=ko HO_7 hb;replace BK144:=kb BK144 hb;replace BK145:=kb BK145 hb;replace BK146:=kb BK146 hb;replace HB:=aM (below_step (by first|exact bb HB|exact bg HB GE144|exact bg HB GE145|exact bg HB GE146) hb);clear hb hbox hg;have hnb38:=NB156_144.out;have hnc38:=NB144_156.out;have hnb39:=NB156_145.out;have hnc39:=NB145_156.out;have hnb40:=NB156_146.out;have hnc40:=NB146_156.out;have⟨a0,a1,b0,b1⟩:=q2f BK156;have⟨a0,a1,a2,a3,a4,a5,b0,b1,b2,b3,b4,b5⟩:=q6f BK145)|((with_reducible refine gate_callee (f:=19) rfl ?_);refine goesL_ (some 40) rfl rfl Try.func19 (by kernel_rfl) rfl #[.agg #[.string x146000_1,.string x146001_1,.string x146002_1,.string x146003_1,.string x146004_1,.string x146005_1]] rfl (by (try simp only [sM,sC,sN]);first|done|rfl|(simp only [List.length_drop,List.length_take];rfl)) ?_;(with_reducible refine (spec_l06Letters.calls x146000_1 x146001_1 x146002_1 x146003_1 x146004_1 x146005_1 t160 0 _ A28.out).mono ?_);rintro e w43 ⟨rfl,hb⟩;refine ⟨_,rfl,?_⟩;replace HO_6:=aM (Kd.R_below (by (with_reducible repeat (first|apply rA|apply rN|apply rD));exact (Kd.R_mono (Kd.R_far (p:=⟨gb156,1,none⟩) (Kd.R_far (p:=⟨gb156,0,none⟩) (Kd.R_types HO_6.out BK156.out (by decide)) (fun _ hk=>hk.2) (.string t153)) (fun _ hk=>hk.2) (.string t154)) (fun _ h_=>h_.1))) hb);replace HO_7:=aM (Kd.R_below (by (with_reducible repeat (first|apply rA|apply rN|apply rD));exact (Kd.R_mono (Kd.R_far (p:=⟨gb156,1,none⟩) (Kd.R_far (p:=⟨gb156,0,none⟩) (Kd.R_types HO_7.out BK156.out (by decide)) (fun _ hk=>hk.2) (.string t153)) (fun _ hk=>hk.2) (.string t154)) (fun _ h_=>h_.1))) hb);replace BK144:=kf BK144 NB144_156 hb;replace BK145:=kf BK145 NB145_156 hb;replace BK146:=kf BK146 NB146_156 hb;replace BK156:=aM (blk_below (g:=gb156) (o:=.cells #[.string t153,.string t154] 27 (0,0)) (by (with_reducible repeat (first|apply yN|apply yD|apply yA));refine blk_put (cs:=#[.string t153,.string ⟨#[]⟩]) ?_ 1 _ rfl;(with_reducible repeat (first|apply yN|apply yD|apply yA));refine blk_put (cs:=#[.string ⟨#[]⟩,.string ⟨#[]⟩]) ?_ 0 _ rfl;(with_reducible repeat (first|apply yN|apply yD|apply yA));exact BK156.out) hb);replace HB:=aM (below_step (by first|exact bb HB|exact bg HB GE144|exact bg HB GE145|exact bg HB GE146|exact bg HB GE156) hb);(try clear hb)))
        replace HO_6:=aM (rD HO_6.out);replace HO_7:=aM (rD HO_7.out);replace BK144:=aM (yD BK144.out);replace BK145:=aM (yD BK145.out);replace BK146:=aM (yD BK146.out);replace BK156:=aM (yD BK156.out);replace HB:=aM (zD HB.out)
        have hcv45:=own_string (P:=Try.prog) Try.underlying42 Try.underlying5 Try.underlying9 (Kd.own_of_R HO_6.out)
        refine start_ (n:=16) (S:=fun w'=>w'.cell? ⟨gb145,0,none⟩ = some (.string x146000_1) ∧ w'.cell? ⟨gb145,1,none⟩ = some (.string x146001_1) ∧ w'.cell? ⟨gb145,2,none⟩ = some (.string x146002_1) ∧ w'.cell? ⟨gb145,3,none⟩ = some (.string x146003_1) ∧ w'.cell? ⟨gb145,4,none⟩ = some (.string x146004_1) ∧ w'.cell? ⟨gb145,5,none⟩ = some (.string x146005_1) ∧ (convert 42 9 u6).run Try.prog w' = .ok (.string (strOfNums x6_1)) w') (ds:=[14]) #[fF,fF,fF,fF,fF,fF,fF,fF,fF,fF,fF,fF,fF,fF,fF,fF] (by kernel_rfl) rfl rfl ⟨(blk_cell BK145.out 0).trans rfl,(blk_cell BK145.out 1).trans rfl,(blk_cell BK145.out 2).trans rfl,(blk_cell BK145.out 3).trans rfl,(blk_cell BK145.out 4).trans rfl,(blk_cell BK145.out 5).trans rfl,hcv45⟩ (fun hHeld=>?_);refine with_tabW spec_l06Middle.tab10 spec_l06Middle.bits10 (fun HT_ HW_=>?_)
        generalize w43.drew = w44 at HO_6 HO_7 BK144 BK145 BK146 BK156 HB hHeld ⊢
        refine pure_ (i:=0) (N:=some 45) (v:=?_) (a':=?_) #[tT,fF,fF,fF,fF,fF,fF,fF,fF,fF,fF,fF,fF,fF,fF,fF] rfl rfl (any_of HT_.out (by kernel_rfl)) (fun _ _ _ h=>h) (Or.inl ⟨by rfl,?_⟩) ?_ ?_
        rotate_left
        ·intro w'
         go_simp
         with_reducible rfl
        rotate_left
        ·simp only [Act.put,sI,sZ,sS,i64_w,i32_w]
         rfl
        refine take_ (i:=1) (N:=some 46) (v:=?_) (a':=?_) #[tT,tT,fF,fF,fF,fF,fF,fF,fF,fF,fF,fF,fF,fF,fF,fF] rfl rfl (take_ofW HT_.out HW_.out (by kernel_rfl)) (fun _ _ _ h=>h) (Or.inl ⟨by rfl,?_⟩) hHeld ?_ ?_
        rotate_left
        ·rintro w' ⟨s0,s1,s2,s3,s4,s5,s6⟩
         first|(go_simp;rw [s6];rfl)|(go_simp;with_reducible rfl)|(simp only [s6];rfl)
        rotate_left
        ·simp only [Act.put,sI,sZ,sS,i64_w,i32_w]
         rfl
        refine pure_ (i:=2) (N:=some 47) (v:=?_) (a':=?_) #[tT,tT,tT,fF,fF,fF,fF,fF,fF,fF,fF,fF,fF,fF,fF,fF] rfl rfl (any_of HT_.out (by kernel_rfl)) (fun _ _ _ h=>h) (Or.inl ⟨by rfl,?_⟩) ?_ ?_
        rotate_left
        ·intro w'
         go_simp
         with_reducible rfl
        rotate_left
        ·simp only [Act.put,sI,sZ,sS,i64_w,i32_w]
         rfl
        refine pure_ (i:=3) (N:=some 48) (v:=?_) (a':=?_) #[tT,tT,tT,tT,fF,fF,fF,fF,fF,fF,fF,fF,fF,fF,fF,fF] rfl rfl (any_of HT_.out (by kernel_rfl)) (fun _ _ _ h=>h) (Or.inl ⟨by rfl,?_⟩) ?_ ?_
        rotate_left
        ·intro w'
         go_simp
         with_reducible rfl
        rotate_left
        ·simp only [Act.put,sI,sZ,sS,i64_w,i32_w]
         rfl
        refine pure_ (i:=4) (N:=some 49) (v:=?_) (a':=?_) #[tT,tT,tT,tT,tT,fF,fF,fF,fF,fF,fF,fF,fF,fF,fF,fF] rfl rfl (any_of HT_.out (by kernel_rfl)) (fun _ _ _ h=>h) (Or.inl ⟨by rfl,?_⟩) ?_ ?_
        rotate_left
        ·intro w'
         go_simp
         with_reducible rfl
        rotate_left
        ·simp only [Act.put,sI,sZ,sS,i64_w,i32_w]
         rfl
        refine pure_ (i:=7) (N:=some 52) (v:=?_) (a':=?_) #[tT,tT,tT,tT,tT,fF,fF,tT,fF,fF,fF,fF,fF,fF,fF,fF] rfl rfl (any_of HT_.out (by kernel_rfl)) (fun _ _ _ h=>h) (Or.inl ⟨by rfl,?_⟩) ?_ ?_
        rotate_left
        ·intro w'
         go_simp
         with_reducible rfl
        rotate_left
        ·simp only [Act.put,sI,sZ,sS,i64_w,i32_w]
         rfl
        refine pure_ (i:=8) (N:=some 53) (v:=?_) (a':=?_) #[tT,tT,tT,tT,tT,fF,fF,tT,tT,fF,fF,fF,fF,fF,fF,fF] rfl rfl (any_of HT_.out (by kernel_rfl)) (fun _ _ _ h=>h) (Or.inl ⟨by rfl,?_⟩) ?_ ?_
        rotate_left
        ·intro w'
         go_simp
         with_reducible rfl
        rotate_left
        ·simp only [Act.put,sI,sZ,sS,i64_w,i32_w]
         rfl
        refine pure_ (i:=9) (N:=some 54) (v:=?_) (a':=?_) #[tT,tT,tT,tT,tT,fF,fF,tT,tT,tT,fF,fF,fF,fF,fF,fF] rfl rfl (any_of HT_.out (by kernel_rfl)) (fun _ _ _ h=>h) (Or.inl ⟨by rfl,?_⟩) ?_ ?_
        rotate_left
        ·intro w'
         go_simp
         with_reducible rfl
        rotate_left
        ·simp only [Act.put,sI,sZ,sS,i64_w,i32_w]
         rfl
        refine take_ (i:=5) (N:=some 50) (v:=?_) (a':=?_) #[tT,tT,tT,tT,tT,tT,fF,tT,tT,tT,fF,fF,fF,fF,fF,fF] rfl rfl (take_ofW HT_.out HW_.out (by kernel_rfl)) (fun _ _ _ h=>h) (Or.inl ⟨by rfl,?_⟩) hHeld ?_ ?_
        rotate_left
        ·rintro w' ⟨s0,s1,s2,s3,s4,s5,s6⟩
         go_simp
         with_reducible rfl
        rotate_left
        ·simp only [Act.put,sI,sZ,sS,i64_w,i32_w]
         rfl
        refine pure_ (i:=6) (N:=some 51) (v:=?_) (a':=?_) #[tT,tT,tT,tT,tT,tT,tT,tT,tT,tT,fF,fF,fF,fF,fF,fF] rfl rfl (any_of HT_.out (by kernel_rfl)) (fun _ _ _ h=>h) (Or.inl ⟨by rfl,?_⟩) ?_ ?_
        rotate_left
        ·intro w'
         go_simp
         with_reducible rfl
        rotate_left
        ·simp only [Act.put,sI,sZ,sS,i64_w,i32_w]
         rfl
        refine take_ (i:=10) (N:=some 55) (v:=?_) (a':=?_) #[tT,tT,tT,tT,tT,tT,tT,tT,tT,tT,tT,fF,fF,fF,fF,fF] rfl rfl (take_ofW HT_.out HW_.out (by kernel_rfl)) (fun _ _ _ h=>h) (Or.inl ⟨by rfl,?_⟩) hHeld ?_ ?_
        rotate_left
        ·rintro w' ⟨s0,s1,s2,s3,s4,s5,s6⟩
         go_simp
         with_reducible rfl
        rotate_left
        ·simp only [Act.put,sI,sZ,sS,i64_w,i32_w]
         rfl
        refine one_ (i:=11) (N:=some 56) #[tT,tT,tT,tT,tT,tT,tT,tT,tT,tT,tT,tT,fF,fF,fF,fF] rfl rfl (one_of HT_.out (by kernel_rfl)) (by decide) (fun K hK=>?_)
        refine goes_ Try.func18 (by kernel_rfl) rfl #[.string ((strOfNums x6_1) ++ x146000_1),.string x146001_1] (by rfl) rfl rfl (by (try simp only [sM,sC,sN]);first|done|rfl|(simp only [List.length_drop,List.length_take];rfl)) ?_
        with_reducible refine (spec_l06Told.calls k1 ((strOfNums x6_1) ++ x146000_1) x146001_1 t162 t163 t164 _ A32.out).mono ?_
        rintro e w46 ⟨rfl,hb⟩
        refine ⟨_,rfl,?_⟩
        replace HO_6:=ko HO_6 hb;replace HO_7:=ko HO_7 hb;replace BK144:=kb BK144 hb;replace BK145:=kb BK145 hb;replace BK146:=kb BK146 hb;replace BK156:=kb BK156 hb;replace HB:=aM (below_step (by first|exact bb HB|exact bg HB GE144|exact bg HB GE145|exact bg HB GE146|exact bg HB GE156) hb);(try clear hb)
        refine hK.out _ _ ⟨(blk_cell BK145.out 0).trans rfl,(blk_cell BK145.out 1).trans rfl,(blk_cell BK145.out 2).trans rfl,(blk_cell BK145.out 3).trans rfl,(blk_cell BK145.out 4).trans rfl,(blk_cell BK145.out 5).trans rfl,own_string (P:=Try.prog) Try.underlying42 Try.underlying5 Try.underlying9 (Kd.own_of_R HO_6.out)⟩ (fun hHeld=>?_)
        clear hK K
        refine norm_ (a':=?_) ?_ ?_
        rotate_left
        ·show Act.put _ (some 56) _ = _
         simp only [Act.put,sI,sZ,sS,i64_w,i32_w]
         rfl
        refine pure_ (i:=12) (N:=some 57) (v:=?_) (a':=?_) #[tT,tT,tT,tT,tT,tT,tT,tT,tT,tT,tT,tT,tT,fF,fF,fF] rfl rfl (any_of HT_.out (by kernel_rfl)) (fun _ _ _ h=>h) (Or.inl ⟨by rfl,?_⟩) ?_ ?_
        rotate_left
        ·intro w'
         go_simp
         with_reducible rfl
        rotate_left
        ·simp only [Act.put,sI,sZ,sS,i64_w,i32_w]
         rfl
        refine pure_ (i:=13) (N:=some 58) (v:=?_) (a':=?_) #[tT,tT,tT,tT,tT,tT,tT,tT,tT,tT,tT,tT,tT,tT,fF,fF] rfl rfl (any_of HT_.out (by kernel_rfl)) (fun _ _ _ h=>h) (Or.inl ⟨by rfl,?_⟩) ?_ ?_
        rotate_left
        ·intro w'
         go_simp
         with_reducible rfl
        rotate_left
        ·simp only [Act.put,sI,sZ,sS,i64_w,i32_w]
         rfl
        refine last_ (i:=14) (N:=none) #[tT,tT,tT,tT,tT,tT,tT,tT,tT,tT,tT,tT,tT,tT,tT,fF] rfl rfl (one_of HT_.out (by kernel_rfl)) (by decide) (fun K hK=>?_)
        have hs47:w46.cell? ⟨gb146,0,none⟩ = some (.string x147000_1):=(blk_cell BK146.out 0).trans rfl
        have hfs47:=blk_frozen BK146.out 0
        have hns47_0:=NB144_146.out
        have hns47_1:=NB145_146.out
        have hns47_3:=NB156_146.out
        have hms47_0:=NB146_144.out
        have hms47_1:=NB146_145.out
        have hms47_3:=NB146_156.out
        have hs48:w46.cell? ⟨gb146,1,none⟩ = some (.string x147001_1):=(blk_cell BK146.out 1).trans rfl
        have hfs48:=blk_frozen BK146.out 1
        have hns48_0:=NB144_146.out
        have hns48_1:=NB145_146.out
        have hns48_3:=NB156_146.out
        have hms48_0:=NB146_144.out
        have hms48_1:=NB146_145.out
        have hms48_3:=NB146_156.out
        refine skip_ (w1:=?_) (by rfl) rfl ?_ ?_
        rotate_left
        ·go_simp
         rfl
        refine hK.out _ _ ?_
        clear hK K
        refine pure_ (i:=15) (N:=some 5) (v:=?_) (a':=?_) #[tT,tT,tT,tT,tT,tT,tT,tT,tT,tT,tT,tT,tT,tT,tT,tT] rfl rfl (any_of HT_.out (by kernel_rfl)) (fun _ _ _ h=>h) (Or.inl ⟨by rfl,?_⟩) ?_ ?_
        rotate_left
        ·intro w'
         go_simp
         with_reducible rfl
        rotate_left
        ·simp only [Act.put,sI,sZ,sS,i64_w,i32_w]
         rfl
        refine done_ (done_of HT_.out (by kernel_rfl)) ?_
        try go_wp2
        refine bodyPost_ret (results_ct rfl _ _ gb146 27 #[.string t162,.string t163] (0,0) _ rfl (by (with_reducible repeat (first|apply yN|apply yD|apply yA));refine blk_put (cs:=#[.string t162,.string x147001_1]) ?_ 1 _ rfl;(with_reducible repeat (first|apply yN|apply yD|apply yA));refine blk_put (cs:=#[.string x147000_1,.string x147001_1]) ?_ 0 _ rfl;(with_reducible repeat (first|apply yN|apply yD|apply yA));exact BK146.out) Try.underlying27 rfl (by kernel_rfl)) rfl ?_
        exact ⟨by first|rfl|(simp [errW_none,errW_some] <;> rfl)|(simp [*,errW_none,errW_some] <;> rfl),by first|exact bb HB|exact bg HB GE144|exact bg HB GE145|exact bg HB GE146|exact bg HB GE156⟩
       ·rw [if_neg c31] at H
        exact absurd H (by simp)
      ·rw [if_neg c30] at H
       by_cases c49:t161 = 1
       ·subst c49
        have H1:(if (strOfNums x6_1).size + x146002_1.size ≤ 9223372036854775807 then ((spec_l06Told.f k1 ((strOfNums x6_1) ++ x146002_1) x146003_1).bind fun bt165=>(some (bt165.1,bt165.2.1,bt165.2.2))) else (none)) = some (r1,r2,r3):=by rw [if_pos rfl] at H;exact H
        clear H
        have H:=H1
        clear H1
        by_cases c50:(strOfNums x6_1).size + x146002_1.size ≤ 9223372036854775807
        ·rw [if_pos c50] at H
         have c50b0:=eq_true c50
         have c50b1:decide ((strOfNums x6_1).size + x146002_1.size ≤ 9223372036854775807) = true:=decide_eq_true c50
         try have c50b2:(9223372036854775807 < (strOfNums x6_1).size + x146002_1.size) = False:=eq_false (Nat.not_lt.2 c50)
         replace H:=Option.bind_eq_some_iff.mp H
         obtain ⟨⟨t165,t166,t167⟩,A510,H⟩:=H
         replace H:(some (t165,t166,t167)) = some (r1,r2,r3):=H;have A51:=aM A510
         clear A510
         simp only [Option.some.injEq,Prod.mk.injEq] at H
         obtain ⟨rfl,rfl,rfl⟩:=H
         have hnb52:=NB145_144.out
         have hnc52:=NB144_145.out
         have hnb53:=NB145_146.out
         have hnc53:=NB146_145.out
         have⟨a0,a1,a2,a3,a4,a5,b0,b1,b2,b3,b4,b5⟩:=q6f BK145
         try go_wp2_with (first|((with_reducible refine gate_callee (f:=17) rfl ?_);refine goesL_ (some 24) rfl rfl Try.func17 (by kernel_rfl) rfl #[.agg #[.string x146000_1,.string x146001_1,.string x146002_1,.string x146003_1,.string x146004_1,.string x146005_1]] rfl (by (try simp only [sM,sC,sN]);first|done|rfl|(simp only [List.length_drop,List.length_take];rfl)) ?_;(with_reducible refine (spec_l06Same.calls k1 x146000_1 x146001_1 x146002_1 x146003_1 x146004_1 x146005_1 t153 t154 false _ A11.out).mono ?_);rintro e w55 ⟨rfl,hb⟩;refine ⟨_,rfl,?_⟩;replace HO_6:=ko HO_6 hb;replace HO_7:=ko HO_7 hb;replace BK144:=kb BK144 hb;replace BK145:=kb BK145 hb;replace BK146:=kb BK146 hb;replace HB:=aM (below_step (by first|exact bb HB|exact bg HB GE144|exact bg HB GE145|exact bg HB GE146) hb);(try clear hb))|((with_reducible refine gate_dst (N:=9) rfl ?_);refine box_event ?hg (N:=9) ?hd (cs:=#[.string ⟨#[]⟩,.string ⟨#[]⟩]) (t:=27) ?hr ?_;(case hd=>rfl);(case hg=>rfl);(case hr=>first|(go_simp;done)|(go_simp;rfl));intro gb156 hg w56 hbox hb;have BK156:=aM (hbox);have GW156:=aM ((by rw [hg];exact (below_size (by first|exact bb HB|exact bg HB GE144|exact bg HB GE145|exact bg HB GE146)):w.heap.size ≤ gb156));have GE156:=aM ((by rw [hg];exact (below_size (by first|exact bb HB|exact bg HB GE144|exact bg HB GE145|exact bg HB GE146)):w.heap.size ≤ gb156));have NB144_156:=nl hg BK144;have NB156_144:=nr hg BK144;have NB145_156:=nl hg BK145;have NB156_145:=nr hg BK145;have NB146_156:=nl hg BK146;have NB156_146:=nr hg BK146;replace HO_6:=ko HO_6 hb;replace HO_7:=ko HO_7 hb;replace BK144:=kb BK144 hb;replace BK145:=kb BK145 hb;replace BK146:=kb BK146 hb;replace HB:=aM (below_step (by first|exact bb HB|exact bg HB GE144|exact bg HB GE145|exact bg HB GE146) hb);clear hb hbox hg;have hnb57:=NB156_144.out;have hnc57:=NB144_156.out;have hnb58:=NB156_145.out;have hnc58:=NB145_156.out;have hnb59:=NB156_146.out;have hnc59:=NB146_156.out;have⟨a0,a1,b0,b1⟩:=q2f BK156;have⟨a0,a1,a2,a3,a4,a5,b0,b1,b2,b3,b4,b5⟩:=q6f BK145)|((with_reducible refine gate_callee (f:=19) rfl ?_);refine goesL_ (some 40) rfl rfl Try.func19 (by kernel_rfl) rfl #[.agg #[.string x146000_1,.string x146001_1,.string x146002_1,.string x146003_1,.string x146004_1,.string x146005_1]] rfl (by (try simp only [sM,sC,sN]);first|done|rfl|(simp only [List.length_drop,List.length_take];rfl)) ?_;(with_reducible refine (spec_l06Letters.calls x146000_1 x146001_1 x146002_1 x146003_1 x146004_1 x146005_1 t160 1 _ A28.out).mono ?_);rintro e w62 ⟨rfl,hb⟩;refine ⟨_,rfl,?_⟩;replace HO_6:=aM (Kd.R_below (by (with_reducible repeat (first|apply rA|apply rN|apply rD));exact (Kd.R_mono (Kd.R_far (p:=⟨gb156,1,none⟩) (Kd.R_far (p:=⟨gb156,0,none⟩) (Kd.R_types HO_6.out BK156.out (by decide)) (fun _ hk=>hk.2) (.string t153)) (fun _ hk=>hk.2) (.string t154)) (fun _ h_=>h_.1))) hb);replace HO_7:=aM (Kd.R_below (by (with_reducible repeat (first|apply rA|apply rN|apply rD));exact (Kd.R_mono (Kd.R_far (p:=⟨gb156,1,none⟩) (Kd.R_far (p:=⟨gb156,0,none⟩) (Kd.R_types HO_7.out BK156.out (by decide)) (fun _ hk=>hk.2) (.string t153)) (fun _ hk=>hk.2) (.string t154)) (fun _ h_=>h_.1))) hb);replace BK144:=kf BK144 NB144_156 hb;replace BK145:=kf BK145 NB145_156 hb;replace BK146:=kf BK146 NB146_156 hb;replace BK156:=aM (blk_below (g:=gb156) (o:=.cells #[.string t153,.string t154] 27 (0,0)) (by (with_reducible repeat (first|apply yN|apply yD|apply yA));refine blk_put (cs:=#[.string t153,.string ⟨#[]⟩]) ?_ 1 _ rfl;(with_reducible repeat (first|apply yN|apply yD|apply yA));refine blk_put (cs:=#[.string ⟨#[]⟩,.string ⟨#[]⟩]) ?_ 0 _ rfl;(with_reducible repeat (first|apply yN|apply yD|apply yA));exact BK156.out) hb);replace HB:=aM (below_step (by first|exact bb HB|exact bg HB GE144|exact bg HB GE145|exact bg HB GE146|exact bg HB GE156) hb);(try clear hb)))
         replace HO_6:=aM (rD HO_6.out);replace HO_7:=aM (rD HO_7.out);replace BK144:=aM (yD BK144.out);replace BK145:=aM (yD BK145.out);replace BK146:=aM (yD BK146.out);replace BK156:=aM (yD BK156.out);replace HB:=aM (zD HB.out)
         have hcv64:=own_string (P:=Try.prog) Try.underlying42 Try.underlying5 Try.underlying9 (Kd.own_of_R HO_6.out)
         refine start_ (n:=16) (S:=fun w'=>w'.cell? ⟨gb145,0,none⟩ = some (.string x146000_1) ∧ w'.cell? ⟨gb145,1,none⟩ = some (.string x146001_1) ∧ w'.cell? ⟨gb145,2,none⟩ = some (.string x146002_1) ∧ w'.cell? ⟨gb145,3,none⟩ = some (.string x146003_1) ∧ w'.cell? ⟨gb145,4,none⟩ = some (.string x146004_1) ∧ w'.cell? ⟨gb145,5,none⟩ = some (.string x146005_1) ∧ (convert 42 9 u6).run Try.prog w' = .ok (.string (strOfNums x6_1)) w') (ds:=[14]) #[fF,fF,fF,fF,fF,fF,fF,fF,fF,fF,fF,fF,fF,fF,fF,fF] (by kernel_rfl) rfl rfl ⟨(blk_cell BK145.out 0).trans rfl,(blk_cell BK145.out 1).trans rfl,(blk_cell BK145.out 2).trans rfl,(blk_cell BK145.out 3).trans rfl,(blk_cell BK145.out 4).trans rfl,(blk_cell BK145.out 5).trans rfl,hcv64⟩ (fun hHeld=>?_);refine with_tabW spec_l06Middle.tab10 spec_l06Middle.bits10 (fun HT_ HW_=>?_)
         generalize w62.drew = w63 at HO_6 HO_7 BK144 BK145 BK146 BK156 HB hHeld ⊢
         refine pure_ (i:=0) (N:=some 45) (v:=?_) (a':=?_) #[tT,fF,fF,fF,fF,fF,fF,fF,fF,fF,fF,fF,fF,fF,fF,fF] rfl rfl (any_of HT_.out (by kernel_rfl)) (fun _ _ _ h=>h) (Or.inl ⟨by rfl,?_⟩) ?_ ?_
         rotate_left
         ·intro w'
          go_simp
          with_reducible rfl
         rotate_left
         ·simp only [Act.put,sI,sZ,sS,i64_w,i32_w]
          rfl
         refine take_ (i:=1) (N:=some 46) (v:=?_) (a':=?_) #[tT,tT,fF,fF,fF,fF,fF,fF,fF,fF,fF,fF,fF,fF,fF,fF] rfl rfl (take_ofW HT_.out HW_.out (by kernel_rfl)) (fun _ _ _ h=>h) (Or.inl ⟨by rfl,?_⟩) hHeld ?_ ?_
         rotate_left
         ·rintro w' ⟨s0,s1,s2,s3,s4,s5,s6⟩
          first|(go_simp;rw [s6];rfl)|(go_simp;with_reducible rfl)|(simp only [s6];rfl)
         rotate_left
         ·simp only [Act.put,sI,sZ,sS,i64_w,i32_w]
          rfl
         refine pure_ (i:=2) (N:=some 47) (v:=?_) (a':=?_) #[tT,tT,tT,fF,fF,fF,fF,fF,fF,fF,fF,fF,fF,fF,fF,fF] rfl rfl (any_of HT_.out (by kernel_rfl)) (fun _ _ _ h=>h) (Or.inl ⟨by rfl,?_⟩) ?_ ?_
         rotate_left
         ·intro w'
          go_simp
          with_reducible rfl
         rotate_left
         ·simp only [Act.put,sI,sZ,sS,i64_w,i32_w]
          rfl
         refine pure_ (i:=3) (N:=some 48) (v:=?_) (a':=?_) #[tT,tT,tT,tT,fF,fF,fF,fF,fF,fF,fF,fF,fF,fF,fF,fF] rfl rfl (any_of HT_.out (by kernel_rfl)) (fun _ _ _ h=>h) (Or.inl ⟨by rfl,?_⟩) ?_ ?_
         rotate_left
         ·intro w'
          go_simp
          with_reducible rfl
         rotate_left
         ·simp only [Act.put,sI,sZ,sS,i64_w,i32_w]
          rfl
         refine pure_ (i:=4) (N:=some 49) (v:=?_) (a':=?_) #[tT,tT,tT,tT,tT,fF,fF,fF,fF,fF,fF,fF,fF,fF,fF,fF] rfl rfl (any_of HT_.out (by kernel_rfl)) (fun _ _ _ h=>h) (Or.inl ⟨by rfl,?_⟩) ?_ ?_
         rotate_left
         ·intro w'
          go_simp
          with_reducible rfl
         rotate_left
         ·simp only [Act.put,sI,sZ,sS,i64_w,i32_w]
          rfl
         refine pure_ (i:=7) (N:=some 52) (v:=?_) (a':=?_) #[tT,tT,tT,tT,tT,fF,fF,tT,fF,fF,fF,fF,fF,fF,fF,fF] rfl rfl (any_of HT_.out (by kernel_rfl)) (fun _ _ _ h=>h) (Or.inl ⟨by rfl,?_⟩) ?_ ?_
         rotate_left
         ·intro w'
          go_simp
          with_reducible rfl
         rotate_left
         ·simp only [Act.put,sI,sZ,sS,i64_w,i32_w]
          rfl
         refine pure_ (i:=8) (N:=some 53) (v:=?_) (a':=?_) #[tT,tT,tT,tT,tT,fF,fF,tT,tT,fF,fF,fF,fF,fF,fF,fF] rfl rfl (any_of HT_.out (by kernel_rfl)) (fun _ _ _ h=>h) (Or.inl ⟨by rfl,?_⟩) ?_ ?_
         rotate_left
         ·intro w'
          go_simp
          with_reducible rfl
         rotate_left
         ·simp only [Act.put,sI,sZ,sS,i64_w,i32_w]
          rfl
         refine pure_ (i:=9) (N:=some 54) (v:=?_) (a':=?_) #[tT,tT,tT,tT,tT,fF,fF,tT,tT,tT,fF,fF,fF,fF,fF,fF] rfl rfl (any_of HT_.out (by kernel_rfl)) (fun _ _ _ h=>h) (Or.inl ⟨by rfl,?_⟩) ?_ ?_
         rotate_left
         ·intro w'
          go_simp
          with_reducible rfl
         rotate_left
         ·simp only [Act.put,sI,sZ,sS,i64_w,i32_w]
          rfl
         refine take_ (i:=5) (N:=some 50) (v:=?_) (a':=?_) #[tT,tT,tT,tT,tT,tT,fF,tT,tT,tT,fF,fF,fF,fF,fF,fF] rfl rfl (take_ofW HT_.out HW_.out (by kernel_rfl)) (fun _ _ _ h=>h) (Or.inl ⟨by rfl,?_⟩) hHeld ?_ ?_
         rotate_left
         ·rintro w' ⟨s0,s1,s2,s3,s4,s5,s6⟩
          go_simp
          with_reducible rfl
         rotate_left
         ·simp only [Act.put,sI,sZ,sS,i64_w,i32_w]
          rfl
         refine pure_ (i:=6) (N:=some 51) (v:=?_) (a':=?_) #[tT,tT,tT,tT,tT,tT,tT,tT,tT,tT,fF,fF,fF,fF,fF,fF] rfl rfl (any_of HT_.out (by kernel_rfl)) (fun _ _ _ h=>h) (Or.inl ⟨by rfl,?_⟩) ?_ ?_
         rotate_left
         ·intro w'
          go_simp
          with_reducible rfl
         rotate_left
         ·simp only [Act.put,sI,sZ,sS,i64_w,i32_w]
          rfl
         refine take_ (i:=10) (N:=some 55) (v:=?_) (a':=?_) #[tT,tT,tT,tT,tT,tT,tT,tT,tT,tT,tT,fF,fF,fF,fF,fF] rfl rfl (take_ofW HT_.out HW_.out (by kernel_rfl)) (fun _ _ _ h=>h) (Or.inl ⟨by rfl,?_⟩) hHeld ?_ ?_
         rotate_left
         ·rintro w' ⟨s0,s1,s2,s3,s4,s5,s6⟩
          go_simp
          with_reducible rfl
         rotate_left
         ·simp only [Act.put,sI,sZ,sS,i64_w,i32_w]
          rfl
         refine one_ (i:=11) (N:=some 56) #[tT,tT,tT,tT,tT,tT,tT,tT,tT,tT,tT,tT,fF,fF,fF,fF] rfl rfl (one_of HT_.out (by kernel_rfl)) (by decide) (fun K hK=>?_)
         refine goes_ Try.func18 (by kernel_rfl) rfl #[.string ((strOfNums x6_1) ++ x146002_1),.string x146003_1] (by rfl) rfl rfl (by (try simp only [sM,sC,sN]);first|done|rfl|(simp only [List.length_drop,List.length_take];rfl)) ?_
         with_reducible refine (spec_l06Told.calls k1 ((strOfNums x6_1) ++ x146002_1) x146003_1 t165 t166 t167 _ A51.out).mono ?_
         rintro e w65 ⟨rfl,hb⟩
         refine ⟨_,rfl,?_⟩
         replace HO_6:=ko HO_6 hb;replace HO_7:=ko HO_7 hb;replace BK144:=kb BK144 hb;replace BK145:=kb BK145 hb;replace BK146:=kb BK146 hb;replace BK156:=kb BK156 hb;replace HB:=aM (below_step (by first|exact bb HB|exact bg HB GE144|exact bg HB GE145|exact bg HB GE146|exact bg HB GE156) hb);(try clear hb)
         refine hK.out _ _ ⟨(blk_cell BK145.out 0).trans rfl,(blk_cell BK145.out 1).trans rfl,(blk_cell BK145.out 2).trans rfl,(blk_cell BK145.out 3).trans rfl,(blk_cell BK145.out 4).trans rfl,(blk_cell BK145.out 5).trans rfl,own_string (P:=Try.prog) Try.underlying42 Try.underlying5 Try.underlying9 (Kd.own_of_R HO_6.out)⟩ (fun hHeld=>?_)
         clear hK K
         refine norm_ (a':=?_) ?_ ?_
         rotate_left
         ·show Act.put _ (some 56) _ = _
          simp only [Act.put,sI,sZ,sS,i64_w,i32_w]
          rfl
         refine pure_ (i:=12) (N:=some 57) (v:=?_) (a':=?_) #[tT,tT,tT,tT,tT,tT,tT,tT,tT,tT,tT,tT,tT,fF,fF,fF] rfl rfl (any_of HT_.out (by kernel_rfl)) (fun _ _ _ h=>h) (Or.inl ⟨by rfl,?_⟩) ?_ ?_
         rotate_left
         ·intro w'
          go_simp
          with_reducible rfl
         rotate_left
         ·simp only [Act.put,sI,sZ,sS,i64_w,i32_w]
          rfl
         refine pure_ (i:=13) (N:=some 58) (v:=?_) (a':=?_) #[tT,tT,tT,tT,tT,tT,tT,tT,tT,tT,tT,tT,tT,tT,fF,fF] rfl rfl (any_of HT_.out (by kernel_rfl)) (fun _ _ _ h=>h) (Or.inl ⟨by rfl,?_⟩) ?_ ?_
         rotate_left
         ·intro w'
          go_simp
          with_reducible rfl
         rotate_left
         ·simp only [Act.put,sI,sZ,sS,i64_w,i32_w]
          rfl
         refine last_ (i:=14) (N:=none) #[tT,tT,tT,tT,tT,tT,tT,tT,tT,tT,tT,tT,tT,tT,tT,fF] rfl rfl (one_of HT_.out (by kernel_rfl)) (by decide) (fun K hK=>?_)
         have hs66:w65.cell? ⟨gb146,0,none⟩ = some (.string x147000_1):=(blk_cell BK146.out 0).trans rfl
         have hfs66:=blk_frozen BK146.out 0
         have hns66_0:=NB144_146.out
         have hns66_1:=NB145_146.out
         have hns66_3:=NB156_146.out
         have hms66_0:=NB146_144.out
         have hms66_1:=NB146_145.out
         have hms66_3:=NB146_156.out
         have hs67:w65.cell? ⟨gb146,1,none⟩ = some (.string x147001_1):=(blk_cell BK146.out 1).trans rfl
         have hfs67:=blk_frozen BK146.out 1
         have hns67_0:=NB144_146.out
         have hns67_1:=NB145_146.out
         have hns67_3:=NB156_146.out
         have hms67_0:=NB146_144.out
         have hms67_1:=NB146_145.out
         have hms67_3:=NB146_156.out
         refine skip_ (w1:=?_) (by rfl) rfl ?_ ?_
         rotate_left
         ·go_simp
          rfl
         refine hK.out _ _ ?_
         clear hK K
         refine pure_ (i:=15) (N:=some 5) (v:=?_) (a':=?_) #[tT,tT,tT,tT,tT,tT,tT,tT,tT,tT,tT,tT,tT,tT,tT,tT] rfl rfl (any_of HT_.out (by kernel_rfl)) (fun _ _ _ h=>h) (Or.inl ⟨by rfl,?_⟩) ?_ ?_
         rotate_left
         ·intro w'
          go_simp
          with_reducible rfl
         rotate_left
         ·simp only [Act.put,sI,sZ,sS,i64_w,i32_w]
          rfl
         refine done_ (done_of HT_.out (by kernel_rfl)) ?_
         try go_wp2
         refine bodyPost_ret (results_ct rfl _ _ gb146 27 #[.string t165,.string t166] (0,0) _ rfl (by (with_reducible repeat (first|apply yN|apply yD|apply yA));refine blk_put (cs:=#[.string t165,.string x147001_1]) ?_ 1 _ rfl;(with_reducible repeat (first|apply yN|apply yD|apply yA));refine blk_put (cs:=#[.string x147000_1,.string x147001_1]) ?_ 0 _ rfl;(with_reducible repeat (first|apply yN|apply yD|apply yA));exact BK146.out) Try.underlying27 rfl (by kernel_rfl)) rfl ?_
         exact ⟨by first|rfl|(simp [errW_none,errW_some] <;> rfl)|(simp [*,errW_none,errW_some] <;> rfl),by first|exact bb HB|exact bg HB GE144|exact bg HB GE145|exact bg HB GE146|exact bg HB GE156⟩
        ·rw [if_neg c50] at H
         exact absurd H (by simp)
       ·rw [if_neg c49] at H
        by_cases c68:t161 = 2
        ·subst c68
         have H1:(if (strOfNums x6_1).size + x146004_1.size ≤ 9223372036854775807 then ((spec_l06Told.f k1 ((strOfNums x6_1) ++ x146004_1) x146005_1).bind fun bt168=>(some (bt168.1,bt168.2.1,bt168.2.2))) else (none)) = some (r1,r2,r3):=by rw [if_pos rfl] at H;exact H
         clear H
         have H:=H1
         clear H1
         by_cases c69:(strOfNums x6_1).size + x146004_1.size ≤ 9223372036854775807
         ·rw [if_pos c69] at H
          have c69b0:=eq_true c69
          have c69b1:decide ((strOfNums x6_1).size + x146004_1.size ≤ 9223372036854775807) = true:=decide_eq_true c69
          try have c69b2:(9223372036854775807 < (strOfNums x6_1).size + x146004_1.size) = False:=eq_false (Nat.not_lt.2 c69)
          replace H:=Option.bind_eq_some_iff.mp H
          obtain ⟨⟨t168,t169,t170⟩,A700,H⟩:=H
          replace H:(some (t168,t169,t170)) = some (r1,r2,r3):=H;have A70:=aM A700
          clear A700
          simp only [Option.some.injEq,Prod.mk.injEq] at H
          obtain ⟨rfl,rfl,rfl⟩:=H
          have hnb71:=NB145_144.out
          have hnc71:=NB144_145.out
          have hnb72:=NB145_146.out
          have hnc72:=NB146_145.out
          have⟨a0,a1,a2,a3,a4,a5,b0,b1,b2,b3,b4,b5⟩:=q6f BK145
          try go_wp2_with (first|((with_reducible refine gate_callee (f:=17) rfl ?_);refine goesL_ (some 24) rfl rfl Try.func17 (by kernel_rfl) rfl #[.agg #[.string x146000_1,.string x146001_1,.string x146002_1,.string x146003_1,.string x146004_1,.string x146005_1]] rfl (by (try simp only [sM,sC,sN]);first|done|rfl|(simp only [List.length_drop,List.length_take];rfl)) ?_;(with_reducible refine (spec_l06Same.calls k1 x146000_1 x146001_1 x146002_1 x146003_1 x146004_1 x146005_1 t153 t154 false _ A11.out).mono ?_);rintro e w74 ⟨rfl,hb⟩;refine ⟨_,rfl,?_⟩;replace HO_6:=ko HO_6 hb;replace HO_7:=ko HO_7 hb;replace BK144:=kb BK144 hb;replace BK145:=kb BK145 hb;replace BK146:=kb BK146 hb;replace HB:=aM (below_step (by first|exact bb HB|exact bg HB GE144|exact bg HB GE145|exact bg HB GE146) hb);(try clear hb))|((with_reducible refine gate_dst (N:=9) rfl ?_);refine box_event ?hg (N:=9) ?hd (cs:=#[.string ⟨#[]⟩,.string ⟨#[]⟩]) (t:=27) ?hr ?_;(case hd=>rfl);(case hg=>rfl);(case hr=>first|(go_simp;done)|(go_simp;rfl));intro gb156 hg w75 hbox hb;have BK156:=aM (hbox);have GW156:=aM ((by rw [hg];exact (below_size (by first|exact bb HB|exact bg HB GE144|exact bg HB GE145|exact bg HB GE146)):w.heap.size ≤ gb156));have GE156:=aM ((by rw [hg];exact (below_size (by first|exact bb HB|exact bg HB GE144|exact bg HB GE145|exact bg HB GE146)):w.heap.size ≤ gb156));have NB144_156:=nl hg BK144;have NB156_144:=nr hg BK144;have NB145_156:=nl hg BK145;have NB156_145:=nr hg BK145;have NB146_156:=nl hg BK146;have NB156_146:=nr hg BK146;replace HO_6:=ko HO_6 hb;replace HO_7:=ko HO_7 hb;replace BK144:=kb BK144 hb;replace BK145:=kb BK145 hb;replace BK146:=kb BK146 hb;replace HB:=aM (below_step (by first|exact bb HB|exact bg HB GE144|exact bg HB GE145|exact bg HB GE146) hb);clear hb hbox hg;have hnb76:=NB156_144.out;have hnc76:=NB144_156.out;have hnb77:=NB156_145.out;have hnc77:=NB145_156.out;have hnb78:=NB156_146.out;have hnc78:=NB146_156.out;have⟨a0,a1,b0,b1⟩:=q2f BK156;have⟨a0,a1,a2,a3,a4,a5,b0,b1,b2,b3,b4,b5⟩:=q6f BK145)|((with_reducible refine gate_callee (f:=19) rfl ?_);refine goesL_ (some 40) rfl rfl Try.func19 (by kernel_rfl) rfl #[.agg #[.string x146000_1,.string x146001_1,.string x146002_1,.string x146003_1,.string x146004_1,.string x146005_1]] rfl (by (try simp only [sM,sC,sN]);first|done|rfl|(simp only [List.length_drop,List.length_take];rfl)) ?_;(with_reducible refine (spec_l06Letters.calls x146000_1 x146001_1 x146002_1 x146003_1 x146004_1 x146005_1 t160 2 _ A28.out).mono ?_);rintro e w81 ⟨rfl,hb⟩;refine ⟨_,rfl,?_⟩;replace HO_6:=aM (Kd.R_below (by (with_reducible repeat (first|apply rA|apply rN|apply rD));exact (Kd.R_mono (Kd.R_far (p:=⟨gb156,1,none⟩) (Kd.R_far (p:=⟨gb156,0,none⟩) (Kd.R_types HO_6.out BK156.out (by decide)) (fun _ hk=>hk.2) (.string t153)) (fun _ hk=>hk.2) (.string t154)) (fun _ h_=>h_.1))) hb);replace HO_7:=aM (Kd.R_below (by (with_reducible repeat (first|apply rA|apply rN|apply rD));exact (Kd.R_mono (Kd.R_far (p:=⟨gb156,1,none⟩) (Kd.R_far (p:=⟨gb156,0,none⟩) (Kd.R_types HO_7.out BK156.out (by decide)) (fun _ hk=>hk.2) (.string t153)) (fun _ hk=>hk.2) (.string t154)) (fun _ h_=>h_.1))) hb);replace BK144:=kf BK144 NB144_156 hb;replace BK145:=kf BK145 NB145_156 hb;replace BK146:=kf BK146 NB146_156 hb;replace BK156:=aM (blk_below (g:=gb156) (o:=.cells #[.string t153,.string t154] 27 (0,0)) (by (with_reducible repeat (first|apply yN|apply yD|apply yA));refine blk_put (cs:=#[.string t153,.string ⟨#[]⟩]) ?_ 1 _ rfl;(with_reducible repeat (first|apply yN|apply yD|apply yA));refine blk_put (cs:=#[.string ⟨#[]⟩,.string ⟨#[]⟩]) ?_ 0 _ rfl;(with_reducible repeat (first|apply yN|apply yD|apply yA));exact BK156.out) hb);replace HB:=aM (below_step (by first|exact bb HB|exact bg HB GE144|exact bg HB GE145|exact bg HB GE146|exact bg HB GE156) hb);(try clear hb)))
          replace HO_6:=aM (rD HO_6.out);replace HO_7:=aM (rD HO_7.out);replace BK144:=aM (yD BK144.out);replace BK145:=aM (yD BK145.out);replace BK146:=aM (yD BK146.out);replace BK156:=aM (yD BK156.out);replace HB:=aM (zD HB.out)
          have hcv83:=own_string (P:=Try.prog) Try.underlying42 Try.underlying5 Try.underlying9 (Kd.own_of_R HO_6.out)
          refine start_ (n:=16) (S:=fun w'=>w'.cell? ⟨gb145,0,none⟩ = some (.string x146000_1) ∧ w'.cell? ⟨gb145,1,none⟩ = some (.string x146001_1) ∧ w'.cell? ⟨gb145,2,none⟩ = some (.string x146002_1) ∧ w'.cell? ⟨gb145,3,none⟩ = some (.string x146003_1) ∧ w'.cell? ⟨gb145,4,none⟩ = some (.string x146004_1) ∧ w'.cell? ⟨gb145,5,none⟩ = some (.string x146005_1) ∧ (convert 42 9 u6).run Try.prog w' = .ok (.string (strOfNums x6_1)) w') (ds:=[14]) #[fF,fF,fF,fF,fF,fF,fF,fF,fF,fF,fF,fF,fF,fF,fF,fF] (by kernel_rfl) rfl rfl ⟨(blk_cell BK145.out 0).trans rfl,(blk_cell BK145.out 1).trans rfl,(blk_cell BK145.out 2).trans rfl,(blk_cell BK145.out 3).trans rfl,(blk_cell BK145.out 4).trans rfl,(blk_cell BK145.out 5).trans rfl,hcv83⟩ (fun hHeld=>?_);refine with_tabW spec_l06Middle.tab10 spec_l06Middle.bits10 (fun HT_ HW_=>?_)
          generalize w81.drew = w82 at HO_6 HO_7 BK144 BK145 BK146 BK156 HB hHeld ⊢
          refine pure_ (i:=0) (N:=some 45) (v:=?_) (a':=?_) #[tT,fF,fF,fF,fF,fF,fF,fF,fF,fF,fF,fF,fF,fF,fF,fF] rfl rfl (any_of HT_.out (by kernel_rfl)) (fun _ _ _ h=>h) (Or.inl ⟨by rfl,?_⟩) ?_ ?_
          rotate_left
          ·intro w'
           go_simp
           with_reducible rfl
          rotate_left
          ·simp only [Act.put,sI,sZ,sS,i64_w,i32_w]
           rfl
          refine take_ (i:=1) (N:=some 46) (v:=?_) (a':=?_) #[tT,tT,fF,fF,fF,fF,fF,fF,fF,fF,fF,fF,fF,fF,fF,fF] rfl rfl (take_ofW HT_.out HW_.out (by kernel_rfl)) (fun _ _ _ h=>h) (Or.inl ⟨by rfl,?_⟩) hHeld ?_ ?_
          rotate_left
          ·rintro w' ⟨s0,s1,s2,s3,s4,s5,s6⟩
           first|(go_simp;rw [s6];rfl)|(go_simp;with_reducible rfl)|(simp only [s6];rfl)
          rotate_left
          ·simp only [Act.put,sI,sZ,sS,i64_w,i32_w]
           rfl
          refine pure_ (i:=2) (N:=some 47) (v:=?_) (a':=?_) #[tT,tT,tT,fF,fF,fF,fF,fF,fF,fF,fF,fF,fF,fF,fF,fF] rfl rfl (any_of HT_.out (by kernel_rfl)) (fun _ _ _ h=>h) (Or.inl ⟨by rfl,?_⟩) ?_ ?_
          rotate_left
          ·intro w'
           go_simp
           with_reducible rfl
          rotate_left
          ·simp only [Act.put,sI,sZ,sS,i64_w,i32_w]
           rfl
          refine pure_ (i:=3) (N:=some 48) (v:=?_) (a':=?_) #[tT,tT,tT,tT,fF,fF,fF,fF,fF,fF,fF,fF,fF,fF,fF,fF] rfl rfl (any_of HT_.out (by kernel_rfl)) (fun _ _ _ h=>h) (Or.inl ⟨by rfl,?_⟩) ?_ ?_
          rotate_left
          ·intro w'
           go_simp
           with_reducible rfl
          rotate_left
          ·simp only [Act.put,sI,sZ,sS,i64_w,i32_w]
           rfl
          refine pure_ (i:=4) (N:=some 49) (v:=?_) (a':=?_) #[tT,tT,tT,tT,tT,fF,fF,fF,fF,fF,fF,fF,fF,fF,fF,fF] rfl rfl (any_of HT_.out (by kernel_rfl)) (fun _ _ _ h=>h) (Or.inl ⟨by rfl,?_⟩) ?_ ?_
          rotate_left
          ·intro w'
           go_simp
           with_reducible rfl
          rotate_left
          ·simp only [Act.put,sI,sZ,sS,i64_w,i32_w]
           rfl
          refine pure_ (i:=7) (N:=some 52) (v:=?_) (a':=?_) #[tT,tT,tT,tT,tT,fF,fF,tT,fF,fF,fF,fF,fF,fF,fF,fF] rfl rfl (any_of HT_.out (by kernel_rfl)) (fun _ _ _ h=>h) (Or.inl ⟨by rfl,?_⟩) ?_ ?_
          rotate_left
          ·intro w'
           go_simp
           with_reducible rfl
          rotate_left
          ·simp only [Act.put,sI,sZ,sS,i64_w,i32_w]
           rfl
          refine pure_ (i:=8) (N:=some 53) (v:=?_) (a':=?_) #[tT,tT,tT,tT,tT,fF,fF,tT,tT,fF,fF,fF,fF,fF,fF,fF] rfl rfl (any_of HT_.out (by kernel_rfl)) (fun _ _ _ h=>h) (Or.inl ⟨by rfl,?_⟩) ?_ ?_
          rotate_left
          ·intro w'
           go_simp
           with_reducible rfl
          rotate_left
          ·simp only [Act.put,sI,sZ,sS,i64_w,i32_w]
           rfl
          refine pure_ (i:=9) (N:=some 54) (v:=?_) (a':=?_) #[tT,tT,tT,tT,tT,fF,fF,tT,tT,tT,fF,fF,fF,fF,fF,fF] rfl rfl (any_of HT_.out (by kernel_rfl)) (fun _ _ _ h=>h) (Or.inl ⟨by rfl,?_⟩) ?_ ?_
          rotate_left
          ·intro w'
           go_simp
           with_reducible rfl
          rotate_left
          ·simp only [Act.put,sI,sZ,sS,i64_w,i32_w]
           rfl
          refine take_ (i:=5) (N:=some 50) (v:=?_) (a':=?_) #[tT,tT,tT,tT,tT,tT,fF,tT,tT,tT,fF,fF,fF,fF,fF,fF] rfl rfl (take_ofW HT_.out HW_.out (by kernel_rfl)) (fun _ _ _ h=>h) (Or.inl ⟨by rfl,?_⟩) hHeld ?_ ?_
          rotate_left
          ·rintro w' ⟨s0,s1,s2,s3,s4,s5,s6⟩
           go_simp
           with_reducible rfl
          rotate_left
          ·simp only [Act.put,sI,sZ,sS,i64_w,i32_w]
           rfl
          refine pure_ (i:=6) (N:=some 51) (v:=?_) (a':=?_) #[tT,tT,tT,tT,tT,tT,tT,tT,tT,tT,fF,fF,fF,fF,fF,fF] rfl rfl (any_of HT_.out (by kernel_rfl)) (fun _ _ _ h=>h) (Or.inl ⟨by rfl,?_⟩) ?_ ?_
          rotate_left
          ·intro w'
           go_simp
           with_reducible rfl
          rotate_left
          ·simp only [Act.put,sI,sZ,sS,i64_w,i32_w]
           rfl
          refine take_ (i:=10) (N:=some 55) (v:=?_) (a':=?_) #[tT,tT,tT,tT,tT,tT,tT,tT,tT,tT,tT,fF,fF,fF,fF,fF] rfl rfl (take_ofW HT_.out HW_.out (by kernel_rfl)) (fun _ _ _ h=>h) (Or.inl ⟨by rfl,?_⟩) hHeld ?_ ?_
          rotate_left
          ·rintro w' ⟨s0,s1,s2,s3,s4,s5,s6⟩
           go_simp
           with_reducible rfl
          rotate_left
          ·simp only [Act.put,sI,sZ,sS,i64_w,i32_w]
           rfl
          refine one_ (i:=11) (N:=some 56) #[tT,tT,tT,tT,tT,tT,tT,tT,tT,tT,tT,tT,fF,fF,fF,fF] rfl rfl (one_of HT_.out (by kernel_rfl)) (by decide) (fun K hK=>?_)
          refine goes_ Try.func18 (by kernel_rfl) rfl #[.string ((strOfNums x6_1) ++ x146004_1),.string x146005_1] (by rfl) rfl rfl (by (try simp only [sM,sC,sN]);first|done|rfl|(simp only [List.length_drop,List.length_take];rfl)) ?_
          with_reducible refine (spec_l06Told.calls k1 ((strOfNums x6_1) ++ x146004_1) x146005_1 t168 t169 t170 _ A70.out).mono ?_
          rintro e w84 ⟨rfl,hb⟩
          refine ⟨_,rfl,?_⟩
          replace HO_6:=ko HO_6 hb;replace HO_7:=ko HO_7 hb;replace BK144:=kb BK144 hb;replace BK145:=kb BK145 hb;replace BK146:=kb BK146 hb;replace BK156:=kb BK156 hb;replace HB:=aM (below_step (by first|exact bb HB|exact bg HB GE144|exact bg HB GE145|exact bg HB GE146|exact bg HB GE156) hb);(try clear hb)
          refine hK.out _ _ ⟨(blk_cell BK145.out 0).trans rfl,(blk_cell BK145.out 1).trans rfl,(blk_cell BK145.out 2).trans rfl,(blk_cell BK145.out 3).trans rfl,(blk_cell BK145.out 4).trans rfl,(blk_cell BK145.out 5).trans rfl,own_string (P:=Try.prog) Try.underlying42 Try.underlying5 Try.underlying9 (Kd.own_of_R HO_6.out)⟩ (fun hHeld=>?_)
          clear hK K
          refine norm_ (a':=?_) ?_ ?_
          rotate_left
          ·show Act.put _ (some 56) _ = _
           simp only [Act.put,sI,sZ,sS,i64_w,i32_w]
           rfl
          refine pure_ (i:=12) (N:=some 57) (v:=?_) (a':=?_) #[tT,tT,tT,tT,tT,tT,tT,tT,tT,tT,tT,tT,tT,fF,fF,fF] rfl rfl (any_of HT_.out (by kernel_rfl)) (fun _ _ _ h=>h) (Or.inl ⟨by rfl,?_⟩) ?_ ?_
          rotate_left
          ·intro w'
           go_simp
           with_reducible rfl
          rotate_left
          ·simp only [Act.put,sI,sZ,sS,i64_w,i32_w]
           rfl
          refine pure_ (i:=13) (N:=some 58) (v:=?_) (a':=?_) #[tT,tT,tT,tT,tT,tT,tT,tT,tT,tT,tT,tT,tT,tT,fF,fF] rfl rfl (any_of HT_.out (by kernel_rfl)) (fun _ _ _ h=>h) (Or.inl ⟨by rfl,?_⟩) ?_ ?_
          rotate_left
          ·intro w'
           go_simp
           with_reducible rfl
          rotate_left
          ·simp only [Act.put,sI,sZ,sS,i64_w,i32_w]
           rfl
          refine last_ (i:=14) (N:=none) #[tT,tT,tT,tT,tT,tT,tT,tT,tT,tT,tT,tT,tT,tT,tT,fF] rfl rfl (one_of HT_.out (by kernel_rfl)) (by decide) (fun K hK=>?_)
          have hs85:w84.cell? ⟨gb146,0,none⟩ = some (.string x147000_1):=(blk_cell BK146.out 0).trans rfl
          have hfs85:=blk_frozen BK146.out 0
          have hns85_0:=NB144_146.out
          have hns85_1:=NB145_146.out
          have hns85_3:=NB156_146.out
          have hms85_0:=NB146_144.out
          have hms85_1:=NB146_145.out
          have hms85_3:=NB146_156.out
          have hs86:w84.cell? ⟨gb146,1,none⟩ = some (.string x147001_1):=(blk_cell BK146.out 1).trans rfl
          have hfs86:=blk_frozen BK146.out 1
          have hns86_0:=NB144_146.out
          have hns86_1:=NB145_146.out
          have hns86_3:=NB156_146.out
          have hms86_0:=NB146_144.out
          have hms86_1:=NB146_145.out
          have hms86_3:=NB146_156.out
          refine skip_ (w1:=?_) (by rfl) rfl ?_ ?_
          rotate_left
          ·go_simp
           rfl
          refine hK.out _ _ ?_
          clear hK K
          refine pure_ (i:=15) (N:=some 5) (v:=?_) (a':=?_) #[tT,tT,tT,tT,tT,tT,tT,tT,tT,tT,tT,tT,tT,tT,tT,tT] rfl rfl (any_of HT_.out (by kernel_rfl)) (fun _ _ _ h=>h) (Or.inl ⟨by rfl,?_⟩) ?_ ?_
          rotate_left
          ·intro w'
           go_simp
           with_reducible rfl
          rotate_left
          ·simp only [Act.put,sI,sZ,sS,i64_w,i32_w]
           rfl
          refine done_ (done_of HT_.out (by kernel_rfl)) ?_
          try go_wp2
          refine bodyPost_ret (results_ct rfl _ _ gb146 27 #[.string t168,.string t169] (0,0) _ rfl (by (with_reducible repeat (first|apply yN|apply yD|apply yA));refine blk_put (cs:=#[.string t168,.string x147001_1]) ?_ 1 _ rfl;(with_reducible repeat (first|apply yN|apply yD|apply yA));refine blk_put (cs:=#[.string x147000_1,.string x147001_1]) ?_ 0 _ rfl;(with_reducible repeat (first|apply yN|apply yD|apply yA));exact BK146.out) Try.underlying27 rfl (by kernel_rfl)) rfl ?_
          exact ⟨by first|rfl|(simp [errW_none,errW_some] <;> rfl)|(simp [*,errW_none,errW_some] <;> rfl),by first|exact bb HB|exact bg HB GE144|exact bg HB GE145|exact bg HB GE146|exact bg HB GE156⟩
         ·rw [if_neg c69] at H
          exact absurd H (by simp)
        ·rw [if_neg c68] at H
         exact absurd H (by simp)
     ·rw [if_neg c29] at H
      have c29b0:decide (0 ≤ t161) = false:=decide_eq_false c29
      clear c29
      have H':=aM H
      clear H
      have hnb87:=NB145_144.out
      have hnc87:=NB144_145.out
      have hnb88:=NB145_146.out
      have hnc88:=NB146_145.out
      have⟨a0,a1,a2,a3,a4,a5,b0,b1,b2,b3,b4,b5⟩:=q6f BK145
      go_wp2_with (first|((with_reducible refine gate_callee (f:=17) rfl ?_);refine goesL_ (some 24) rfl rfl Try.func17 (by kernel_rfl) rfl #[.agg #[.string x146000_1,.string x146001_1,.string x146002_1,.string x146003_1,.string x146004_1,.string x146005_1]] rfl (by (try simp only [sM,sC,sN]);first|done|rfl|(simp only [List.length_drop,List.length_take];rfl)) ?_;(with_reducible refine (spec_l06Same.calls k1 x146000_1 x146001_1 x146002_1 x146003_1 x146004_1 x146005_1 t153 t154 false _ A11.out).mono ?_);rintro e w90 ⟨rfl,hb⟩;refine ⟨_,rfl,?_⟩;replace HO_6:=ko HO_6 hb;replace HO_7:=ko HO_7 hb;replace BK144:=kb BK144 hb;replace BK145:=kb BK145 hb;replace BK146:=kb BK146 hb;replace HB:=aM (below_step (by first|exact bb HB|exact bg HB GE144|exact bg HB GE145|exact bg HB GE146) hb);(try clear hb))|((with_reducible refine gate_dst (N:=9) rfl ?_);refine box_event ?hg (N:=9) ?hd (cs:=#[.string ⟨#[]⟩,.string ⟨#[]⟩]) (t:=27) ?hr ?_;(case hd=>rfl);(case hg=>rfl);(case hr=>first|(go_simp;done)|(go_simp;rfl));intro gb156 hg w91 hbox hb;have BK156:=aM (hbox);have GW156:=aM ((by rw [hg];exact (below_size (by first|exact bb HB|exact bg HB GE144|exact bg HB GE145|exact bg HB GE146)):w.heap.size ≤ gb156));have GE156:=aM ((by rw [hg];exact (below_size (by first|exact bb HB|exact bg HB GE144|exact bg HB GE145|exact bg HB GE146)):w.heap.size ≤ gb156));have NB144_156:=nl hg BK144;have NB156_144:=nr hg BK144;have NB145_156:=nl hg BK145;have NB156_145:=nr hg BK145;have NB146_156:=nl hg BK146;have NB156_146:=nr hg BK146;replace HO_6:=ko HO_6 hb;replace HO_7:=ko HO_7 hb;replace BK144:=kb BK144 hb;replace BK145:=kb BK145 hb;replace BK146:=kb BK146 hb;replace HB:=aM (below_step (by first|exact bb HB|exact bg HB GE144|exact bg HB GE145|exact bg HB GE146) hb);clear hb hbox hg;have hnb92:=NB156_144.out;have hnc92:=NB144_156.out;have hnb93:=NB156_145.out;have hnc93:=NB145_156.out;have hnb94:=NB156_146.out;have hnc94:=NB146_156.out;have⟨a0,a1,b0,b1⟩:=q2f BK156;have⟨a0,a1,a2,a3,a4,a5,b0,b1,b2,b3,b4,b5⟩:=q6f BK145)|((with_reducible refine gate_callee (f:=19) rfl ?_);refine goesL_ (some 40) rfl rfl Try.func19 (by kernel_rfl) rfl #[.agg #[.string x146000_1,.string x146001_1,.string x146002_1,.string x146003_1,.string x146004_1,.string x146005_1]] rfl (by (try simp only [sM,sC,sN]);first|done|rfl|(simp only [List.length_drop,List.length_take];rfl)) ?_;(with_reducible refine (spec_l06Letters.calls x146000_1 x146001_1 x146002_1 x146003_1 x146004_1 x146005_1 t160 t161 _ A28.out).mono ?_);rintro e w97 ⟨rfl,hb⟩;refine ⟨_,rfl,?_⟩;replace HO_6:=aM (Kd.R_below (by (with_reducible repeat (first|apply rA|apply rN|apply rD));exact (Kd.R_mono (Kd.R_far (p:=⟨gb156,1,none⟩) (Kd.R_far (p:=⟨gb156,0,none⟩) (Kd.R_types HO_6.out BK156.out (by decide)) (fun _ hk=>hk.2) (.string t153)) (fun _ hk=>hk.2) (.string t154)) (fun _ h_=>h_.1))) hb);replace HO_7:=aM (Kd.R_below (by (with_reducible repeat (first|apply rA|apply rN|apply rD));exact (Kd.R_mono (Kd.R_far (p:=⟨gb156,1,none⟩) (Kd.R_far (p:=⟨gb156,0,none⟩) (Kd.R_types HO_7.out BK156.out (by decide)) (fun _ hk=>hk.2) (.string t153)) (fun _ hk=>hk.2) (.string t154)) (fun _ h_=>h_.1))) hb);replace BK144:=kf BK144 NB144_156 hb;replace BK145:=kf BK145 NB145_156 hb;replace BK146:=kf BK146 NB146_156 hb;replace BK156:=aM (blk_below (g:=gb156) (o:=.cells #[.string t153,.string t154] 27 (0,0)) (by (with_reducible repeat (first|apply yN|apply yD|apply yA));refine blk_put (cs:=#[.string t153,.string ⟨#[]⟩]) ?_ 1 _ rfl;(with_reducible repeat (first|apply yN|apply yD|apply yA));refine blk_put (cs:=#[.string ⟨#[]⟩,.string ⟨#[]⟩]) ?_ 0 _ rfl;(with_reducible repeat (first|apply yN|apply yD|apply yA));exact BK156.out) hb);replace HB:=aM (below_step (by first|exact bb HB|exact bg HB GE144|exact bg HB GE145|exact bg HB GE146|exact bg HB GE156) hb);(try clear hb)))
      go_loopg [13] k1 (fun kq v13 w'=>∃ (x13_2:Int) (x147000_2:ByteArray) (x147001_2:ByteArray),v13 = .int .i64 x13_2 ∧ Aside0 (spec_l06Middle.l1 kq x6_1 x7_1 x8_1 t160 x13_2 a0_0 a0_1 x146000_1 x146001_1 x146002_1 x146003_1 x146004_1 x146005_1 = some (r1,r2,r3)) ∧ Aside0 (kq ≤ k1) ∧ Aside0 (Kd.R (Kd.int .u8) 5 w' w.heap.size (fun _=>True) u6 x6_1) ∧ Aside0 (Kd.R k36 36 w' w.heap.size (fun k_=>k_ ≠ gb145) u7 x7_1) ∧ Aside0 (w'.heap[gb144]? = some (.cells #[.string a0_0,.string a0_1] 27 (0,0))) ∧ Aside0 (w'.heap[gb145]? = some (.cells #[.string x146000_1,.string x146001_1,.string x146002_1,.string x146003_1,.string x146004_1,.string x146005_1] 36 (0,0))) ∧ Aside0 (w'.heap[gb146]? = some (.cells #[.string x147000_2,.string x147001_2] 27 (0,0))) ∧ Aside0 (w'.heap[gb156]? = some (.cells #[.string t153,.string t154] 27 (0,0))) ∧ Aside0 (Below w.heap.size w w'))
      case atStart=>exact ⟨(0),(x147000_1),(x147001_1),(by first|rfl|(simp;done)|(simp [*];done)),H',⟨Nat.le_refl _⟩,⟨rk HO_6⟩,⟨rk HO_7⟩,⟨bk BK144⟩,⟨bk BK145⟩,⟨bk BK146⟩,⟨bk BK156⟩,⟨by first|exact bb HB|exact bg HB GE144|exact bg HB GE145|exact bg HB GE146|exact bg HB GE156⟩⟩
      case round =>
       clear H'
       try clear c1
       try clear c2
       try clear p2
       try clear c3
       try clear c4
       try clear c5
       try clear c6
       try clear hcv6
       try clear c7
       try clear c8
       try clear hcv8
       try clear c9
       try clear c17
       try clear c18
       try clear c19
       try clear c29
       try clear c29b0
       try clear c30
       try clear c31
       try clear c49
       try clear c50
       try clear c50b0
       try clear c50b1
       try clear c50b2
       try clear c52
       try clear c53
       try clear c57
       try clear c58
       try clear c59
       try clear hcv64
       try clear c68
       try clear c69
       try clear c69b0
       try clear c69b1
       try clear c69b2
       try clear c71
       try clear c72
       try clear c76
       try clear c77
       try clear c78
       try clear hcv83
       try clear c87
       try clear c88
       try clear c92
       try clear c93
       try clear c94
       try clear hcz54_0
       try clear hcz54_1
       try clear hcz54_2
       try clear hcz54_3
       try clear hcz54_4
       try clear hcz54_5
       try clear hcz60_0
       try clear hcz60_1
       try clear hcz61_0
       try clear hcz61_1
       try clear hcz61_2
       try clear hcz61_3
       try clear hcz61_4
       try clear hcz61_5
       try clear hcz73_0
       try clear hcz73_1
       try clear hcz73_2
       try clear hcz73_3
       try clear hcz73_4
       try clear hcz73_5
       try clear hcz79_0
       try clear hcz79_1
       try clear hcz80_0
       try clear hcz80_1
       try clear hcz80_2
       try clear hcz80_3
       try clear hcz80_4
       try clear hcz80_5
       try clear hcz89_0
       try clear hcz89_1
       try clear hcz89_2
       try clear hcz89_3
       try clear hcz89_4
       try clear hcz89_5
       try clear hcz95_0
       try clear hcz95_1
       try clear hcz96_0
       try clear hcz96_1
       try clear hcz96_2
       try clear hcz96_3
       try clear hcz96_4
       try clear hcz96_5
       try clear hfz54_0
       try clear hfz54_1
       try clear hfz54_2
       try clear hfz54_3
       try clear hfz54_4
       try clear hfz54_5
       try clear hfz60_0
       try clear hfz60_1
       try clear hfz61_0
       try clear hfz61_1
       try clear hfz61_2
       try clear hfz61_3
       try clear hfz61_4
       try clear hfz61_5
       try clear hfz73_0
       try clear hfz73_1
       try clear hfz73_2
       try clear hfz73_3
       try clear hfz73_4
       try clear hfz73_5
       try clear hfz79_0
       try clear hfz79_1
       try clear hfz80_0
       try clear hfz80_1
       try clear hfz80_2
       try clear hfz80_3
       try clear hfz80_4
       try clear hfz80_5
       try clear hfz89_0
       try clear hfz89_1
       try clear hfz89_2
       try clear hfz89_3
       try clear hfz89_4
       try clear hfz89_5
       try clear hfz95_0
       try clear hfz95_1
       try clear hfz96_0
       try clear hfz96_1
       try clear hfz96_2
       try clear hfz96_3
       try clear hfz96_4
       try clear hfz96_5
       obtain ⟨x13_2,x147000_2,x147001_2,rfl,HA,HK2,HO_6,HO_7,BK144,BK145,BK146,BK156,HB⟩:=hrel
       cases gk with
       | zero=>exact absurd HA.out (by simp [spec_l06Middle.l1])
       | succ k2 =>
        have H:=HA.out
        clear HA
        simp only [spec_l06Middle.l1] at H
        by_cases c98:x13_2 < (x7_1.length:Int)
        ·rw [if_pos c98] at H
         have c98b0:decide (x13_2 < (x7_1.length:Int)) = true:=decide_eq_true c98
         clear c98
         by_cases c99:0 ≤ x13_2
         ·rw [if_pos c99] at H
          have c99b0:decide (0 ≤ x13_2) = true:=decide_eq_true c99
          clear c99
          by_cases c100:(((((rd_T36 x7_1 x13_2).f0.f0).toList) == x146000_1.toList && ((((rd_T36 x7_1 x13_2).f0.f1).toList) == x146001_1.toList)) && (((((rd_T36 x7_1 x13_2).f1.f0).toList) == x146002_1.toList && ((((rd_T36 x7_1 x13_2).f1.f1).toList) == x146003_1.toList)) && (((((rd_T36 x7_1 x13_2).f2.f0).toList) == x146004_1.toList && ((((rd_T36 x7_1 x13_2).f2.f1).toList) == x146005_1.toList))))) = true
          ·rw [if_pos c100] at H
           have c100b0:(((((rd_T36 x7_1 x13_2).f0.f0).toList) == x146000_1.toList && ((((rd_T36 x7_1 x13_2).f0.f1).toList) == x146001_1.toList)) && (((((rd_T36 x7_1 x13_2).f1.f0).toList) == x146002_1.toList && ((((rd_T36 x7_1 x13_2).f1.f1).toList) == x146003_1.toList)) && (((((rd_T36 x7_1 x13_2).f2.f0).toList) == x146004_1.toList && ((((rd_T36 x7_1 x13_2).f2.f1).toList) == x146005_1.toList))))) = true:=c100
           clear c100
           have c101b0:=eq_true (of_decide_eq_true (by first|(with_reducible assumption)|assumption):0 ≤ x13_2)
           by_cases c102:x13_2 ≤ (x6_1.length:Int)
           ·rw [if_pos c102] at H
            have c102b0:=eq_true c102
            have c102b1:decide (x13_2 ≤ (x6_1.length:Int)) = true:=decide_eq_true c102
            clear c102
            obtain ⟨y172,hy172⟩:∃ y_:List Int,y_ = (x6_1.take (x13_2:Int).toNat):=⟨_,rfl⟩
            replace H:((spec_l06Told.f k2 (strOfNums y172) (strOfNums (x6_1.drop (x13_2:Int).toNat))).bind fun bt180=>(some (bt180.1,bt180.2.1,bt180.2.2))) = some (r1,r2,r3):=by first|(rw [hy172];with_reducible exact H)|(have H2_:=(Option.bind_some _ _).symm.trans H;rw [hy172];with_reducible exact H2_)|(have H2_:=(Option.bind_some _ _).symm.trans H;with_reducible exact H2_)|with_reducible exact H|(rw [hy172];exact H)|exact H
            have Ny172:=aM hy172
            clear hy172
            have c103b0:=eq_true (of_decide_eq_true (by first|(with_reducible assumption)|assumption):0 ≤ x13_2)
            have c104b0:=eq_true (of_decide_eq_true (by first|(with_reducible assumption)|assumption):x13_2 ≤ (x6_1.length:Int))
            obtain ⟨y176,hy176⟩:∃ y_:List Int,y_ = (x6_1.drop (x13_2:Int).toNat):=⟨_,rfl⟩
            replace H:((spec_l06Told.f k2 (strOfNums y172) (strOfNums y176)).bind fun bt180=>(some (bt180.1,bt180.2.1,bt180.2.2))) = some (r1,r2,r3):=by first|(rw [hy176];with_reducible exact H)|(have H2_:=(Option.bind_some _ _).symm.trans H;rw [hy176];with_reducible exact H2_)|(have H2_:=(Option.bind_some _ _).symm.trans H;with_reducible exact H2_)|with_reducible exact H|(rw [hy176];exact H)|exact H
            have Ny176:=aM hy176
            clear hy176
            replace H:=Option.bind_eq_some_iff.mp H
            obtain ⟨⟨t180,t181,t182⟩,A1050,H⟩:=H
            replace H:(some (t180,t181,t182)) = some (r1,r2,r3):=H;have A105:=aM A1050
            clear A1050
            simp only [Option.some.injEq,Prod.mk.injEq] at H
            obtain ⟨rfl,rfl,rfl⟩:=H
            obtain ⟨Ao106,co106,eo106⟩:=Kd.R_slice HO_7.out
            subst eo106
            try go_wp2
            replace HO_6:=aM (rD HO_6.out);replace HO_7:=aM (rD HO_7.out);replace BK144:=aM (yD BK144.out);replace BK145:=aM (yD BK145.out);replace BK146:=aM (yD BK146.out);replace BK156:=aM (yD BK156.out);replace HB:=aM (zD HB.out)
            have p171:0 ≤ (x13_2:Int):=of_decide_eq_true (by first|(with_reducible assumption)|assumption)
            have q171:x13_2 < (x7_1.length:Int):=of_decide_eq_true (by first|(with_reducible assumption)|assumption)
            obtain ⟨ad171,e171,hx171_0,hx171_1,hx171_2,hx171_3,hx171_4,hx171_5⟩:=at_T36 (Kd.R_reads' HO_7.out).2.2 x13_2 p171 q171
            cases e171
            replace p171:=eq_true p171;replace q171:=eq_true q171
            refine start_ (n:=6) (S:=fun w'=>w'.cell? ⟨gb145,0,none⟩ = some (.string x146000_1) ∧ w'.cell? ⟨gb145,1,none⟩ = some (.string x146001_1) ∧ w'.cell? ⟨gb145,2,none⟩ = some (.string x146002_1) ∧ w'.cell? ⟨gb145,3,none⟩ = some (.string x146003_1) ∧ w'.cell? ⟨gb145,4,none⟩ = some (.string x146004_1) ∧ w'.cell? ⟨gb145,5,none⟩ = some (.string x146005_1) ∧ w'.cell? (ad171.add ((x13_2).toNat * 6)) = some (.string ((rd_T36 x7_1 x13_2).f0.f0)) ∧ w'.cell? ⟨(ad171.add ((x13_2).toNat * 6)).block,(ad171.add ((x13_2).toNat * 6)).off + 1,none⟩ = some (.string ((rd_T36 x7_1 x13_2).f0.f1)) ∧ w'.cell? ⟨(ad171.add ((x13_2).toNat * 6)).block,(ad171.add ((x13_2).toNat * 6)).off + 2,none⟩ = some (.string ((rd_T36 x7_1 x13_2).f1.f0)) ∧ w'.cell? ⟨(ad171.add ((x13_2).toNat * 6)).block,(ad171.add ((x13_2).toNat * 6)).off + 3,none⟩ = some (.string ((rd_T36 x7_1 x13_2).f1.f1)) ∧ w'.cell? ⟨(ad171.add ((x13_2).toNat * 6)).block,(ad171.add ((x13_2).toNat * 6)).off + 4,none⟩ = some (.string ((rd_T36 x7_1 x13_2).f2.f0)) ∧ w'.cell? ⟨(ad171.add ((x13_2).toNat * 6)).block,(ad171.add ((x13_2).toNat * 6)).off + 5,none⟩ = some (.string ((rd_T36 x7_1 x13_2).f2.f1))) (ds:=[]) #[fF,fF,fF,fF,fF,fF] (by kernel_rfl) rfl rfl ⟨(blk_cell BK145.out 0).trans rfl,(blk_cell BK145.out 1).trans rfl,(blk_cell BK145.out 2).trans rfl,(blk_cell BK145.out 3).trans rfl,(blk_cell BK145.out 4).trans rfl,(blk_cell BK145.out 5).trans rfl,hx171_0,hx171_1,hx171_2,hx171_3,hx171_4,hx171_5⟩ (fun hHeld=>?_)
            generalize wr.drew = w107 at HO_6 HO_7 BK144 BK145 BK146 BK156 HB hx171_0 hx171_1 hx171_2 hx171_3 hx171_4 hx171_5 hHeld ⊢
            refine pure_ (i:=0) (N:=some 65) (v:=?_) (a':=?_) #[tT,fF,fF,fF,fF,fF] rfl rfl (by kernel_rfl) (fun _ _ _ h=>h) (Or.inl ⟨by rfl,?_⟩) ?_ ?_
            rotate_left
            ·intro w'
             go_simp
             with_reducible rfl
            rotate_left
            ·simp only [Act.put,sI,sZ,sS,i64_w,i32_w]
             rfl
            refine pure_ (i:=1) (N:=some 66) (v:=?_) (a':=?_) #[tT,tT,fF,fF,fF,fF] rfl rfl (by kernel_rfl) (fun _ _ _ h=>h) (Or.inl ⟨by rfl,?_⟩) ?_ ?_
            rotate_left
            ·intro w'
             go_simp
             with_reducible rfl
            rotate_left
            ·simp only [Act.put,sI,sZ,sS,i64_w,i32_w]
             rfl
            refine pure_ (i:=2) (N:=some 67) (v:=?_) (a':=?_) #[tT,tT,tT,fF,fF,fF] rfl rfl (by kernel_rfl) (fun _ _ _ h=>h) (Or.inl ⟨by rfl,?_⟩) ?_ ?_
            rotate_left
            ·intro w'
             go_simp
             with_reducible rfl
            rotate_left
            ·simp only [Act.put,sI,sZ,sS,i64_w,i32_w]
             rfl
            refine take_ (i:=3) (N:=some 68) (v:=?_) (a':=?_) #[tT,tT,tT,tT,fF,fF] rfl rfl (by kernel_rfl) (fun _ _ _ h=>h) (Or.inl ⟨by rfl,?_⟩) hHeld ?_ ?_
            rotate_left
            ·rintro w' ⟨s0,s1,s2,s3,s4,s5,s6,s7,s8,s9,s10,s11⟩
             go_simp
             with_reducible rfl
            rotate_left
            ·simp only [Act.put,sI,sZ,sS,i64_w,i32_w]
             rfl
            refine take_ (i:=4) (N:=some 69) (v:=?_) (a':=?_) #[tT,tT,tT,tT,tT,fF] rfl rfl (by kernel_rfl) (fun _ _ _ h=>h) (Or.inl ⟨by rfl,?_⟩) hHeld ?_ ?_
            rotate_left
            ·rintro w' ⟨s0,s1,s2,s3,s4,s5,s6,s7,s8,s9,s10,s11⟩
             go_simp
             with_reducible rfl
            rotate_left
            ·simp only [Act.put,sI,sZ,sS,i64_w,i32_w]
             rfl
            refine pure_ (i:=5) (N:=some 70) (v:=?_) (a':=?_) #[tT,tT,tT,tT,tT,tT] rfl rfl (by kernel_rfl) (fun _ _ _ h=>h) (Or.inl ⟨by rfl,?_⟩) ?_ ?_
            rotate_left
            ·intro w'
             go_simp
             with_reducible rfl
            rotate_left
            ·simp only [Act.put,sI,sZ,sS,i64_w,i32_w]
             rfl
            refine done_ (by kernel_rfl) ?_
            try go_wp2
            replace HO_6:=aM (rD HO_6.out);replace HO_7:=aM (rD HO_7.out);replace BK144:=aM (yD BK144.out);replace BK145:=aM (yD BK145.out);replace BK146:=aM (yD BK146.out);replace BK156:=aM (yD BK156.out);replace HB:=aM (zD HB.out)
            obtain ⟨Ao110,co110,eo110⟩:=Kd.R_slice HO_6.out
            (first|subst eo110|(injection eo110 with f1_ f2_ f3_;have f4_:=f1_.symm;have f5_:=f3_.symm;clear f1_ f2_ f3_;subst f4_;subst f5_))
            have q109:(x13_2:Int) ≤ ((x6_1.length:Int):Int):=of_decide_eq_true (by first|(with_reducible assumption)|assumption)
            obtain ⟨i0109,hi0109,_,hsz109,_⟩:=info_parts info5
            have hroom109:x6_1.length ≤ co110:=(Kd.R_reads' HO_6.out).2.1
            have hC109:Kd.C (Kd.int .u8) _ Ao110 x6_1.length x6_1:=(Kd.R_reads' HO_6.out).2.2
            have hcut109:=cut_to (P:=Try.prog) 42 5 .i64 Try.underlying42 hi0109 Ao110 x6_1.length co110 x13_2 (of_decide_eq_true (by first|(with_reducible assumption)|assumption)) q109 hroom109
            have hr109:=Kd.C_take (m:=(x13_2:Int).toNat) hC109 (by omega)
            have hy109:y172.length = (x13_2:Int).toNat:=(by rw [Ny172.out,List.length_take];omega)
            rw [← Ny172.out] at hr109
            rw [← hy109] at hcut109
            have HR175:=aM hr109;have HC175:=aM (show y172.length ≤ co110 from by omega)
            clear hr109 hC109 hroom109 hi0109 hsz109
            have KY109:=aM hy109
            clear hy109
            have KL109:=aM (show (x13_2:Int).toNat ≤ x6_1.length from by omega);replace q109:=eq_true q109
            have q111:(x13_2:Int) ≤ ((x6_1.length:Int):Int):=of_decide_eq_true (by first|(with_reducible assumption)|assumption)
            obtain ⟨i0111,hi0111,_,hsz111,_⟩:=info_parts info5
            have hroom111:x6_1.length ≤ co110:=(Kd.R_reads' HO_6.out).2.1
            have hC111:Kd.C (Kd.int .u8) _ Ao110 x6_1.length x6_1:=(Kd.R_reads' HO_6.out).2.2
            have q0111:(0:Int) ≤ (x13_2:Int):=of_decide_eq_true (by first|(with_reducible assumption)|assumption)
            have hcut111:=cut_from (P:=Try.prog) 42 5 .i64 Try.underlying42 hi0111 1 hsz111 Ao110 x6_1.length co110 x13_2 q0111 q111
            have hr111:=Kd.C_drop (m:=(x13_2:Int).toNat) (c:=co110) hC111 (by omega) hroom111
            obtain ⟨A111,hA111⟩:∃ A1,A1 = (if co110 = (x13_2:Int).toNat then Ao110 else (Ao110:Option Addr).map (·.add ((x13_2:Int).toNat * 1))):=⟨_,rfl⟩
            obtain ⟨c111,hc111⟩:∃ c1,c1 = co110 - (x13_2:Int).toNat:=⟨_,rfl⟩
            have hy111:y176.length = x6_1.length - (x13_2:Int).toNat:=(by rw [Ny176.out,List.length_drop] <;> omega)
            rw [show (x6_1).drop (x13_2:Int).toNat = y176 from Ny176.out.symm] at hr111
            replace hr111:Kd.C (Kd.int .u8) _ A111 y176.length y176:=(by rw [hA111];exact hr111)
            rw [← hy111,← hA111,← hc111] at hcut111
            have HR179:=aM hr111;have HC179:=aM (show y176.length ≤ c111 from by rw [hy111,hc111];exact Nat.sub_le_sub_right hroom111 _)
            clear hr111 hC111 hroom111 hi0111 hsz111 hc111
            have KY111:=aM hy111;have KA111:=aM hA111
            clear hy111 hA111
            have KL111:=aM (show (x13_2:Int).toNat ≤ x6_1.length from by omega);replace q111:=eq_true q111
            have hcv112:=Kd.C_string (P:=Try.prog) (A:=Ao110) (c:=co110) Try.underlying42 Try.underlying5 Try.underlying9 (by repeat (first|(with_reducible exact HR175.out)|(with_reducible refine cA ?_ _)|(with_reducible refine cN ?_ _)|(with_reducible refine cD ?_)|exact HR175.out))
            have hcv113:=Kd.C_string (P:=Try.prog) (A:=A111) (c:=c111) Try.underlying42 Try.underlying5 Try.underlying9 (by repeat (first|(with_reducible exact HR179.out)|(with_reducible refine cA ?_ _)|(with_reducible refine cN ?_ _)|(with_reducible refine cD ?_)|exact HR179.out))
            refine start_ (n:=13) (S:=fun w'=>Kd.C (Kd.int .u8) w' Ao110 y172.length y172 ∧ Kd.C (Kd.int .u8) w' A111 y176.length y176) (ds:=[11]) #[fF,fF,fF,fF,fF,fF,fF,fF,fF,fF,fF,fF,fF] (by kernel_rfl) rfl rfl ⟨HR175.out,HR179.out⟩ (fun hHeld=>?_);refine with_tabW spec_l06Middle.tab15 spec_l06Middle.bits15 (fun HT_ HW_=>?_)
            generalize w107.drew = w108 at HO_6 HO_7 BK144 BK145 BK146 BK156 HB HR175 HR179 hHeld ⊢
            refine pure_ (i:=0) (N:=some 71) (v:=?_) (a':=?_) #[tT,fF,fF,fF,fF,fF,fF,fF,fF,fF,fF,fF,fF] rfl rfl (any_of HT_.out (by kernel_rfl)) (fun _ _ _ h=>h) (Or.inl ⟨by rfl,?_⟩) ?_ ?_
            rotate_left
            ·intro w'
             go_simp
             with_reducible rfl
            rotate_left
            ·simp only [Act.put,sI,sZ,sS,i64_w,i32_w]
             rfl
            refine pure_ (i:=1) (N:=some 72) (v:=?_) (a':=?_) #[tT,tT,fF,fF,fF,fF,fF,fF,fF,fF,fF,fF,fF] rfl rfl (any_of HT_.out (by kernel_rfl)) (fun _ _ _ h=>h) (Or.inl ⟨by rfl,?_⟩) ?_ ?_
            rotate_left
            ·intro w'
             go_simp
             with_reducible rfl
            rotate_left
            ·simp only [Act.put,sI,sZ,sS,i64_w,i32_w]
             rfl
            refine pure_ (i:=2) (N:=some 73) (v:=?_) (a':=?_) #[tT,tT,tT,fF,fF,fF,fF,fF,fF,fF,fF,fF,fF] rfl rfl (any_of HT_.out (by kernel_rfl)) (fun _ _ _ h=>h) (Or.inl ⟨by rfl,?_⟩) ?_ ?_
            rotate_left
            ·intro w'
             go_simp
             with_reducible rfl
            rotate_left
            ·simp only [Act.put,sI,sZ,sS,i64_w,i32_w]
             rfl
            refine take_ (i:=3) (N:=some 74) (v:=?_) (a':=?_) #[tT,tT,tT,tT,fF,fF,fF,fF,fF,fF,fF,fF,fF] rfl rfl (take_ofW HT_.out HW_.out (by kernel_rfl)) (fun _ _ _ h=>h) (Or.inl ⟨by rfl,?_⟩) hHeld ?_ ?_
            rotate_left
            ·rintro w' ⟨s0,s1⟩
             have hcv_:=Kd.C_string (P:=Try.prog) (A:=Ao110) (c:=co110) Try.underlying42 Try.underlying5 Try.underlying9 s0
             first|(go_simp;rw [hcv_];rfl)|(go_simp;with_reducible rfl)|(simp only [hcv_];rfl)
            rotate_left
            ·simp only [Act.put,sI,sZ,sS,i64_w,i32_w]
             rfl
            refine pure_ (i:=4) (N:=some 75) (v:=?_) (a':=?_) #[tT,tT,tT,tT,tT,fF,fF,fF,fF,fF,fF,fF,fF] rfl rfl (any_of HT_.out (by kernel_rfl)) (fun _ _ _ h=>h) (Or.inl ⟨by rfl,?_⟩) ?_ ?_
            rotate_left
            ·intro w'
             go_simp
             with_reducible rfl
            rotate_left
            ·simp only [Act.put,sI,sZ,sS,i64_w,i32_w]
             rfl
            refine pure_ (i:=5) (N:=some 76) (v:=?_) (a':=?_) #[tT,tT,tT,tT,tT,tT,fF,fF,fF,fF,fF,fF,fF] rfl rfl (any_of HT_.out (by kernel_rfl)) (fun _ _ _ h=>h) (Or.inl ⟨by rfl,?_⟩) ?_ ?_
            rotate_left
            ·intro w'
             go_simp
             with_reducible rfl
            rotate_left
            ·simp only [Act.put,sI,sZ,sS,i64_w,i32_w]
             rfl
            refine pure_ (i:=6) (N:=some 77) (v:=?_) (a':=?_) #[tT,tT,tT,tT,tT,tT,tT,fF,fF,fF,fF,fF,fF] rfl rfl (any_of HT_.out (by kernel_rfl)) (fun _ _ _ h=>h) (Or.inl ⟨by rfl,?_⟩) ?_ ?_
            rotate_left
            ·intro w'
             go_simp
             with_reducible rfl
            rotate_left
            ·simp only [Act.put,sI,sZ,sS,i64_w,i32_w]
             rfl
            refine take_ (i:=7) (N:=some 78) (v:=?_) (a':=?_) #[tT,tT,tT,tT,tT,tT,tT,tT,fF,fF,fF,fF,fF] rfl rfl (take_ofW HT_.out HW_.out (by kernel_rfl)) (fun _ _ _ h=>h) (Or.inl ⟨by rfl,?_⟩) hHeld ?_ ?_
            rotate_left
            ·rintro w' ⟨s0,s1⟩
             have hcv_:=Kd.C_string (P:=Try.prog) (A:=A111) (c:=c111) Try.underlying42 Try.underlying5 Try.underlying9 s1
             first|(go_simp;rw [hcv_];rfl)|(go_simp;with_reducible rfl)|(simp only [hcv_];rfl)
            rotate_left
            ·simp only [Act.put,sI,sZ,sS,i64_w,i32_w]
             rfl
            refine one_ (i:=8) (N:=some 79) #[tT,tT,tT,tT,tT,tT,tT,tT,tT,fF,fF,fF,fF] rfl rfl (one_of HT_.out (by kernel_rfl)) (by decide) (fun K hK=>?_)
            refine goes_ Try.func18 (by kernel_rfl) rfl #[.string (strOfNums y172),.string (strOfNums y176)] (by rfl) rfl rfl (by (try simp only [sM,sC,sN]);first|done|rfl|(simp only [List.length_drop,List.length_take];rfl)) ?_
            with_reducible refine (spec_l06Told.calls k2 (strOfNums y172) (strOfNums y176) t180 t181 t182 _ A105.out).mono ?_
            rintro e w115 ⟨rfl,hb⟩
            refine ⟨_,rfl,?_⟩
            replace HO_6:=ko HO_6 hb;replace HO_7:=ko HO_7 hb;replace BK144:=kb BK144 hb;replace BK145:=kb BK145 hb;replace BK146:=kb BK146 hb;replace BK156:=kb BK156 hb;replace HB:=aM (below_step (by first|exact bb HB|exact bg HB GE144|exact bg HB GE145|exact bg HB GE146|exact bg HB GE156) hb)
            have hS_:_ ∧ _:=⟨Kd.C_below HR175.out hb,Kd.C_below HR179.out hb⟩
            (try clear hb)
            refine hK.out _ _ hS_ (fun hHeld=>?_)
            clear hK K
            refine norm_ (a':=?_) ?_ ?_
            rotate_left
            ·show Act.put _ (some 79) _ = _
             simp only [Act.put,sI,sZ,sS,i64_w,i32_w]
             rfl
            refine pure_ (i:=9) (N:=some 80) (v:=?_) (a':=?_) #[tT,tT,tT,tT,tT,tT,tT,tT,tT,tT,fF,fF,fF] rfl rfl (any_of HT_.out (by kernel_rfl)) (fun _ _ _ h=>h) (Or.inl ⟨by rfl,?_⟩) ?_ ?_
            rotate_left
            ·intro w'
             go_simp
             with_reducible rfl
            rotate_left
            ·simp only [Act.put,sI,sZ,sS,i64_w,i32_w]
             rfl
            refine pure_ (i:=10) (N:=some 81) (v:=?_) (a':=?_) #[tT,tT,tT,tT,tT,tT,tT,tT,tT,tT,tT,fF,fF] rfl rfl (any_of HT_.out (by kernel_rfl)) (fun _ _ _ h=>h) (Or.inl ⟨by rfl,?_⟩) ?_ ?_
            rotate_left
            ·intro w'
             go_simp
             with_reducible rfl
            rotate_left
            ·simp only [Act.put,sI,sZ,sS,i64_w,i32_w]
             rfl
            refine last_ (i:=11) (N:=none) #[tT,tT,tT,tT,tT,tT,tT,tT,tT,tT,tT,tT,fF] rfl rfl (one_of HT_.out (by kernel_rfl)) (by decide) (fun K hK=>?_)
            have hs116:w115.cell? ⟨gb146,0,none⟩ = some (.string x147000_2):=(blk_cell BK146.out 0).trans rfl
            have hfs116:=blk_frozen BK146.out 0
            have hns116_0:=NB144_146.out
            have hns116_1:=NB145_146.out
            have hns116_3:=NB156_146.out
            have hms116_0:=NB146_144.out
            have hms116_1:=NB146_145.out
            have hms116_3:=NB146_156.out
            have hs117:w115.cell? ⟨gb146,1,none⟩ = some (.string x147001_2):=(blk_cell BK146.out 1).trans rfl
            have hfs117:=blk_frozen BK146.out 1
            have hns117_0:=NB144_146.out
            have hns117_1:=NB145_146.out
            have hns117_3:=NB156_146.out
            have hms117_0:=NB146_144.out
            have hms117_1:=NB146_145.out
            have hms117_3:=NB146_156.out
            refine skip_ (w1:=?_) (by rfl) rfl ?_ ?_
            rotate_left
            ·go_simp
             rfl
            refine hK.out _ _ ?_
            clear hK K
            refine pure_ (i:=12) (N:=some 5) (v:=?_) (a':=?_) #[tT,tT,tT,tT,tT,tT,tT,tT,tT,tT,tT,tT,tT] rfl rfl (any_of HT_.out (by kernel_rfl)) (fun _ _ _ h=>h) (Or.inl ⟨by rfl,?_⟩) ?_ ?_
            rotate_left
            ·intro w'
             go_simp
             with_reducible rfl
            rotate_left
            ·simp only [Act.put,sI,sZ,sS,i64_w,i32_w]
             rfl
            refine done_ (done_of HT_.out (by kernel_rfl)) ?_
            try go_wp2
            refine bodyPost_ret (results_ct rfl _ _ gb146 27 #[.string t180,.string t181] (0,0) _ rfl (by (with_reducible repeat (first|apply yN|apply yD|apply yA));refine blk_put (cs:=#[.string t180,.string x147001_2]) ?_ 1 _ rfl;(with_reducible repeat (first|apply yN|apply yD|apply yA));refine blk_put (cs:=#[.string x147000_2,.string x147001_2]) ?_ 0 _ rfl;(with_reducible repeat (first|apply yN|apply yD|apply yA));exact BK146.out) Try.underlying27 rfl (by kernel_rfl)) rfl ?_
            exact ⟨by first|rfl|(simp [errW_none,errW_some] <;> rfl)|(simp [*,errW_none,errW_some] <;> rfl),by first|exact bb HB|exact bg HB GE144|exact bg HB GE145|exact bg HB GE146|exact bg HB GE156⟩
           ·rw [if_neg c102] at H
            exact absurd H (by simp)
          ·rw [if_neg c100] at H
           have c100b0:(((((rd_T36 x7_1 x13_2).f0.f0).toList) == x146000_1.toList && ((((rd_T36 x7_1 x13_2).f0.f1).toList) == x146001_1.toList)) && (((((rd_T36 x7_1 x13_2).f1.f0).toList) == x146002_1.toList && ((((rd_T36 x7_1 x13_2).f1.f1).toList) == x146003_1.toList)) && (((((rd_T36 x7_1 x13_2).f2.f0).toList) == x146004_1.toList && ((((rd_T36 x7_1 x13_2).f2.f1).toList) == x146005_1.toList))))) = false:=by simpa using c100
           clear c100
           have H':=aM H
           clear H
           obtain ⟨Ao118,co118,eo118⟩:=Kd.R_slice HO_7.out
           subst eo118
           try go_wp2
           replace HO_6:=aM (rD HO_6.out);replace HO_7:=aM (rD HO_7.out);replace BK144:=aM (yD BK144.out);replace BK145:=aM (yD BK145.out);replace BK146:=aM (yD BK146.out);replace BK156:=aM (yD BK156.out);replace HB:=aM (zD HB.out)
           have p171:0 ≤ (x13_2:Int):=of_decide_eq_true (by first|(with_reducible assumption)|assumption)
           have q171:x13_2 < (x7_1.length:Int):=of_decide_eq_true (by first|(with_reducible assumption)|assumption)
           obtain ⟨ad171,e171,hx171_0,hx171_1,hx171_2,hx171_3,hx171_4,hx171_5⟩:=at_T36 (Kd.R_reads' HO_7.out).2.2 x13_2 p171 q171
           cases e171
           replace p171:=eq_true p171;replace q171:=eq_true q171
           refine start_ (n:=6) (S:=fun w'=>w'.cell? ⟨gb145,0,none⟩ = some (.string x146000_1) ∧ w'.cell? ⟨gb145,1,none⟩ = some (.string x146001_1) ∧ w'.cell? ⟨gb145,2,none⟩ = some (.string x146002_1) ∧ w'.cell? ⟨gb145,3,none⟩ = some (.string x146003_1) ∧ w'.cell? ⟨gb145,4,none⟩ = some (.string x146004_1) ∧ w'.cell? ⟨gb145,5,none⟩ = some (.string x146005_1) ∧ w'.cell? (ad171.add ((x13_2).toNat * 6)) = some (.string ((rd_T36 x7_1 x13_2).f0.f0)) ∧ w'.cell? ⟨(ad171.add ((x13_2).toNat * 6)).block,(ad171.add ((x13_2).toNat * 6)).off + 1,none⟩ = some (.string ((rd_T36 x7_1 x13_2).f0.f1)) ∧ w'.cell? ⟨(ad171.add ((x13_2).toNat * 6)).block,(ad171.add ((x13_2).toNat * 6)).off + 2,none⟩ = some (.string ((rd_T36 x7_1 x13_2).f1.f0)) ∧ w'.cell? ⟨(ad171.add ((x13_2).toNat * 6)).block,(ad171.add ((x13_2).toNat * 6)).off + 3,none⟩ = some (.string ((rd_T36 x7_1 x13_2).f1.f1)) ∧ w'.cell? ⟨(ad171.add ((x13_2).toNat * 6)).block,(ad171.add ((x13_2).toNat * 6)).off + 4,none⟩ = some (.string ((rd_T36 x7_1 x13_2).f2.f0)) ∧ w'.cell? ⟨(ad171.add ((x13_2).toNat * 6)).block,(ad171.add ((x13_2).toNat * 6)).off + 5,none⟩ = some (.string ((rd_T36 x7_1 x13_2).f2.f1))) (ds:=[]) #[fF,fF,fF,fF,fF,fF] (by kernel_rfl) rfl rfl ⟨(blk_cell BK145.out 0).trans rfl,(blk_cell BK145.out 1).trans rfl,(blk_cell BK145.out 2).trans rfl,(blk_cell BK145.out 3).trans rfl,(blk_cell BK145.out 4).trans rfl,(blk_cell BK145.out 5).trans rfl,hx171_0,hx171_1,hx171_2,hx171_3,hx171_4,hx171_5⟩ (fun hHeld=>?_)
           generalize wr.drew = w119 at HO_6 HO_7 BK144 BK145 BK146 BK156 HB hx171_0 hx171_1 hx171_2 hx171_3 hx171_4 hx171_5 hHeld ⊢
           refine pure_ (i:=0) (N:=some 65) (v:=?_) (a':=?_) #[tT,fF,fF,fF,fF,fF] rfl rfl (by kernel_rfl) (fun _ _ _ h=>h) (Or.inl ⟨by rfl,?_⟩) ?_ ?_
           rotate_left
           ·intro w'
            go_simp
            with_reducible rfl
           rotate_left
           ·simp only [Act.put,sI,sZ,sS,i64_w,i32_w]
            rfl
           refine pure_ (i:=1) (N:=some 66) (v:=?_) (a':=?_) #[tT,tT,fF,fF,fF,fF] rfl rfl (by kernel_rfl) (fun _ _ _ h=>h) (Or.inl ⟨by rfl,?_⟩) ?_ ?_
           rotate_left
           ·intro w'
            go_simp
            with_reducible rfl
           rotate_left
           ·simp only [Act.put,sI,sZ,sS,i64_w,i32_w]
            rfl
           refine pure_ (i:=2) (N:=some 67) (v:=?_) (a':=?_) #[tT,tT,tT,fF,fF,fF] rfl rfl (by kernel_rfl) (fun _ _ _ h=>h) (Or.inl ⟨by rfl,?_⟩) ?_ ?_
           rotate_left
           ·intro w'
            go_simp
            with_reducible rfl
           rotate_left
           ·simp only [Act.put,sI,sZ,sS,i64_w,i32_w]
            rfl
           refine take_ (i:=3) (N:=some 68) (v:=?_) (a':=?_) #[tT,tT,tT,tT,fF,fF] rfl rfl (by kernel_rfl) (fun _ _ _ h=>h) (Or.inl ⟨by rfl,?_⟩) hHeld ?_ ?_
           rotate_left
           ·rintro w' ⟨s0,s1,s2,s3,s4,s5,s6,s7,s8,s9,s10,s11⟩
            go_simp
            with_reducible rfl
           rotate_left
           ·simp only [Act.put,sI,sZ,sS,i64_w,i32_w]
            rfl
           refine take_ (i:=4) (N:=some 69) (v:=?_) (a':=?_) #[tT,tT,tT,tT,tT,fF] rfl rfl (by kernel_rfl) (fun _ _ _ h=>h) (Or.inl ⟨by rfl,?_⟩) hHeld ?_ ?_
           rotate_left
           ·rintro w' ⟨s0,s1,s2,s3,s4,s5,s6,s7,s8,s9,s10,s11⟩
            go_simp
            with_reducible rfl
           rotate_left
           ·simp only [Act.put,sI,sZ,sS,i64_w,i32_w]
            rfl
           refine pure_ (i:=5) (N:=some 70) (v:=?_) (a':=?_) #[tT,tT,tT,tT,tT,tT] rfl rfl (by kernel_rfl) (fun _ _ _ h=>h) (Or.inl ⟨by rfl,?_⟩) ?_ ?_
           rotate_left
           ·intro w'
            go_simp
            with_reducible rfl
           rotate_left
           ·simp only [Act.put,sI,sZ,sS,i64_w,i32_w]
            rfl
           refine done_ (by kernel_rfl) ?_
           try go_wp2
           go_roundg k2
           case measure=>have:=HK1.out;have:=HK2.out;omega
           case rel=>exact ⟨(wrap64 (x13_2 + 1)),(x147000_2),(x147001_2),(by first|rfl|(simp;done)|(simp [*];done)),H',⟨by have:=HK1.out;have:=HK2.out;omega⟩,⟨rk HO_6⟩,⟨rk HO_7⟩,⟨bk BK144⟩,⟨bk BK145⟩,⟨bk BK146⟩,⟨bk BK156⟩,⟨by first|exact bb HB|exact bg HB GE144|exact bg HB GE145|exact bg HB GE146|exact bg HB GE156⟩⟩
         ·rw [if_neg c99] at H
          exact absurd H (by simp)
        ·rw [if_neg c98] at H
         have c98b0:decide (x13_2 < (x7_1.length:Int)) = false:=decide_eq_false c98
         clear c98
         by_cases c120:x7_1.length < 1466015503701
         ·rw [if_pos c120] at H
          have LMc120:=aM c120
          clear c120
          obtain ⟨y183,hy183⟩:∃ y_:List (S36),y_ = (x7_1 ++ [(⟨(⟨x146000_1,x146001_1⟩:S27),(⟨x146002_1,x146003_1⟩:S27),(⟨x146004_1,x146005_1⟩:S27)⟩:S36)]):=⟨_,rfl⟩
          replace H:(if x6_1.length < 140737488355328 then (spec_l06Middle.l2 k2 (x6_1 ++ [t160]) y183 x8_1 t160 0 a0_0 a0_1 x146000_1 x146001_1 x146002_1 x146003_1 x146004_1 x146005_1) else (none)) = some (r1,r2,r3):=by first|(rw [hy183];with_reducible exact H)|(have H2_:=(Option.bind_some _ _).symm.trans H;rw [hy183];with_reducible exact H2_)|(have H2_:=(Option.bind_some _ _).symm.trans H;with_reducible exact H2_)|with_reducible exact H|(rw [hy183];exact H)|exact H
          have Ny183:=aM hy183
          clear hy183
          by_cases c121:x6_1.length < 140737488355328
          ·rw [if_pos c121] at H
           have LMc121:=aM c121
           clear c121
           obtain ⟨y186,hy186⟩:∃ y_:List Int,y_ = (x6_1 ++ [t160]):=⟨_,rfl⟩
           replace H:(spec_l06Middle.l2 k2 y186 y183 x8_1 t160 0 a0_0 a0_1 x146000_1 x146001_1 x146002_1 x146003_1 x146004_1 x146005_1) = some (r1,r2,r3):=by first|(rw [hy186];with_reducible exact H)|(have H2_:=(Option.bind_some _ _).symm.trans H;rw [hy186];with_reducible exact H2_)|(have H2_:=(Option.bind_some _ _).symm.trans H;with_reducible exact H2_)|with_reducible exact H|(rw [hy186];exact H)|exact H
           have Ny186:=aM hy186
           clear hy186
           have H':=aM H
           clear H
           obtain ⟨Ao122,co122,eo122⟩:=Kd.R_slice HO_7.out
           subst eo122
           have hnb123:=NB145_144.out
           have hnc123:=NB144_145.out
           have hnb124:=NB145_146.out
           have hnc124:=NB146_145.out
           have hnb125:=NB145_156.out
           have hnc125:=NB156_145.out
           have⟨a0,a1,a2,a3,a4,a5,b0,b1,b2,b3,b4,b5⟩:=q6f BK145
           go_wp2_with (first|((with_reducible refine gate_builtin (b:=.append) (xs:=#[.tmp 82,.tmp 84]) rfl ?_);at_builtin;refine Kd.R_append k36 (w0:=w) w.heap.size rfl (.tmp 82) (.tmp 84) 43 36 (.agg #[(.string ⟨#[]⟩),(.string ⟨#[]⟩),(.string ⟨#[]⟩),(.string ⟨#[]⟩),(.string ⟨#[]⟩),(.string ⟨#[]⟩)]) 96 rfl Try.underlying43 info36 rfl (by decide) (by omega) (.slice Ao122 x7_1.length co122) x7_1 (⟨(⟨x146000_1,x146001_1⟩:S27),(⟨x146002_1,x146003_1⟩:S27),(⟨x146004_1,x146005_1⟩:S27)⟩:S36) [.string x146000_1,.string x146001_1,.string x146002_1,.string x146003_1,.string x146004_1,.string x146005_1] (fun k_=>k_ ≠ gb145) (fun _=>False) rfl rfl ?aP (fun _ hk=>hk.elim) ?aF ?aO ?aB ?aS ?aL ?_;(case aP=>exact k36_mkM _ _ _ (⟨(⟨x146000_1,x146001_1⟩:S27),(⟨x146002_1,x146003_1⟩:S27),(⟨x146004_1,x146005_1⟩:S27)⟩:S36));(case aB=>exact (by first|exact bb HB|exact bg HB GE144|exact bg HB GE145|exact bg HB GE146|exact bg HB GE156));(case aF=>exact (fun k_ hk=>Kd.freshB (g:=gb145) (o:=.cells #[.string x146000_1,.string x146001_1,.string x146002_1,.string x146003_1,.string x146004_1,.string x146005_1] 36 (0,0)) (bk BK145) k_ hk));(case aO=>exact (rk HO_7));(case aS=>exact (below_size (by first|exact bb HB|exact bg HB GE144|exact bg HB GE145|exact bg HB GE146|exact bg HB GE156)));(case aL=>have:=LMc120.out;omega);intro v184 w127 ho hb hg hat;rw [← Ny183.out] at ho;have n0_:=aM (Kd.R_over' (rk HO_6) (Kd.R_typed (rk HO_7)) (by decide) hg);have n1_:=aM (blk_grown (g:=gb144) (o:=.cells #[.string a0_0,.string a0_1] 27 (0,0)) (bk BK144) hg (Kd.R_ne HO_7.out BK144.out (by decide)));have n2_:=aM (blk_grown (g:=gb145) (o:=.cells #[.string x146000_1,.string x146001_1,.string x146002_1,.string x146003_1,.string x146004_1,.string x146005_1] 36 (0,0)) (bk BK145) hg (Kd.R_away HO_7.out (fun _ hk=>hk)));have n3_:=aM (blk_grown (g:=gb146) (o:=.cells #[.string x147000_2,.string x147001_2] 27 (0,0)) (bk BK146) hg (Kd.R_ne HO_7.out BK146.out (by decide)));have n4_:=aM (blk_grown (g:=gb156) (o:=.cells #[.string t153,.string t154] 27 (0,0)) (bk BK156) hg (Kd.R_ne HO_7.out BK156.out (by decide)));have n5_:=aM (hb);have n6_:=aM (ho);clear HO_6;clear BK144;clear BK145;clear BK146;clear BK156;clear HB;clear HO_7;have HO_6:=n0_;have BK144:=n1_;have BK145:=n2_;have BK146:=n3_;have BK156:=n4_;have HB:=n5_;have HO185:=n6_;clear n0_ n1_ n2_ n3_ n4_ n5_ n6_;clear ho hb hg hat)|((with_reducible refine gate_builtin (b:=.append) (xs:=#[.tmp 86,.tmp 88]) rfl ?_);at_builtin;refine Kd.R_append (Kd.int .u8) (w0:=w) w.heap.size rfl (.tmp 86) (.tmp 88) 42 5 (.int .u8 0) 1 rfl Try.underlying42 info5 rfl (by decide) (by omega) u6 x6_1 t160 [.int .u8 t160] (fun _=>True) (fun _=>False) rfl rfl ?aP (fun _ hk=>hk.elim) ?aF ?aO ?aB ?aS ?aL ?_;(case aP=>exact rfl);(case aB=>exact (by first|exact bb HB|exact bg HB GE144|exact bg HB GE145|exact bg HB GE146|exact bg HB GE156));(case aF=>exact (fun _ _=>trivial));(case aO=>exact (rk HO_6));(case aS=>exact (below_size (by first|exact bb HB|exact bg HB GE144|exact bg HB GE145|exact bg HB GE146|exact bg HB GE156)));(case aL=>have:=LMc121.out;omega);intro v187 w128 ho hb hg hat;rw [← Ny186.out] at ho;have n0_:=aM (blk_grown (g:=gb144) (o:=.cells #[.string a0_0,.string a0_1] 27 (0,0)) (bk BK144) hg (Kd.R_ne HO_6.out BK144.out (by decide)));have n1_:=aM (blk_grown (g:=gb145) (o:=.cells #[.string x146000_1,.string x146001_1,.string x146002_1,.string x146003_1,.string x146004_1,.string x146005_1] 36 (0,0)) (bk BK145) hg (Kd.R_ne HO_6.out BK145.out (by decide)));have n2_:=aM (blk_grown (g:=gb146) (o:=.cells #[.string x147000_2,.string x147001_2] 27 (0,0)) (bk BK146) hg (Kd.R_ne HO_6.out BK146.out (by decide)));have n3_:=aM (blk_grown (g:=gb156) (o:=.cells #[.string t153,.string t154] 27 (0,0)) (bk BK156) hg (Kd.R_ne HO_6.out BK156.out (by decide)));have n4_:=aM (Kd.R_over' (rk HO185) (Kd.R_typed (rk HO_6)) (by decide) hg);have n5_:=aM (hb);have n6_:=aM (ho);clear BK144;clear BK145;clear BK146;clear BK156;clear HO185;clear HB;clear HO_6;have BK144:=n0_;have BK145:=n1_;have BK146:=n2_;have BK156:=n3_;have HO185:=n4_;have HB:=n5_;have HO188:=n6_;clear n0_ n1_ n2_ n3_ n4_ n5_ n6_;clear ho hb hg hat))
           go_loopg [14] k2 (fun kq v14 w'=>∃ (x14_3:Int) (x146000_3:ByteArray) (x146001_3:ByteArray) (x146002_3:ByteArray) (x146003_3:ByteArray) (x146004_3:ByteArray) (x146005_3:ByteArray),v14 = .int .i64 x14_3 ∧ Aside0 (spec_l06Middle.l2 kq y186 y183 x8_1 t160 x14_3 a0_0 a0_1 x146000_3 x146001_3 x146002_3 x146003_3 x146004_3 x146005_3 = some (r1,r2,r3)) ∧ Aside0 (kq ≤ k2) ∧ Aside0 (Kd.R (Kd.int .u8) 5 w' w.heap.size (fun _=>True) v187 y186) ∧ Aside0 (Kd.R k36 36 w' w.heap.size (fun k_=>k_ ≠ gb145) v184 y183) ∧ Aside0 (w'.heap[gb144]? = some (.cells #[.string a0_0,.string a0_1] 27 (0,0))) ∧ Aside0 (w'.heap[gb145]? = some (.cells #[.string x146000_3,.string x146001_3,.string x146002_3,.string x146003_3,.string x146004_3,.string x146005_3] 36 (0,0))) ∧ Aside0 (w'.heap[gb146]? = some (.cells #[.string x147000_2,.string x147001_2] 27 (0,0))) ∧ Aside0 (w'.heap[gb156]? = some (.cells #[.string t153,.string t154] 27 (0,0))) ∧ Aside0 (Below w.heap.size w w'))
           case atStart=>exact ⟨(0),(x146000_1),(x146001_1),(x146002_1),(x146003_1),(x146004_1),(x146005_1),(by first|rfl|(simp;done)|(simp [*];done)),H',⟨Nat.le_refl _⟩,⟨rk HO188⟩,⟨rk HO185⟩,⟨bk BK144⟩,⟨bk BK145⟩,⟨bk BK146⟩,⟨bk BK156⟩,⟨by first|exact bb HB|exact bg HB GE144|exact bg HB GE145|exact bg HB GE146|exact bg HB GE156⟩⟩
           case round =>
            clear H'
            try clear c1
            try clear p1
            try clear q1
            try clear hx1
            try clear hcv1
            try clear c2
            try clear p2
            try clear c3
            try clear c4
            try clear c5
            try clear c6
            try clear p6
            try clear hcv6
            try clear c7
            try clear c8
            try clear hcv8
            try clear c9
            try clear c10
            try clear q10
            try clear c11
            try clear q11
            try clear hcv11
            try clear c12
            try clear p17
            try clear q17
            try clear hx17
            try clear c18
            try clear c19
            try clear c29
            try clear c29b0
            try clear c30
            try clear c31
            try clear c49
            try clear c50
            try clear c50b0
            try clear c50b1
            try clear c50b2
            try clear c52
            try clear c53
            try clear c57
            try clear c58
            try clear c59
            try clear p64
            try clear hcv64
            try clear c68
            try clear c69
            try clear c69b0
            try clear c69b1
            try clear c69b2
            try clear c71
            try clear c72
            try clear c76
            try clear c77
            try clear c78
            try clear hcv83
            try clear c87
            try clear c88
            try clear c92
            try clear c93
            try clear c94
            try clear c98
            try clear c98b0
            try clear c99
            try clear c99b0
            try clear c100
            try clear c100b0
            try clear c101
            try clear c101b0
            try clear c102
            try clear c102b0
            try clear c102b1
            try clear c103
            try clear c103b0
            try clear c104
            try clear c104b0
            try clear q109
            try clear c111
            try clear q111
            try clear hcv112
            try clear hcv113
            try clear c120
            try clear c121
            try clear c123
            try clear c124
            try clear c125
            try clear hcz126_0
            try clear hcz126_1
            try clear hcz126_2
            try clear hcz126_3
            try clear hcz126_4
            try clear hcz126_5
            try clear hcz54_0
            try clear hcz54_1
            try clear hcz54_2
            try clear hcz54_3
            try clear hcz54_4
            try clear hcz54_5
            try clear hcz60_0
            try clear hcz60_1
            try clear hcz61_0
            try clear hcz61_1
            try clear hcz61_2
            try clear hcz61_3
            try clear hcz61_4
            try clear hcz61_5
            try clear hcz73_0
            try clear hcz73_1
            try clear hcz73_2
            try clear hcz73_3
            try clear hcz73_4
            try clear hcz73_5
            try clear hcz79_0
            try clear hcz79_1
            try clear hcz80_0
            try clear hcz80_1
            try clear hcz80_2
            try clear hcz80_3
            try clear hcz80_4
            try clear hcz80_5
            try clear hcz89_0
            try clear hcz89_1
            try clear hcz89_2
            try clear hcz89_3
            try clear hcz89_4
            try clear hcz89_5
            try clear hcz95_0
            try clear hcz95_1
            try clear hcz96_0
            try clear hcz96_1
            try clear hcz96_2
            try clear hcz96_3
            try clear hcz96_4
            try clear hcz96_5
            try clear hfz126_0
            try clear hfz126_1
            try clear hfz126_2
            try clear hfz126_3
            try clear hfz126_4
            try clear hfz126_5
            try clear hfz54_0
            try clear hfz54_1
            try clear hfz54_2
            try clear hfz54_3
            try clear hfz54_4
            try clear hfz54_5
            try clear hfz60_0
            try clear hfz60_1
            try clear hfz61_0
            try clear hfz61_1
            try clear hfz61_2
            try clear hfz61_3
            try clear hfz61_4
            try clear hfz61_5
            try clear hfz73_0
            try clear hfz73_1
            try clear hfz73_2
            try clear hfz73_3
            try clear hfz73_4
            try clear hfz73_5
            try clear hfz79_0
            try clear hfz79_1
            try clear hfz80_0
            try clear hfz80_1
            try clear hfz80_2
            try clear hfz80_3
            try clear hfz80_4
            try clear hfz80_5
            try clear hfz89_0
            try clear hfz89_1
            try clear hfz89_2
            try clear hfz89_3
            try clear hfz89_4
            try clear hfz89_5
            try clear hfz95_0
            try clear hfz95_1
            try clear hfz96_0
            try clear hfz96_1
            try clear hfz96_2
            try clear hfz96_3
            try clear hfz96_4
            try clear hfz96_5
            try clear hx171_0
            try clear hx171_1
            try clear hx171_2
            try clear hx171_3
            try clear hx171_4
            try clear hx171_5
            try clear p171
            try clear q0111
            try clear q109
            try clear q111
            try clear q171
            obtain ⟨x14_3,x146000_3,x146001_3,x146002_3,x146003_3,x146004_3,x146005_3,rfl,HA,HK3,HO_6,HO_7,BK144,BK145,BK146,BK156,HB⟩:=hrel
            cases gk with
            | zero=>exact absurd HA.out (by simp [spec_l06Middle.l2])
            | succ k3 =>
             have H:=HA.out
             clear HA
             simp only [spec_l06Middle.l2] at H
             by_cases c129:x14_3 < 3
             ·rw [if_pos c129] at H
              have c129b0:decide (x14_3 < 3) = true:=decide_eq_true c129
              clear c129
              by_cases c130:x14_3 = 0
              ·subst c130
               have H1:((spec_l01At.f x146000_3 x146001_3 0).bind fun t189=>(if t189 = t160 then ((spec_l01Shift.f x146000_3 x146001_3).bind fun bt190=>(spec_l06Middle.l2 k3 y186 y183 x8_1 t160 (0 + 1) a0_0 a0_1 bt190.1 bt190.2 x146002_3 x146003_3 x146004_3 x146005_3)) else (if t189 = 42 then ((spec_l01Shift.f x146000_3 x146001_3).bind fun bt192=>(spec_l06Middle.l2 k3 y186 y183 x8_1 t160 (0 + 1) a0_0 a0_1 bt192.1 bt192.2 x146002_3 x146003_3 x146004_3 x146005_3)) else (spec_l06Middle.l2 k3 y186 y183 x8_1 t160 (0 + 1) a0_0 a0_1 a0_0 a0_1 x146002_3 x146003_3 x146004_3 x146005_3)))) = some (r1,r2,r3):=by rw [if_pos rfl] at H;exact H
               clear H
               have H:=H1
               clear H1
               replace H:=Option.bind_eq_some_iff.mp H
               obtain ⟨t189,A1310,H⟩:=H
               replace H:(if t189 = t160 then ((spec_l01Shift.f x146000_3 x146001_3).bind fun bt190=>(spec_l06Middle.l2 k3 y186 y183 x8_1 t160 (0 + 1) a0_0 a0_1 bt190.1 bt190.2 x146002_3 x146003_3 x146004_3 x146005_3)) else (if t189 = 42 then ((spec_l01Shift.f x146000_3 x146001_3).bind fun bt192=>(spec_l06Middle.l2 k3 y186 y183 x8_1 t160 (0 + 1) a0_0 a0_1 bt192.1 bt192.2 x146002_3 x146003_3 x146004_3 x146005_3)) else (spec_l06Middle.l2 k3 y186 y183 x8_1 t160 (0 + 1) a0_0 a0_1 a0_0 a0_1 x146002_3 x146003_3 x146004_3 x146005_3))) = some (r1,r2,r3):=H;have A131:=aM A1310
               clear A1310
               by_cases c132:t189 = t160
               ·rw [if_pos c132] at H
                have c132b0:(t189 == t160) = true:=beq_iff_eq.mpr c132
                have c132b1:(t189 != t160) = false:=bne_eq_false_iff_eq.mpr c132
                clear c132
                replace H:=Option.bind_eq_some_iff.mp H
                obtain ⟨⟨t190,t191⟩,A1330,H⟩:=H
                replace H:(spec_l06Middle.l2 k3 y186 y183 x8_1 t160 (0 + 1) a0_0 a0_1 t190 t191 x146002_3 x146003_3 x146004_3 x146005_3) = some (r1,r2,r3):=H;have A133:=aM A1330
                clear A1330
                have H':=aM H
                clear H
                have hnb134:=NB145_144.out
                have hnc134:=NB144_145.out
                have hnb135:=NB145_146.out
                have hnc135:=NB146_145.out
                have hnb136:=NB145_156.out
                have hnc136:=NB156_145.out
                have⟨a0,a1,a2,a3,a4,a5,b0,b1,b2,b3,b4,b5⟩:=q6f BK145
                go_wp2_with (first|((with_reducible refine gate_callee (f:=20) rfl ?_);refine goesL_ (some 97) rfl rfl Try.func20 (by kernel_rfl) rfl #[.agg #[.string x146000_3,.string x146001_3],.int .i64 0] rfl (by (try simp only [sM,sC,sN]);first|done|rfl|(simp only [List.length_drop,List.length_take];rfl)) ?_;(with_reducible refine (spec_l01At.calls x146000_3 x146001_3 0 t189 _ A131.out).mono ?_);rintro e w138 ⟨rfl,hb⟩;refine ⟨_,rfl,?_⟩;replace HO_6:=ko HO_6 hb;replace HO_7:=ko HO_7 hb;replace BK144:=kb BK144 hb;replace BK145:=kb BK145 hb;replace BK146:=kb BK146 hb;replace BK156:=kb BK156 hb;replace HB:=aM (below_step (by first|exact bb HB|exact bg HB GE144|exact bg HB GE145|exact bg HB GE146|exact bg HB GE156) hb);(try clear hb);have⟨a0,a1,a2,a3,a4,a5,b0,b1,b2,b3,b4,b5⟩:=q6f BK145)|((with_reducible refine gate_callee (f:=21) rfl ?_);refine goesL_ (some 109) rfl rfl Try.func21 (by kernel_rfl) rfl #[.agg #[.string x146000_3,.string x146001_3]] rfl (by (try simp only [sM,sC,sN]);first|done|rfl|(simp only [List.length_drop,List.length_take];rfl)) ?_;(with_reducible refine (spec_l01Shift.calls x146000_3 x146001_3 t190 t191 _ A133.out).mono ?_);rintro e w140 ⟨rfl,hb⟩;refine ⟨_,rfl,?_⟩;replace HO_6:=ko HO_6 hb;replace HO_7:=ko HO_7 hb;replace BK144:=kb BK144 hb;replace BK145:=kb BK145 hb;replace BK146:=kb BK146 hb;replace BK156:=kb BK156 hb;replace HB:=aM (below_step (by first|exact bb HB|exact bg HB GE144|exact bg HB GE145|exact bg HB GE146|exact bg HB GE156) hb);(try clear hb);have⟨a0,a1,a2,a3,a4,a5,b0,b1,b2,b3,b4,b5⟩:=q6f BK145))
                go_roundg k3
                case measure=>have:=HK1.out;have:=HK2.out;have:=HK3.out;omega
                case rel=>exact ⟨(0 + 1),(t190),(t191),(x146002_3),(x146003_3),(x146004_3),(x146005_3),(by first|rfl|(simp;done)|(simp [*];done)),H',⟨by have:=HK1.out;have:=HK2.out;have:=HK3.out;omega⟩,⟨by (with_reducible repeat (first|apply rA|apply rN|apply rD));exact Kd.R_mono (Kd.R_far (p:=⟨gb145,1,none⟩) (Kd.R_far (p:=⟨gb145,0,none⟩) (Kd.R_types HO_6.out BK145.out (by decide)) (fun _ hk=>hk.2) (.string t190)) (fun _ hk=>hk.2) (.string t191)) (fun _ hk=>trivial)⟩,⟨by (with_reducible repeat (first|apply rA|apply rN|apply rD));exact Kd.R_mono (Kd.R_far (p:=⟨gb145,1,none⟩) (Kd.R_far (p:=⟨gb145,0,none⟩) (Kd.R_mono HO_7.out (fun k_ hk=>(⟨hk,hk⟩:_ ∧ k_ ≠ gb145))) (fun _ hk=>hk.2) (.string t190)) (fun _ hk=>hk.2) (.string t191)) (fun _ hk=>hk.1)⟩,⟨bf BK144 NB144_145⟩,⟨by (with_reducible repeat (first|apply yN|apply yD|apply yA));refine blk_put (cs:=#[.string t190,.string x146001_3,.string x146002_3,.string x146003_3,.string x146004_3,.string x146005_3]) ?_ 1 _ rfl;(with_reducible repeat (first|apply yN|apply yD|apply yA));refine blk_put (cs:=#[.string x146000_3,.string x146001_3,.string x146002_3,.string x146003_3,.string x146004_3,.string x146005_3]) ?_ 0 _ rfl;(with_reducible repeat (first|apply yN|apply yD|apply yA));exact BK145.out⟩,⟨bf BK146 NB146_145⟩,⟨bf BK156 NB156_145⟩,⟨by first|exact bb HB|exact bg HB GE144|exact bg HB GE145|exact bg HB GE146|exact bg HB GE156⟩⟩
               ·rw [if_neg c132] at H
                have c132b0:(t189 == t160) = false:=beq_eq_false_iff_ne.mpr c132
                have c132b1:(t189 != t160) = true:=bne_iff_ne.mpr c132
                by_cases c142:t189 = 42
                ·rw [if_pos c142] at H
                 have c142b0:(t189 == 42) = true:=beq_iff_eq.mpr c142
                 have c142b1:(t189 != 42) = false:=bne_eq_false_iff_eq.mpr c142
                 clear c142
                 replace H:=Option.bind_eq_some_iff.mp H
                 obtain ⟨⟨t192,t193⟩,A1430,H⟩:=H
                 replace H:(spec_l06Middle.l2 k3 y186 y183 x8_1 t160 (0 + 1) a0_0 a0_1 t192 t193 x146002_3 x146003_3 x146004_3 x146005_3) = some (r1,r2,r3):=H;have A143:=aM A1430
                 clear A1430
                 have H':=aM H
                 clear H
                 have hnb144:=NB145_144.out
                 have hnc144:=NB144_145.out
                 have hnb145:=NB145_146.out
                 have hnc145:=NB146_145.out
                 have hnb146:=NB145_156.out
                 have hnc146:=NB156_145.out
                 have⟨a0,a1,a2,a3,a4,a5,b0,b1,b2,b3,b4,b5⟩:=q6f BK145
                 go_wp2_with (first|((with_reducible refine gate_callee (f:=20) rfl ?_);refine goesL_ (some 97) rfl rfl Try.func20 (by kernel_rfl) rfl #[.agg #[.string x146000_3,.string x146001_3],.int .i64 0] rfl (by (try simp only [sM,sC,sN]);first|done|rfl|(simp only [List.length_drop,List.length_take];rfl)) ?_;(with_reducible refine (spec_l01At.calls x146000_3 x146001_3 0 t189 _ A131.out).mono ?_);rintro e w148 ⟨rfl,hb⟩;refine ⟨_,rfl,?_⟩;replace HO_6:=ko HO_6 hb;replace HO_7:=ko HO_7 hb;replace BK144:=kb BK144 hb;replace BK145:=kb BK145 hb;replace BK146:=kb BK146 hb;replace BK156:=kb BK156 hb;replace HB:=aM (below_step (by first|exact bb HB|exact bg HB GE144|exact bg HB GE145|exact bg HB GE146|exact bg HB GE156) hb);(try clear hb);have⟨a0,a1,a2,a3,a4,a5,b0,b1,b2,b3,b4,b5⟩:=q6f BK145)|((with_reducible refine gate_callee (f:=21) rfl ?_);refine goesL_ (some 109) rfl rfl Try.func21 (by kernel_rfl) rfl #[.agg #[.string x146000_3,.string x146001_3]] rfl (by (try simp only [sM,sC,sN]);first|done|rfl|(simp only [List.length_drop,List.length_take];rfl)) ?_;(with_reducible refine (spec_l01Shift.calls x146000_3 x146001_3 t192 t193 _ A143.out).mono ?_);rintro e w150 ⟨rfl,hb⟩;refine ⟨_,rfl,?_⟩;replace HO_6:=ko HO_6 hb;replace HO_7:=ko HO_7 hb;replace BK144:=kb BK144 hb;replace BK145:=kb BK145 hb;replace BK146:=kb BK146 hb;replace BK156:=kb BK156 hb;replace HB:=aM (below_step (by first|exact bb HB|exact bg HB GE144|exact bg HB GE145|exact bg HB GE146|exact bg HB GE156) hb);(try clear hb);have⟨a0,a1,a2,a3,a4,a5,b0,b1,b2,b3,b4,b5⟩:=q6f BK145))
                 go_roundg k3
                 case measure=>have:=HK1.out;have:=HK2.out;have:=HK3.out;omega
                 case rel=>exact ⟨(0 + 1),(t192),(t193),(x146002_3),(x146003_3),(x146004_3),(x146005_3),(by first|rfl|(simp;done)|(simp [*];done)),H',⟨by have:=HK1.out;have:=HK2.out;have:=HK3.out;omega⟩,⟨by (with_reducible repeat (first|apply rA|apply rN|apply rD));exact Kd.R_mono (Kd.R_far (p:=⟨gb145,1,none⟩) (Kd.R_far (p:=⟨gb145,0,none⟩) (Kd.R_types HO_6.out BK145.out (by decide)) (fun _ hk=>hk.2) (.string t192)) (fun _ hk=>hk.2) (.string t193)) (fun _ hk=>trivial)⟩,⟨by (with_reducible repeat (first|apply rA|apply rN|apply rD));exact Kd.R_mono (Kd.R_far (p:=⟨gb145,1,none⟩) (Kd.R_far (p:=⟨gb145,0,none⟩) (Kd.R_mono HO_7.out (fun k_ hk=>(⟨hk,hk⟩:_ ∧ k_ ≠ gb145))) (fun _ hk=>hk.2) (.string t192)) (fun _ hk=>hk.2) (.string t193)) (fun _ hk=>hk.1)⟩,⟨bf BK144 NB144_145⟩,⟨by (with_reducible repeat (first|apply yN|apply yD|apply yA));refine blk_put (cs:=#[.string t192,.string x146001_3,.string x146002_3,.string x146003_3,.string x146004_3,.string x146005_3]) ?_ 1 _ rfl;(with_reducible repeat (first|apply yN|apply yD|apply yA));refine blk_put (cs:=#[.string x146000_3,.string x146001_3,.string x146002_3,.string x146003_3,.string x146004_3,.string x146005_3]) ?_ 0 _ rfl;(with_reducible repeat (first|apply yN|apply yD|apply yA));exact BK145.out⟩,⟨bf BK146 NB146_145⟩,⟨bf BK156 NB156_145⟩,⟨by first|exact bb HB|exact bg HB GE144|exact bg HB GE145|exact bg HB GE146|exact bg HB GE156⟩⟩
                ·rw [if_neg c142] at H
                 have c142b0:(t189 == 42) = false:=beq_eq_false_iff_ne.mpr c142
                 have c142b1:(t189 != 42) = true:=bne_iff_ne.mpr c142
                 have H':=aM H
                 clear H
                 have hnb152:=NB145_144.out
                 have hnc152:=NB144_145.out
                 have hnb153:=NB145_146.out
                 have hnc153:=NB146_145.out
                 have hnb154:=NB145_156.out
                 have hnc154:=NB156_145.out
                 have⟨a0,a1,a2,a3,a4,a5,b0,b1,b2,b3,b4,b5⟩:=q6f BK145
                 go_wp2_with (first|((with_reducible refine gate_callee (f:=20) rfl ?_);refine goesL_ (some 97) rfl rfl Try.func20 (by kernel_rfl) rfl #[.agg #[.string x146000_3,.string x146001_3],.int .i64 0] rfl (by (try simp only [sM,sC,sN]);first|done|rfl|(simp only [List.length_drop,List.length_take];rfl)) ?_;(with_reducible refine (spec_l01At.calls x146000_3 x146001_3 0 t189 _ A131.out).mono ?_);rintro e w156 ⟨rfl,hb⟩;refine ⟨_,rfl,?_⟩;replace HO_6:=ko HO_6 hb;replace HO_7:=ko HO_7 hb;replace BK144:=kb BK144 hb;replace BK145:=kb BK145 hb;replace BK146:=kb BK146 hb;replace BK156:=kb BK156 hb;replace HB:=aM (below_step (by first|exact bb HB|exact bg HB GE144|exact bg HB GE145|exact bg HB GE146|exact bg HB GE156) hb);(try clear hb);have hnb157:=NB144_146.out;have hnc157:=NB146_144.out;have hnb158:=NB144_156.out;have hnc158:=NB156_144.out;have⟨a0,a1,b0,b1⟩:=q2f BK144;have⟨a0,a1,a2,a3,a4,a5,b0,b1,b2,b3,b4,b5⟩:=q6f BK145))
                 go_roundg k3
                 case measure=>have:=HK1.out;have:=HK2.out;have:=HK3.out;omega
                 case rel=>exact ⟨(0 + 1),(a0_0),(a0_1),(x146002_3),(x146003_3),(x146004_3),(x146005_3),(by first|rfl|(simp;done)|(simp [*];done)),H',⟨by have:=HK1.out;have:=HK2.out;have:=HK3.out;omega⟩,⟨by (with_reducible repeat (first|apply rA|apply rN|apply rD));exact Kd.R_mono (Kd.R_far (p:=⟨gb145,1,none⟩) (Kd.R_far (p:=⟨gb145,0,none⟩) (Kd.R_types HO_6.out BK145.out (by decide)) (fun _ hk=>hk.2) (.string a0_0)) (fun _ hk=>hk.2) (.string a0_1)) (fun _ hk=>trivial)⟩,⟨by (with_reducible repeat (first|apply rA|apply rN|apply rD));exact Kd.R_mono (Kd.R_far (p:=⟨gb145,1,none⟩) (Kd.R_far (p:=⟨gb145,0,none⟩) (Kd.R_mono HO_7.out (fun k_ hk=>(⟨hk,hk⟩:_ ∧ k_ ≠ gb145))) (fun _ hk=>hk.2) (.string a0_0)) (fun _ hk=>hk.2) (.string a0_1)) (fun _ hk=>hk.1)⟩,⟨bf BK144 NB144_145⟩,⟨by (with_reducible repeat (first|apply yN|apply yD|apply yA));refine blk_put (cs:=#[.string a0_0,.string x146001_3,.string x146002_3,.string x146003_3,.string x146004_3,.string x146005_3]) ?_ 1 _ rfl;(with_reducible repeat (first|apply yN|apply yD|apply yA));refine blk_put (cs:=#[.string x146000_3,.string x146001_3,.string x146002_3,.string x146003_3,.string x146004_3,.string x146005_3]) ?_ 0 _ rfl;(with_reducible repeat (first|apply yN|apply yD|apply yA));exact BK145.out⟩,⟨bf BK146 NB146_145⟩,⟨bf BK156 NB156_145⟩,⟨by first|exact bb HB|exact bg HB GE144|exact bg HB GE145|exact bg HB GE146|exact bg HB GE156⟩⟩
              ·rw [if_neg c130] at H
               by_cases c161:x14_3 = 1
               ·subst c161
                have H1:((spec_l01At.f x146002_3 x146003_3 0).bind fun t194=>(if t194 = t160 then ((spec_l01Shift.f x146002_3 x146003_3).bind fun bt195=>(spec_l06Middle.l2 k3 y186 y183 x8_1 t160 (1 + 1) a0_0 a0_1 x146000_3 x146001_3 bt195.1 bt195.2 x146004_3 x146005_3)) else (if t194 = 42 then ((spec_l01Shift.f x146002_3 x146003_3).bind fun bt197=>(spec_l06Middle.l2 k3 y186 y183 x8_1 t160 (1 + 1) a0_0 a0_1 x146000_3 x146001_3 bt197.1 bt197.2 x146004_3 x146005_3)) else (spec_l06Middle.l2 k3 y186 y183 x8_1 t160 (1 + 1) a0_0 a0_1 x146000_3 x146001_3 a0_0 a0_1 x146004_3 x146005_3)))) = some (r1,r2,r3):=by rw [if_pos rfl] at H;exact H
                clear H
                have H:=H1
                clear H1
                replace H:=Option.bind_eq_some_iff.mp H
                obtain ⟨t194,A1620,H⟩:=H
                replace H:(if t194 = t160 then ((spec_l01Shift.f x146002_3 x146003_3).bind fun bt195=>(spec_l06Middle.l2 k3 y186 y183 x8_1 t160 (1 + 1) a0_0 a0_1 x146000_3 x146001_3 bt195.1 bt195.2 x146004_3 x146005_3)) else (if t194 = 42 then ((spec_l01Shift.f x146002_3 x146003_3).bind fun bt197=>(spec_l06Middle.l2 k3 y186 y183 x8_1 t160 (1 + 1) a0_0 a0_1 x146000_3 x146001_3 bt197.1 bt197.2 x146004_3 x146005_3)) else (spec_l06Middle.l2 k3 y186 y183 x8_1 t160 (1 + 1) a0_0 a0_1 x146000_3 x146001_3 a0_0 a0_1 x146004_3 x146005_3))) = some (r1,r2,r3):=H;have A162:=aM A1620
                clear A1620
                by_cases c163:t194 = t160
                ·rw [if_pos c163] at H
                 have c163b0:(t194 == t160) = true:=beq_iff_eq.mpr c163
                 have c163b1:(t194 != t160) = false:=bne_eq_false_iff_eq.mpr c163
                 clear c163
                 replace H:=Option.bind_eq_some_iff.mp H
                 obtain ⟨⟨t195,t196⟩,A1640,H⟩:=H
                 replace H:(spec_l06Middle.l2 k3 y186 y183 x8_1 t160 (1 + 1) a0_0 a0_1 x146000_3 x146001_3 t195 t196 x146004_3 x146005_3) = some (r1,r2,r3):=H;have A164:=aM A1640
                 clear A1640
                 have H':=aM H
                 clear H
                 have hnb165:=NB145_144.out
                 have hnc165:=NB144_145.out
                 have hnb166:=NB145_146.out
                 have hnc166:=NB146_145.out
                 have hnb167:=NB145_156.out
                 have hnc167:=NB156_145.out
                 have⟨a0,a1,a2,a3,a4,a5,b0,b1,b2,b3,b4,b5⟩:=q6f BK145
                 go_wp2_with (first|((with_reducible refine gate_callee (f:=20) rfl ?_);refine goesL_ (some 97) rfl rfl Try.func20 (by kernel_rfl) rfl #[.agg #[.string x146002_3,.string x146003_3],.int .i64 0] rfl (by (try simp only [sM,sC,sN]);first|done|rfl|(simp only [List.length_drop,List.length_take];rfl)) ?_;(with_reducible refine (spec_l01At.calls x146002_3 x146003_3 0 t194 _ A162.out).mono ?_);rintro e w169 ⟨rfl,hb⟩;refine ⟨_,rfl,?_⟩;replace HO_6:=ko HO_6 hb;replace HO_7:=ko HO_7 hb;replace BK144:=kb BK144 hb;replace BK145:=kb BK145 hb;replace BK146:=kb BK146 hb;replace BK156:=kb BK156 hb;replace HB:=aM (below_step (by first|exact bb HB|exact bg HB GE144|exact bg HB GE145|exact bg HB GE146|exact bg HB GE156) hb);(try clear hb);have⟨a0,a1,a2,a3,a4,a5,b0,b1,b2,b3,b4,b5⟩:=q6f BK145)|((with_reducible refine gate_callee (f:=21) rfl ?_);refine goesL_ (some 109) rfl rfl Try.func21 (by kernel_rfl) rfl #[.agg #[.string x146002_3,.string x146003_3]] rfl (by (try simp only [sM,sC,sN]);first|done|rfl|(simp only [List.length_drop,List.length_take];rfl)) ?_;(with_reducible refine (spec_l01Shift.calls x146002_3 x146003_3 t195 t196 _ A164.out).mono ?_);rintro e w171 ⟨rfl,hb⟩;refine ⟨_,rfl,?_⟩;replace HO_6:=ko HO_6 hb;replace HO_7:=ko HO_7 hb;replace BK144:=kb BK144 hb;replace BK145:=kb BK145 hb;replace BK146:=kb BK146 hb;replace BK156:=kb BK156 hb;replace HB:=aM (below_step (by first|exact bb HB|exact bg HB GE144|exact bg HB GE145|exact bg HB GE146|exact bg HB GE156) hb);(try clear hb);have⟨a0,a1,a2,a3,a4,a5,b0,b1,b2,b3,b4,b5⟩:=q6f BK145))
                 go_roundg k3
                 case measure=>have:=HK1.out;have:=HK2.out;have:=HK3.out;omega
                 case rel=>exact ⟨(1 + 1),(x146000_3),(x146001_3),(t195),(t196),(x146004_3),(x146005_3),(by first|rfl|(simp;done)|(simp [*];done)),H',⟨by have:=HK1.out;have:=HK2.out;have:=HK3.out;omega⟩,⟨by (with_reducible repeat (first|apply rA|apply rN|apply rD));exact Kd.R_mono (Kd.R_far (p:=⟨gb145,3,none⟩) (Kd.R_far (p:=⟨gb145,2,none⟩) (Kd.R_types HO_6.out BK145.out (by decide)) (fun _ hk=>hk.2) (.string t195)) (fun _ hk=>hk.2) (.string t196)) (fun _ hk=>trivial)⟩,⟨by (with_reducible repeat (first|apply rA|apply rN|apply rD));exact Kd.R_mono (Kd.R_far (p:=⟨gb145,3,none⟩) (Kd.R_far (p:=⟨gb145,2,none⟩) (Kd.R_mono HO_7.out (fun k_ hk=>(⟨hk,hk⟩:_ ∧ k_ ≠ gb145))) (fun _ hk=>hk.2) (.string t195)) (fun _ hk=>hk.2) (.string t196)) (fun _ hk=>hk.1)⟩,⟨bf BK144 NB144_145⟩,⟨by (with_reducible repeat (first|apply yN|apply yD|apply yA));refine blk_put (cs:=#[.string x146000_3,.string x146001_3,.string t195,.string x146003_3,.string x146004_3,.string x146005_3]) ?_ 3 _ rfl;(with_reducible repeat (first|apply yN|apply yD|apply yA));refine blk_put (cs:=#[.string x146000_3,.string x146001_3,.string x146002_3,.string x146003_3,.string x146004_3,.string x146005_3]) ?_ 2 _ rfl;(with_reducible repeat (first|apply yN|apply yD|apply yA));exact BK145.out⟩,⟨bf BK146 NB146_145⟩,⟨bf BK156 NB156_145⟩,⟨by first|exact bb HB|exact bg HB GE144|exact bg HB GE145|exact bg HB GE146|exact bg HB GE156⟩⟩
                ·rw [if_neg c163] at H
                 have c163b0:(t194 == t160) = false:=beq_eq_false_iff_ne.mpr c163
                 have c163b1:(t194 != t160) = true:=bne_iff_ne.mpr c163
                 by_cases c173:t194 = 42
                 ·rw [if_pos c173] at H
                  have c173b0:(t194 == 42) = true:=beq_iff_eq.mpr c173
                  have c173b1:(t194 != 42) = false:=bne_eq_false_iff_eq.mpr c173
                  clear c173
                  replace H:=Option.bind_eq_some_iff.mp H
                  obtain ⟨⟨t197,t198⟩,A1740,H⟩:=H
                  replace H:(spec_l06Middle.l2 k3 y186 y183 x8_1 t160 (1 + 1) a0_0 a0_1 x146000_3 x146001_3 t197 t198 x146004_3 x146005_3) = some (r1,r2,r3):=H;have A174:=aM A1740
                  clear A1740
                  have H':=aM H
                  clear H
                  have hnb175:=NB145_144.out
                  have hnc175:=NB144_145.out
                  have hnb176:=NB145_146.out
                  have hnc176:=NB146_145.out
                  have hnb177:=NB145_156.out
                  have hnc177:=NB156_145.out
                  have⟨a0,a1,a2,a3,a4,a5,b0,b1,b2,b3,b4,b5⟩:=q6f BK145
                  go_wp2_with (first|((with_reducible refine gate_callee (f:=20) rfl ?_);refine goesL_ (some 97) rfl rfl Try.func20 (by kernel_rfl) rfl #[.agg #[.string x146002_3,.string x146003_3],.int .i64 0] rfl (by (try simp only [sM,sC,sN]);first|done|rfl|(simp only [List.length_drop,List.length_take];rfl)) ?_;(with_reducible refine (spec_l01At.calls x146002_3 x146003_3 0 t194 _ A162.out).mono ?_);rintro e w179 ⟨rfl,hb⟩;refine ⟨_,rfl,?_⟩;replace HO_6:=ko HO_6 hb;replace HO_7:=ko HO_7 hb;replace BK144:=kb BK144 hb;replace BK145:=kb BK145 hb;replace BK146:=kb BK146 hb;replace BK156:=kb BK156 hb;replace HB:=aM (below_step (by first|exact bb HB|exact bg HB GE144|exact bg HB GE145|exact bg HB GE146|exact bg HB GE156) hb);(try clear hb);have⟨a0,a1,a2,a3,a4,a5,b0,b1,b2,b3,b4,b5⟩:=q6f BK145)|((with_reducible refine gate_callee (f:=21) rfl ?_);refine goesL_ (some 109) rfl rfl Try.func21 (by kernel_rfl) rfl #[.agg #[.string x146002_3,.string x146003_3]] rfl (by (try simp only [sM,sC,sN]);first|done|rfl|(simp only [List.length_drop,List.length_take];rfl)) ?_;(with_reducible refine (spec_l01Shift.calls x146002_3 x146003_3 t197 t198 _ A174.out).mono ?_);rintro e w181 ⟨rfl,hb⟩;refine ⟨_,rfl,?_⟩;replace HO_6:=ko HO_6 hb;replace HO_7:=ko HO_7 hb;replace BK144:=kb BK144 hb;replace BK145:=kb BK145 hb;replace BK146:=kb BK146 hb;replace BK156:=kb BK156 hb;replace HB:=aM (below_step (by first|exact bb HB|exact bg HB GE144|exact bg HB GE145|exact bg HB GE146|exact bg HB GE156) hb);(try clear hb);have⟨a0,a1,a2,a3,a4,a5,b0,b1,b2,b3,b4,b5⟩:=q6f BK145))
                  go_roundg k3
                  case measure=>have:=HK1.out;have:=HK2.out;have:=HK3.out;omega
                  case rel=>exact ⟨(1 + 1),(x146000_3),(x146001_3),(t197),(t198),(x146004_3),(x146005_3),(by first|rfl|(simp;done)|(simp [*];done)),H',⟨by have:=HK1.out;have:=HK2.out;have:=HK3.out;omega⟩,⟨by (with_reducible repeat (first|apply rA|apply rN|apply rD));exact Kd.R_mono (Kd.R_far (p:=⟨gb145,3,none⟩) (Kd.R_far (p:=⟨gb145,2,none⟩) (Kd.R_types HO_6.out BK145.out (by decide)) (fun _ hk=>hk.2) (.string t197)) (fun _ hk=>hk.2) (.string t198)) (fun _ hk=>trivial)⟩,⟨by (with_reducible repeat (first|apply rA|apply rN|apply rD));exact Kd.R_mono (Kd.R_far (p:=⟨gb145,3,none⟩) (Kd.R_far (p:=⟨gb145,2,none⟩) (Kd.R_mono HO_7.out (fun k_ hk=>(⟨hk,hk⟩:_ ∧ k_ ≠ gb145))) (fun _ hk=>hk.2) (.string t197)) (fun _ hk=>hk.2) (.string t198)) (fun _ hk=>hk.1)⟩,⟨bf BK144 NB144_145⟩,⟨by (with_reducible repeat (first|apply yN|apply yD|apply yA));refine blk_put (cs:=#[.string x146000_3,.string x146001_3,.string t197,.string x146003_3,.string x146004_3,.string x146005_3]) ?_ 3 _ rfl;(with_reducible repeat (first|apply yN|apply yD|apply yA));refine blk_put (cs:=#[.string x146000_3,.string x146001_3,.string x146002_3,.string x146003_3,.string x146004_3,.string x146005_3]) ?_ 2 _ rfl;(with_reducible repeat (first|apply yN|apply yD|apply yA));exact BK145.out⟩,⟨bf BK146 NB146_145⟩,⟨bf BK156 NB156_145⟩,⟨by first|exact bb HB|exact bg HB GE144|exact bg HB GE145|exact bg HB GE146|exact bg HB GE156⟩⟩
                 ·rw [if_neg c173] at H
                  have c173b0:(t194 == 42) = false:=beq_eq_false_iff_ne.mpr c173
                  have c173b1:(t194 != 42) = true:=bne_iff_ne.mpr c173
                  have H':=aM H
                  clear H
                  have hnb183:=NB145_144.out
                  have hnc183:=NB144_145.out
                  have hnb184:=NB145_146.out
                  have hnc184:=NB146_145.out
                  have hnb185:=NB145_156.out
                  have hnc185:=NB156_145.out
                  have⟨a0,a1,a2,a3,a4,a5,b0,b1,b2,b3,b4,b5⟩:=q6f BK145
                  go_wp2_with (first|((with_reducible refine gate_callee (f:=20) rfl ?_);refine goesL_ (some 97) rfl rfl Try.func20 (by kernel_rfl) rfl #[.agg #[.string x146002_3,.string x146003_3],.int .i64 0] rfl (by (try simp only [sM,sC,sN]);first|done|rfl|(simp only [List.length_drop,List.length_take];rfl)) ?_;(with_reducible refine (spec_l01At.calls x146002_3 x146003_3 0 t194 _ A162.out).mono ?_);rintro e w187 ⟨rfl,hb⟩;refine ⟨_,rfl,?_⟩;replace HO_6:=ko HO_6 hb;replace HO_7:=ko HO_7 hb;replace BK144:=kb BK144 hb;replace BK145:=kb BK145 hb;replace BK146:=kb BK146 hb;replace BK156:=kb BK156 hb;replace HB:=aM (below_step (by first|exact bb HB|exact bg HB GE144|exact bg HB GE145|exact bg HB GE146|exact bg HB GE156) hb);(try clear hb);have hnb188:=NB144_146.out;have hnc188:=NB146_144.out;have hnb189:=NB144_156.out;have hnc189:=NB156_144.out;have⟨a0,a1,b0,b1⟩:=q2f BK144;have⟨a0,a1,a2,a3,a4,a5,b0,b1,b2,b3,b4,b5⟩:=q6f BK145))
                  go_roundg k3
                  case measure=>have:=HK1.out;have:=HK2.out;have:=HK3.out;omega
                  case rel=>exact ⟨(1 + 1),(x146000_3),(x146001_3),(a0_0),(a0_1),(x146004_3),(x146005_3),(by first|rfl|(simp;done)|(simp [*];done)),H',⟨by have:=HK1.out;have:=HK2.out;have:=HK3.out;omega⟩,⟨by (with_reducible repeat (first|apply rA|apply rN|apply rD));exact Kd.R_mono (Kd.R_far (p:=⟨gb145,3,none⟩) (Kd.R_far (p:=⟨gb145,2,none⟩) (Kd.R_types HO_6.out BK145.out (by decide)) (fun _ hk=>hk.2) (.string a0_0)) (fun _ hk=>hk.2) (.string a0_1)) (fun _ hk=>trivial)⟩,⟨by (with_reducible repeat (first|apply rA|apply rN|apply rD));exact Kd.R_mono (Kd.R_far (p:=⟨gb145,3,none⟩) (Kd.R_far (p:=⟨gb145,2,none⟩) (Kd.R_mono HO_7.out (fun k_ hk=>(⟨hk,hk⟩:_ ∧ k_ ≠ gb145))) (fun _ hk=>hk.2) (.string a0_0)) (fun _ hk=>hk.2) (.string a0_1)) (fun _ hk=>hk.1)⟩,⟨bf BK144 NB144_145⟩,⟨by (with_reducible repeat (first|apply yN|apply yD|apply yA));refine blk_put (cs:=#[.string x146000_3,.string x146001_3,.string a0_0,.string x146003_3,.string x146004_3,.string x146005_3]) ?_ 3 _ rfl;(with_reducible repeat (first|apply yN|apply yD|apply yA));refine blk_put (cs:=#[.string x146000_3,.string x146001_3,.string x146002_3,.string x146003_3,.string x146004_3,.string x146005_3]) ?_ 2 _ rfl;(with_reducible repeat (first|apply yN|apply yD|apply yA));exact BK145.out⟩,⟨bf BK146 NB146_145⟩,⟨bf BK156 NB156_145⟩,⟨by first|exact bb HB|exact bg HB GE144|exact bg HB GE145|exact bg HB GE146|exact bg HB GE156⟩⟩
               ·rw [if_neg c161] at H
                by_cases c192:x14_3 = 2
                ·subst c192
                 have H1:((spec_l01At.f x146004_3 x146005_3 0).bind fun t199=>(if t199 = t160 then ((spec_l01Shift.f x146004_3 x146005_3).bind fun bt200=>(spec_l06Middle.l2 k3 y186 y183 x8_1 t160 (2 + 1) a0_0 a0_1 x146000_3 x146001_3 x146002_3 x146003_3 bt200.1 bt200.2)) else (if t199 = 42 then ((spec_l01Shift.f x146004_3 x146005_3).bind fun bt202=>(spec_l06Middle.l2 k3 y186 y183 x8_1 t160 (2 + 1) a0_0 a0_1 x146000_3 x146001_3 x146002_3 x146003_3 bt202.1 bt202.2)) else (spec_l06Middle.l2 k3 y186 y183 x8_1 t160 (2 + 1) a0_0 a0_1 x146000_3 x146001_3 x146002_3 x146003_3 a0_0 a0_1)))) = some (r1,r2,r3):=by rw [if_pos rfl] at H;exact H
                 clear H
                 have H:=H1
                 clear H1
                 replace H:=Option.bind_eq_some_iff.mp H
                 obtain ⟨t199,A1930,H⟩:=H
                 replace H:(if t199 = t160 then ((spec_l01Shift.f x146004_3 x146005_3).bind fun bt200=>(spec_l06Middle.l2 k3 y186 y183 x8_1 t160 (2 + 1) a0_0 a0_1 x146000_3 x146001_3 x146002_3 x146003_3 bt200.1 bt200.2)) else (if t199 = 42 then ((spec_l01Shift.f x146004_3 x146005_3).bind fun bt202=>(spec_l06Middle.l2 k3 y186 y183 x8_1 t160 (2 + 1) a0_0 a0_1 x146000_3 x146001_3 x146002_3 x146003_3 bt202.1 bt202.2)) else (spec_l06Middle.l2 k3 y186 y183 x8_1 t160 (2 + 1) a0_0 a0_1 x146000_3 x146001_3 x146002_3 x146003_3 a0_0 a0_1))) = some (r1,r2,r3):=H;have A193:=aM A1930
                 clear A1930
                 by_cases c194:t199 = t160
                 ·rw [if_pos c194] at H
                  have c194b0:(t199 == t160) = true:=beq_iff_eq.mpr c194
                  have c194b1:(t199 != t160) = false:=bne_eq_false_iff_eq.mpr c194
                  clear c194
                  replace H:=Option.bind_eq_some_iff.mp H
                  obtain ⟨⟨t200,t201⟩,A1950,H⟩:=H
                  replace H:(spec_l06Middle.l2 k3 y186 y183 x8_1 t160 (2 + 1) a0_0 a0_1 x146000_3 x146001_3 x146002_3 x146003_3 t200 t201) = some (r1,r2,r3):=H;have A195:=aM A1950
                  clear A1950
                  have H':=aM H
                  clear H
                  have hnb196:=NB145_144.out
                  have hnc196:=NB144_145.out
                  have hnb197:=NB145_146.out
                  have hnc197:=NB146_145.out
                  have hnb198:=NB145_156.out
                  have hnc198:=NB156_145.out
                  have⟨a0,a1,a2,a3,a4,a5,b0,b1,b2,b3,b4,b5⟩:=q6f BK145
                  go_wp2_with (first|((with_reducible refine gate_callee (f:=20) rfl ?_);refine goesL_ (some 97) rfl rfl Try.func20 (by kernel_rfl) rfl #[.agg #[.string x146004_3,.string x146005_3],.int .i64 0] rfl (by (try simp only [sM,sC,sN]);first|done|rfl|(simp only [List.length_drop,List.length_take];rfl)) ?_;(with_reducible refine (spec_l01At.calls x146004_3 x146005_3 0 t199 _ A193.out).mono ?_);rintro e w200 ⟨rfl,hb⟩;refine ⟨_,rfl,?_⟩;replace HO_6:=ko HO_6 hb;replace HO_7:=ko HO_7 hb;replace BK144:=kb BK144 hb;replace BK145:=kb BK145 hb;replace BK146:=kb BK146 hb;replace BK156:=kb BK156 hb;replace HB:=aM (below_step (by first|exact bb HB|exact bg HB GE144|exact bg HB GE145|exact bg HB GE146|exact bg HB GE156) hb);(try clear hb);have⟨a0,a1,a2,a3,a4,a5,b0,b1,b2,b3,b4,b5⟩:=q6f BK145)|((with_reducible refine gate_callee (f:=21) rfl ?_);refine goesL_ (some 109) rfl rfl Try.func21 (by kernel_rfl) rfl #[.agg #[.string x146004_3,.string x146005_3]] rfl (by (try simp only [sM,sC,sN]);first|done|rfl|(simp only [List.length_drop,List.length_take];rfl)) ?_;(with_reducible refine (spec_l01Shift.calls x146004_3 x146005_3 t200 t201 _ A195.out).mono ?_);rintro e w202 ⟨rfl,hb⟩;refine ⟨_,rfl,?_⟩;replace HO_6:=ko HO_6 hb;replace HO_7:=ko HO_7 hb;replace BK144:=kb BK144 hb;replace BK145:=kb BK145 hb;replace BK146:=kb BK146 hb;replace BK156:=kb BK156 hb;replace HB:=aM (below_step (by first|exact bb HB|exact bg HB GE144|exact bg HB GE145|exact bg HB GE146|exact bg HB GE156) hb);(try clear hb);have⟨a0,a1,a2,a3,a4,a5,b0,b1,b2,b3,b4,b5⟩:=q6f BK145))
                  go_roundg k3
                  case measure=>have:=HK1.out;have:=HK2.out;have:=HK3.out;omega
                  case rel=>exact ⟨(2 + 1),(x146000_3),(x146001_3),(x146002_3),(x146003_3),(t200),(t201),(by first|rfl|(simp;done)|(simp [*];done)),H',⟨by have:=HK1.out;have:=HK2.out;have:=HK3.out;omega⟩,⟨by (with_reducible repeat (first|apply rA|apply rN|apply rD));exact Kd.R_mono (Kd.R_far (p:=⟨gb145,5,none⟩) (Kd.R_far (p:=⟨gb145,4,none⟩) (Kd.R_types HO_6.out BK145.out (by decide)) (fun _ hk=>hk.2) (.string t200)) (fun _ hk=>hk.2) (.string t201)) (fun _ hk=>trivial)⟩,⟨by (with_reducible repeat (first|apply rA|apply rN|apply rD));exact Kd.R_mono (Kd.R_far (p:=⟨gb145,5,none⟩) (Kd.R_far (p:=⟨gb145,4,none⟩) (Kd.R_mono HO_7.out (fun k_ hk=>(⟨hk,hk⟩:_ ∧ k_ ≠ gb145))) (fun _ hk=>hk.2) (.string t200)) (fun _ hk=>hk.2) (.string t201)) (fun _ hk=>hk.1)⟩,⟨bf BK144 NB144_145⟩,⟨by (with_reducible repeat (first|apply yN|apply yD|apply yA));refine blk_put (cs:=#[.string x146000_3,.string x146001_3,.string x146002_3,.string x146003_3,.string t200,.string x146005_3]) ?_ 5 _ rfl;(with_reducible repeat (first|apply yN|apply yD|apply yA));refine blk_put (cs:=#[.string x146000_3,.string x146001_3,.string x146002_3,.string x146003_3,.string x146004_3,.string x146005_3]) ?_ 4 _ rfl;(with_reducible repeat (first|apply yN|apply yD|apply yA));exact BK145.out⟩,⟨bf BK146 NB146_145⟩,⟨bf BK156 NB156_145⟩,⟨by first|exact bb HB|exact bg HB GE144|exact bg HB GE145|exact bg HB GE146|exact bg HB GE156⟩⟩
                 ·rw [if_neg c194] at H
                  have c194b0:(t199 == t160) = false:=beq_eq_false_iff_ne.mpr c194
                  have c194b1:(t199 != t160) = true:=bne_iff_ne.mpr c194
                  by_cases c204:t199 = 42
                  ·rw [if_pos c204] at H
                   have c204b0:(t199 == 42) = true:=beq_iff_eq.mpr c204
                   have c204b1:(t199 != 42) = false:=bne_eq_false_iff_eq.mpr c204
                   clear c204
                   replace H:=Option.bind_eq_some_iff.mp H
                   obtain ⟨⟨t202,t203⟩,A2050,H⟩:=H
                   replace H:(spec_l06Middle.l2 k3 y186 y183 x8_1 t160 (2 + 1) a0_0 a0_1 x146000_3 x146001_3 x146002_3 x146003_3 t202 t203) = some (r1,r2,r3):=H;have A205:=aM A2050
                   clear A2050
                   have H':=aM H
                   clear H
                   have hnb206:=NB145_144.out
                   have hnc206:=NB144_145.out
                   have hnb207:=NB145_146.out
                   have hnc207:=NB146_145.out
                   have hnb208:=NB145_156.out
                   have hnc208:=NB156_145.out
                   have⟨a0,a1,a2,a3,a4,a5,b0,b1,b2,b3,b4,b5⟩:=q6f BK145
                   go_wp2_with (first|((with_reducible refine gate_callee (f:=20) rfl ?_);refine goesL_ (some 97) rfl rfl Try.func20 (by kernel_rfl) rfl #[.agg #[.string x146004_3,.string x146005_3],.int .i64 0] rfl (by (try simp only [sM,sC,sN]);first|done|rfl|(simp only [List.length_drop,List.length_take];rfl)) ?_;(with_reducible refine (spec_l01At.calls x146004_3 x146005_3 0 t199 _ A193.out).mono ?_);rintro e w210 ⟨rfl,hb⟩;refine ⟨_,rfl,?_⟩;replace HO_6:=ko HO_6 hb;replace HO_7:=ko HO_7 hb;replace BK144:=kb BK144 hb;replace BK145:=kb BK145 hb;replace BK146:=kb BK146 hb;replace BK156:=kb BK156 hb;replace HB:=aM (below_step (by first|exact bb HB|exact bg HB GE144|exact bg HB GE145|exact bg HB GE146|exact bg HB GE156) hb);(try clear hb);have⟨a0,a1,a2,a3,a4,a5,b0,b1,b2,b3,b4,b5⟩:=q6f BK145)|((with_reducible refine gate_callee (f:=21) rfl ?_);refine goesL_ (some 109) rfl rfl Try.func21 (by kernel_rfl) rfl #[.agg #[.string x146004_3,.string x146005_3]] rfl (by (try simp only [sM,sC,sN]);first|done|rfl|(simp only [List.length_drop,List.length_take];rfl)) ?_;(with_reducible refine (spec_l01Shift.calls x146004_3 x146005_3 t202 t203 _ A205.out).mono ?_);rintro e w212 ⟨rfl,hb⟩;refine ⟨_,rfl,?_⟩;replace HO_6:=ko HO_6 hb;replace HO_7:=ko HO_7 hb;replace BK144:=kb BK144 hb;replace BK145:=kb BK145 hb;replace BK146:=kb BK146 hb;replace BK156:=kb BK156 hb;replace HB:=aM (below_step (by first|exact bb HB|exact bg HB GE144|exact bg HB GE145|exact bg HB GE146|exact bg HB GE156) hb);(try clear hb);have⟨a0,a1,a2,a3,a4,a5,b0,b1,b2,b3,b4,b5⟩:=q6f BK145))
                   go_roundg k3
                   case measure=>have:=HK1.out;have:=HK2.out;have:=HK3.out;omega
                   case rel=>exact ⟨(2 + 1),(x146000_3),(x146001_3),(x146002_3),(x146003_3),(t202),(t203),(by first|rfl|(simp;done)|(simp [*];done)),H',⟨by have:=HK1.out;have:=HK2.out;have:=HK3.out;omega⟩,⟨by (with_reducible repeat (first|apply rA|apply rN|apply rD));exact Kd.R_mono (Kd.R_far (p:=⟨gb145,5,none⟩) (Kd.R_far (p:=⟨gb145,4,none⟩) (Kd.R_types HO_6.out BK145.out (by decide)) (fun _ hk=>hk.2) (.string t202)) (fun _ hk=>hk.2) (.string t203)) (fun _ hk=>trivial)⟩,⟨by (with_reducible repeat (first|apply rA|apply rN|apply rD));exact Kd.R_mono (Kd.R_far (p:=⟨gb145,5,none⟩) (Kd.R_far (p:=⟨gb145,4,none⟩) (Kd.R_mono HO_7.out (fun k_ hk=>(⟨hk,hk⟩:_ ∧ k_ ≠ gb145))) (fun _ hk=>hk.2) (.string t202)) (fun _ hk=>hk.2) (.string t203)) (fun _ hk=>hk.1)⟩,⟨bf BK144 NB144_145⟩,⟨by (with_reducible repeat (first|apply yN|apply yD|apply yA));refine blk_put (cs:=#[.string x146000_3,.string x146001_3,.string x146002_3,.string x146003_3,.string t202,.string x146005_3]) ?_ 5 _ rfl;(with_reducible repeat (first|apply yN|apply yD|apply yA));refine blk_put (cs:=#[.string x146000_3,.string x146001_3,.string x146002_3,.string x146003_3,.string x146004_3,.string x146005_3]) ?_ 4 _ rfl;(with_reducible repeat (first|apply yN|apply yD|apply yA));exact BK145.out⟩,⟨bf BK146 NB146_145⟩,⟨bf BK156 NB156_145⟩,⟨by first|exact bb HB|exact bg HB GE144|exact bg HB GE145|exact bg HB GE146|exact bg HB GE156⟩⟩
                  ·rw [if_neg c204] at H
                   have c204b0:(t199 == 42) = false:=beq_eq_false_iff_ne.mpr c204
                   have c204b1:(t199 != 42) = true:=bne_iff_ne.mpr c204
                   have H':=aM H
                   clear H
                   have hnb214:=NB145_144.out
                   have hnc214:=NB144_145.out
                   have hnb215:=NB145_146.out
                   have hnc215:=NB146_145.out
                   have hnb216:=NB145_156.out
                   have hnc216:=NB156_145.out
                   have⟨a0,a1,a2,a3,a4,a5,b0,b1,b2,b3,b4,b5⟩:=q6f BK145
                   go_wp2_with (first|((with_reducible refine gate_callee (f:=20) rfl ?_);refine goesL_ (some 97) rfl rfl Try.func20 (by kernel_rfl) rfl #[.agg #[.string x146004_3,.string x146005_3],.int .i64 0] rfl (by (try simp only [sM,sC,sN]);first|done|rfl|(simp only [List.length_drop,List.length_take];rfl)) ?_;(with_reducible refine (spec_l01At.calls x146004_3 x146005_3 0 t199 _ A193.out).mono ?_);rintro e w218 ⟨rfl,hb⟩;refine ⟨_,rfl,?_⟩;replace HO_6:=ko HO_6 hb;replace HO_7:=ko HO_7 hb;replace BK144:=kb BK144 hb;replace BK145:=kb BK145 hb;replace BK146:=kb BK146 hb;replace BK156:=kb BK156 hb;replace HB:=aM (below_step (by first|exact bb HB|exact bg HB GE144|exact bg HB GE145|exact bg HB GE146|exact bg HB GE156) hb);(try clear hb);have hnb219:=NB144_146.out;have hnc219:=NB146_144.out;have hnb220:=NB144_156.out;have hnc220:=NB156_144.out;have⟨a0,a1,b0,b1⟩:=q2f BK144;have⟨a0,a1,a2,a3,a4,a5,b0,b1,b2,b3,b4,b5⟩:=q6f BK145))
                   go_roundg k3
                   case measure=>have:=HK1.out;have:=HK2.out;have:=HK3.out;omega
                   case rel=>exact ⟨(2 + 1),(x146000_3),(x146001_3),(x146002_3),(x146003_3),(a0_0),(a0_1),(by first|rfl|(simp;done)|(simp [*];done)),H',⟨by have:=HK1.out;have:=HK2.out;have:=HK3.out;omega⟩,⟨by (with_reducible repeat (first|apply rA|apply rN|apply rD));exact Kd.R_mono (Kd.R_far (p:=⟨gb145,5,none⟩) (Kd.R_far (p:=⟨gb145,4,none⟩) (Kd.R_types HO_6.out BK145.out (by decide)) (fun _ hk=>hk.2) (.string a0_0)) (fun _ hk=>hk.2) (.string a0_1)) (fun _ hk=>trivial)⟩,⟨by (with_reducible repeat (first|apply rA|apply rN|apply rD));exact Kd.R_mono (Kd.R_far (p:=⟨gb145,5,none⟩) (Kd.R_far (p:=⟨gb145,4,none⟩) (Kd.R_mono HO_7.out (fun k_ hk=>(⟨hk,hk⟩:_ ∧ k_ ≠ gb145))) (fun _ hk=>hk.2) (.string a0_0)) (fun _ hk=>hk.2) (.string a0_1)) (fun _ hk=>hk.1)⟩,⟨bf BK144 NB144_145⟩,⟨by (with_reducible repeat (first|apply yN|apply yD|apply yA));refine blk_put (cs:=#[.string x146000_3,.string x146001_3,.string x146002_3,.string x146003_3,.string a0_0,.string x146005_3]) ?_ 5 _ rfl;(with_reducible repeat (first|apply yN|apply yD|apply yA));refine blk_put (cs:=#[.string x146000_3,.string x146001_3,.string x146002_3,.string x146003_3,.string x146004_3,.string x146005_3]) ?_ 4 _ rfl;(with_reducible repeat (first|apply yN|apply yD|apply yA));exact BK145.out⟩,⟨bf BK146 NB146_145⟩,⟨bf BK156 NB156_145⟩,⟨by first|exact bb HB|exact bg HB GE144|exact bg HB GE145|exact bg HB GE146|exact bg HB GE156⟩⟩
                ·rw [if_neg c192] at H
                 exact absurd H (by simp)
             ·rw [if_neg c129] at H
              have c129b0:decide (x14_3 < 3) = false:=decide_eq_false c129
              clear c129
              have H':=aM H
              clear H
              go_wp2
              go_roundg k3
              case measure=>have:=HK1.out;have:=HK2.out;have:=HK3.out;omega
              case rel=>exact ⟨(y186),(y183),(wrap64 (x8_1 + 1)),(x146000_3),(x146001_3),(x146002_3),(x146003_3),(x146004_3),(x146005_3),(x147000_2),(x147001_2),(by first|rfl|(simp;done)|(simp [*];done)),H',⟨by have:=HK1.out;have:=HK2.out;have:=HK3.out;omega⟩,⟨rk HO_6⟩,⟨rk HO_7⟩,⟨bk BK144⟩,⟨bk BK145⟩,⟨bk BK146⟩,⟨by first|exact bb HB|exact bg HB GE144|exact bg HB GE145|exact bg HB GE146|exact bg HB GE156⟩⟩
          ·rw [if_neg c121] at H
           exact absurd H (by simp)
         ·rw [if_neg c120] at H
          exact absurd H (by simp)
   ·rw [if_neg c10] at H
    have c10b0:decide (x8_1 ≤ 600) = false:=decide_eq_false c10
    clear c10
    simp only [Option.some.injEq,Prod.mk.injEq] at H
    obtain ⟨rfl,rfl,rfl⟩:=H
    have hnb223:=NB146_144.out
    have hnc223:=NB144_146.out
    have hnb224:=NB146_145.out
    have hnc224:=NB145_146.out
    have⟨a0,a1,b0,b1⟩:=q2f BK146
    go_wp2
    refine bodyPost_ret (results_ct rfl _ _ gb146 27 #[.string ⟨#[]⟩,.string ⟨#[]⟩] (0,0) _ rfl (by (with_reducible repeat (first|apply yN|apply yD|apply yA));refine blk_put (cs:=#[.string ⟨#[]⟩,.string x147001_1]) ?_ 1 _ rfl;(with_reducible repeat (first|apply yN|apply yD|apply yA));refine blk_put (cs:=#[.string x147000_1,.string x147001_1]) ?_ 0 _ rfl;(with_reducible repeat (first|apply yN|apply yD|apply yA));exact BK146.out) Try.underlying27 rfl (by kernel_rfl)) rfl ?_
    exact ⟨by first|rfl|(simp [errW_none,errW_some] <;> rfl)|(simp [*,errW_none,errW_some] <;> rfl),by first|exact bb HB|exact bg HB GE144|exact bg HB GE145|exact bg HB GE146⟩
end Go.Proofs.Ytbiehbmojbmnoaa.Q
end
section
namespace Go.Proofs.Ytbiehbmojbmnoaa.Q
open Go.Proofs.YtbiehbmojbmnoaaW.Ext
open Go.RowKit Go.Proofs.YtbiehbmojbmnoaaW.PrintWords Go.Proofs.YtbiehbmojbmnoaaW.PrintLast Go.Proofs.YtbiehbmojbmnoaaW.PrintMore
attribute [local go_sem] max2_int min2_int max_two min_two max_three min_three max_four min_four   -- for this text's walks alone
set_option linter.unusedVariables false
set_option linter.unusedSimpArgs false
def spec_MiddleOf.f (k:Nat) (a0_0:ByteArray) (a0_1:ByteArray) (a1_0:ByteArray) (a1_1:ByteArray) (a2_0:ByteArray) (a2_1:ByteArray) (a3_0:ByteArray) (a3_1:ByteArray):Option (ByteArray × ByteArray × Int):=(spec_l06Three.f k a0_0 a0_1 a1_0 a1_1 a2_0 a2_1 a3_0 a3_1).bind fun t293=>(if t293 = 0 then ((spec_l06Middle.f k a0_0 a0_1 a1_0 a1_1 a2_0 a2_1 a3_0 a3_1).bind fun bt294=>(if bt294.2.2 = true then (some (bt294.1,bt294.2.1,0)) else (some ((⟨#[]⟩:ByteArray),(⟨#[]⟩:ByteArray),3)))) else (some ((⟨#[]⟩:ByteArray),(⟨#[]⟩:ByteArray),t293)))
theorem spec_MiddleOf.mono:∀ a0 a1 a2 a3 a4 a5 a6 a7 k,LeO (spec_MiddleOf.f k a0 a1 a2 a3 a4 a5 a6 a7) (spec_MiddleOf.f (k + 1) a0 a1 a2 a3 a4 a5 a6 a7):=by
 intro a0 a1 a2 a3 a4 a5 a6 a7 k
 unfold spec_MiddleOf.f
 repeat' first
   | (with_reducible exact spec_l06Middle.mono _ _ _ _ _ _ _ _ _)
   | (with_reducible exact spec_l06Three.mono _ _ _ _ _ _ _ _ _)
   | (with_reducible exact LeO.refl _)
   | (with_reducible exact LeO.none _)
   | (with_reducible refine LeO.ite ?_ ?_)
   | (with_reducible refine LeO.bind ?_ (fun _=>?_))
   | exact spec_l06Middle.mono _ _ _ _ _ _ _ _ _
   | exact spec_l06Three.mono _ _ _ _ _ _ _ _ _
   | exact LeO.none _
   | refine LeO.ite ?_ ?_
   | refine LeO.bind ?_ (fun _=>?_)
set_option maxHeartbeats 8000000 in
set_option maxRecDepth 100000 in
theorem spec_MiddleOf.calls (k:Nat) (a0_0:ByteArray) (a0_1:ByteArray) (a1_0:ByteArray) (a1_1:ByteArray) (a2_0:ByteArray) (a2_1:ByteArray) (a3_0:ByteArray) (a3_1:ByteArray) (r1:ByteArray) (r2:ByteArray) (r3:Int) (w:World) (h:spec_MiddleOf.f k a0_0 a0_1 a1_0 a1_1 a2_0 a2_1 a3_0 a3_1 = some (r1,r2,r3)) :
  Calls Try.prog 9 #[.agg #[.string a0_0,.string a0_1],.agg #[.string a1_0,.string a1_1],.agg #[.string a2_0,.string a2_1],.agg #[.string a3_0,.string a3_1]] w fun e w'=>e = .returned (.tuple #[.agg #[.string r1,.string r2],.int .i64 r3]) ∧ Below w.heap.size w w':=by
 have hu27:=Try.underlying27
 have hu36:=Try.underlying36
 have HB:=aM (Below.refl w.heap.size w)
 have H:((spec_l06Three.f k a0_0 a0_1 a1_0 a1_1 a2_0 a2_1 a3_0 a3_1).bind fun t293=>(if t293 = 0 then ((spec_l06Middle.f k a0_0 a0_1 a1_0 a1_1 a2_0 a2_1 a3_0 a3_1).bind fun bt294=>(if bt294.2.2 = true then (some (bt294.1,bt294.2.1,0)) else (some ((⟨#[]⟩:ByteArray),(⟨#[]⟩:ByteArray),3)))) else (some ((⟨#[]⟩:ByteArray),(⟨#[]⟩:ByteArray),t293)))) = some (r1,r2,r3):=h
 clear h
 replace H:=Option.bind_eq_some_iff.mp H
 obtain ⟨t293,A50,H⟩:=H
 replace H:(if t293 = 0 then ((spec_l06Middle.f k a0_0 a0_1 a1_0 a1_1 a2_0 a2_1 a3_0 a3_1).bind fun bt294=>(if bt294.2.2 = true then (some (bt294.1,bt294.2.1,0)) else (some ((⟨#[]⟩:ByteArray),(⟨#[]⟩:ByteArray),3)))) else (some ((⟨#[]⟩:ByteArray),(⟨#[]⟩:ByteArray),t293))) = some (r1,r2,r3):=H;have A5:=aM A50
 clear A50
 by_cases c6:t293 = 0
 ·rw [if_pos c6] at H
  have c6b0:(t293 == 0) = true:=beq_iff_eq.mpr c6
  have c6b1:(t293 != 0) = false:=bne_eq_false_iff_eq.mpr c6
  clear c6
  replace H:=Option.bind_eq_some_iff.mp H
  obtain ⟨⟨t294,t295,t296⟩,A70,H⟩:=H
  replace H:(if t296 = true then (some (t294,t295,0)) else (some ((⟨#[]⟩:ByteArray),(⟨#[]⟩:ByteArray),3))) = some (r1,r2,r3):=H;have A7:=aM A70
  clear A70
  by_cases c8:t296 = true
  ·subst c8
   have H1:(some (t294,t295,0)) = some (r1,r2,r3):=by rw [if_pos rfl] at H;exact H
   clear H
   have H:=H1
   clear H1
   simp only [Option.some.injEq,Prod.mk.injEq] at H
   obtain ⟨rfl,rfl,rfl⟩:=H
   go_enter Try.func9,Try.ntmps9
   go_wp2_with (first|((with_reducible refine gate_dst (N:=4) rfl ?_);refine box_event ?hg (N:=4) ?hd (cs:=#[.string a0_0,.string a0_1]) (t:=27) ?hr ?_;(case hd=>rfl);(case hg=>rfl);(case hr=>first|(go_simp;done)|(go_simp;rfl));intro gb288 hg w9 hbox hb;have BK288:=aM (hbox);have GW288:=wl hg HB;have GE288:=wl hg HB;replace HB:=bs HB hb;clear hb hbox hg)|((with_reducible refine gate_dst (N:=5) rfl ?_);refine box_event ?hg (N:=5) ?hd (cs:=#[.string a1_0,.string a1_1]) (t:=27) ?hr ?_;(case hd=>rfl);(case hg=>rfl);(case hr=>first|(go_simp;done)|(go_simp;rfl));intro gb289 hg w10 hbox hb;have BK289:=aM (hbox);have GW289:=wl hg HB;have GE289:=wl hg HB;have NB288_289:=nl hg BK288;have NB289_288:=nr hg BK288;replace BK288:=kb BK288 hb;replace HB:=bs HB hb;clear hb hbox hg)|((with_reducible refine gate_dst (N:=6) rfl ?_);refine box_event ?hg (N:=6) ?hd (cs:=#[.string a2_0,.string a2_1]) (t:=27) ?hr ?_;(case hd=>rfl);(case hg=>rfl);(case hr=>first|(go_simp;done)|(go_simp;rfl));intro gb290 hg w11 hbox hb;have BK290:=aM (hbox);have GW290:=wl hg HB;have GE290:=wl hg HB;have NB288_290:=nl hg BK288;have NB290_288:=nr hg BK288;have NB289_290:=nl hg BK289;have NB290_289:=nr hg BK289;replace BK288:=kb BK288 hb;replace BK289:=kb BK289 hb;replace HB:=bs HB hb;clear hb hbox hg)|((with_reducible refine gate_dst (N:=7) rfl ?_);refine box_event ?hg (N:=7) ?hd (cs:=#[.string a3_0,.string a3_1]) (t:=27) ?hr ?_;(case hd=>rfl);(case hg=>rfl);(case hr=>first|(go_simp;done)|(go_simp;rfl));intro gb291 hg w12 hbox hb;have BK291:=aM (hbox);have GW291:=wl hg HB;have GE291:=wl hg HB;have NB288_291:=nl hg BK288;have NB291_288:=nr hg BK288;have NB289_291:=nl hg BK289;have NB291_289:=nr hg BK289;have NB290_291:=nl hg BK290;have NB291_290:=nr hg BK290;replace BK288:=kb BK288 hb;replace BK289:=kb BK289 hb;replace BK290:=kb BK290 hb;replace HB:=bs HB hb;clear hb hbox hg)|((with_reducible refine gate_dst (N:=8) rfl ?_);refine box_event ?hg (N:=8) ?hd (cs:=#[.string ⟨#[]⟩,.string ⟨#[]⟩]) (t:=27) ?hr ?_;(case hd=>rfl);(case hg=>rfl);(case hr=>first|(go_simp;done)|(go_simp;rfl));intro gb292 hg w13 hbox hb;have BK292:=aM (hbox);have GW292:=wl hg HB;have GE292:=wl hg HB;have NB288_292:=nl hg BK288;have NB292_288:=nr hg BK288;have NB289_292:=nl hg BK289;have NB292_289:=nr hg BK289;have NB290_292:=nl hg BK290;have NB292_290:=nr hg BK290;have NB291_292:=nl hg BK291;have NB292_291:=nr hg BK291;replace BK288:=kb BK288 hb;replace BK289:=kb BK289 hb;replace BK290:=kb BK290 hb;replace BK291:=kb BK291 hb;replace HB:=bs HB hb;clear hb hbox hg;have hnb14:=NB288_289.out;have hnc14:=NB289_288.out;have hnb15:=NB288_290.out;have hnc15:=NB290_288.out;have hnb16:=NB288_291.out;have hnc16:=NB291_288.out;have hnb17:=NB288_292.out;have hnc17:=NB292_288.out;have⟨a0,a1,b0,b1⟩:=q2f BK288;have hnb19:=NB289_290.out;have hnc19:=NB290_289.out;have hnb20:=NB289_291.out;have hnc20:=NB291_289.out;have hnb21:=NB289_292.out;have hnc21:=NB292_289.out;have⟨a0,a1,b0,b1⟩:=q2f BK289;have hnb23:=NB290_291.out;have hnc23:=NB291_290.out;have hnb24:=NB290_292.out;have hnc24:=NB292_290.out;have⟨a0,a1,b0,b1⟩:=q2f BK290;have hnb26:=NB291_292.out;have hnc26:=NB292_291.out;have⟨a0,a1,b0,b1⟩:=q2f BK291)|((with_reducible refine gate_callee (f:=12) rfl ?_);refine goesL_ (some 17) rfl rfl Try.func12 (by kernel_rfl) rfl #[.agg #[.string a0_0,.string a0_1],.agg #[.string a1_0,.string a1_1],.agg #[.string a2_0,.string a2_1],.agg #[.string a3_0,.string a3_1]] rfl (by (try simp only [sM,sC,sN]);first|done|rfl|(simp only [List.length_drop,List.length_take];rfl)) ?_;(with_reducible refine (spec_l06Three.calls k a0_0 a0_1 a1_0 a1_1 a2_0 a2_1 a3_0 a3_1 t293 _ A5.out).mono ?_);rintro e w28 ⟨rfl,hb⟩;refine ⟨_,rfl,?_⟩;replace BK288:=kb BK288 hb;replace BK289:=kb BK289 hb;replace BK290:=kb BK290 hb;replace BK291:=kb BK291 hb;replace BK292:=kb BK292 hb;replace HB:=bs HB hb;(try clear hb);have⟨a0,a1,b0,b1⟩:=q2f BK288;have⟨a0,a1,b0,b1⟩:=q2f BK289;have⟨a0,a1,b0,b1⟩:=q2f BK290;have⟨a0,a1,b0,b1⟩:=q2f BK291)|((with_reducible refine gate_callee (f:=13) rfl ?_);refine goesL_ (some 28) rfl rfl Try.func13 (by kernel_rfl) rfl #[.agg #[.string a0_0,.string a0_1],.agg #[.string a1_0,.string a1_1,.string a2_0,.string a2_1,.string a3_0,.string a3_1]] rfl (by (try simp only [sM,sC,sN]);first|done|rfl|(simp only [List.length_drop,List.length_take];rfl)) ?_;(with_reducible refine (spec_l06Middle.calls k a0_0 a0_1 a1_0 a1_1 a2_0 a2_1 a3_0 a3_1 t294 t295 true _ A7.out).mono ?_);rintro e w33 ⟨rfl,hb⟩;refine ⟨_,rfl,?_⟩;replace BK288:=kb BK288 hb;replace BK289:=kb BK289 hb;replace BK290:=kb BK290 hb;replace BK291:=kb BK291 hb;replace BK292:=kb BK292 hb;replace HB:=bs HB hb;(try clear hb))|((with_reducible refine gate_dst (N:=11) rfl ?_);refine box_event ?hg (N:=11) ?hd (cs:=#[.string ⟨#[]⟩,.string ⟨#[]⟩]) (t:=27) ?hr ?_;(case hd=>rfl);(case hg=>rfl);(case hr=>first|(go_simp;done)|(go_simp;rfl));intro gb297 hg w34 hbox hb;have BK297:=aM (hbox);have GW297:=wl hg HB;have GE297:=wl hg HB;have NB288_297:=nl hg BK288;have NB297_288:=nr hg BK288;have NB289_297:=nl hg BK289;have NB297_289:=nr hg BK289;have NB290_297:=nl hg BK290;have NB297_290:=nr hg BK290;have NB291_297:=nl hg BK291;have NB297_291:=nr hg BK291;have NB292_297:=nl hg BK292;have NB297_292:=nr hg BK292;replace BK288:=kb BK288 hb;replace BK289:=kb BK289 hb;replace BK290:=kb BK290 hb;replace BK291:=kb BK291 hb;replace BK292:=kb BK292 hb;replace HB:=bs HB hb;clear hb hbox hg;have hnb35:=NB297_288.out;have hnc35:=NB288_297.out;have hnb36:=NB297_289.out;have hnc36:=NB289_297.out;have hnb37:=NB297_290.out;have hnc37:=NB290_297.out;have hnb38:=NB297_291.out;have hnc38:=NB291_297.out;have hnb39:=NB297_292.out;have hnc39:=NB292_297.out;have⟨a0,a1,b0,b1⟩:=q2f BK297;have⟨a0,a1,b0,b1⟩:=q2f BK292))
   refine bodyPost_ret (results_ct rfl _ _ gb292 27 #[.string t294,.string t295] (0,0) _ rfl (by (with_reducible repeat (first|apply yN|apply yD|apply yA));refine blk_put (cs:=#[.string t294,.string ⟨#[]⟩]) ?_ 1 _ rfl;(with_reducible repeat (first|apply yN|apply yD|apply yA));refine blk_put (cs:=#[.string ⟨#[]⟩,.string ⟨#[]⟩]) ?_ 0 _ rfl;(with_reducible repeat (first|apply yN|apply yD|apply yA));refine blk_far ?_ NB292_297.out _;(with_reducible repeat (first|apply yN|apply yD|apply yA));refine blk_far ?_ NB292_297.out _;(with_reducible repeat (first|apply yN|apply yD|apply yA));exact BK292.out) Try.underlying27 rfl (by kernel_rfl)) rfl ?_
   exact ⟨by first|rfl|(simp [errW_none,errW_some] <;> rfl)|(simp [*,errW_none,errW_some] <;> rfl),by repeat (first|(with_reducible first|exact HB.out|apply zA|apply zN|apply zD|refine zS ?_ GE288.out|refine zS ?_ GE289.out|refine zS ?_ GE290.out|refine zS ?_ GE291.out|refine zS ?_ GE292.out|refine zS ?_ GE297.out)|exact HB.out)⟩
  ·replace c8:=Bool.eq_false_iff.mpr c8
   subst c8
   have H1:(some ((⟨#[]⟩:ByteArray),(⟨#[]⟩:ByteArray),3)) = some (r1,r2,r3):=by rw [if_neg (show ¬ (false = true) by decide)] at H;exact H
   clear H
   have H:=H1
   clear H1
   simp only [Option.some.injEq,Prod.mk.injEq] at H
   obtain ⟨rfl,rfl,rfl⟩:=H
   go_enter Try.func9,Try.ntmps9
   go_wp2_with (first|((with_reducible refine gate_dst (N:=4) rfl ?_);refine box_event ?hg (N:=4) ?hd (cs:=#[.string a0_0,.string a0_1]) (t:=27) ?hr ?_;(case hd=>rfl);(case hg=>rfl);(case hr=>first|(go_simp;done)|(go_simp;rfl));intro gb288 hg w42 hbox hb;have BK288:=aM (hbox);have GW288:=wl hg HB;have GE288:=wl hg HB;replace HB:=bs HB hb;clear hb hbox hg)|((with_reducible refine gate_dst (N:=5) rfl ?_);refine box_event ?hg (N:=5) ?hd (cs:=#[.string a1_0,.string a1_1]) (t:=27) ?hr ?_;(case hd=>rfl);(case hg=>rfl);(case hr=>first|(go_simp;done)|(go_simp;rfl));intro gb289 hg w43 hbox hb;have BK289:=aM (hbox);have GW289:=wl hg HB;have GE289:=wl hg HB;have NB288_289:=nl hg BK288;have NB289_288:=nr hg BK288;replace BK288:=kb BK288 hb;replace HB:=bs HB hb;clear hb hbox hg)|((with_reducible refine gate_dst (N:=6) rfl ?_);refine box_event ?hg (N:=6) ?hd (cs:=#[.string a2_0,.string a2_1]) (t:=27) ?hr ?_;(case hd=>rfl);(case hg=>rfl);(case hr=>first|(go_simp;done)|(go_simp;rfl));intro gb290 hg w44 hbox hb;have BK290:=aM (hbox);have GW290:=wl hg HB;have GE290:=wl hg HB;have NB288_290:=nl hg BK288;have NB290_288:=nr hg BK288;have NB289_290:=nl hg BK289;have NB290_289:=nr hg BK289;replace BK288:=kb BK288 hb;replace BK289:=kb BK289 hb;replace HB:=bs HB hb;clear hb hbox hg)|((with_reducible refine gate_dst (N:=7) rfl ?_);refine box_event ?hg (N:=7) ?hd (cs:=#[.string a3_0,.string a3_1]) (t:=27) ?hr ?_;(case hd=>rfl);(case hg=>rfl);(case hr=>first|(go_simp;done)|(go_simp;rfl));intro gb291 hg w45 hbox hb;have BK291:=aM (hbox);have GW291:=wl hg HB;have GE291:=wl hg HB;have NB288_291:=nl hg BK288;have NB291_288:=nr hg BK288;have NB289_291:=nl hg BK289;have NB291_289:=nr hg BK289;have NB290_291:=nl hg BK290;have NB291_290:=nr hg BK290;replace BK288:=kb BK288 hb;replace BK289:=kb BK289 hb;replace BK290:=kb BK290 hb;replace HB:=bs HB hb;clear hb hbox hg)|((with_reducible refine gate_dst (N:=8) rfl ?_);refine box_event ?hg (N:=8) ?hd (cs:=#[.string ⟨#[]⟩,.string ⟨#[]⟩]) (t:=27) ?hr ?_;(case hd=>rfl);(case hg=>rfl);(case hr=>first|(go_simp;done)|(go_simp;rfl));intro gb292 hg w46 hbox hb;have BK292:=aM (hbox);have GW292:=wl hg HB;have GE292:=wl hg HB;have NB288_292:=nl hg BK288;have NB292_288:=nr hg BK288;have NB289_292:=nl hg BK289;have NB292_289:=nr hg BK289;have NB290_292:=nl hg BK290;have NB292_290:=nr hg BK290;have NB291_292:=nl hg BK291;have NB292_291:=nr hg BK291;replace BK288:=kb BK288 hb;replace BK289:=kb BK289 hb;replace BK290:=kb BK290 hb;replace BK291:=kb BK291 hb;replace HB:=bs HB hb;clear hb hbox hg;have hnb47:=NB288_289.out;have hnc47:=NB289_288.out;have hnb48:=NB288_290.out;have hnc48:=NB290_288.out;have hnb49:=NB288_291.out;have hnc49:=NB291_288.out;have hnb50:=NB288_292.out;have hnc50:=NB292_288.out;have⟨a0,a1,b0,b1⟩:=q2f BK288;have hnb52:=NB289_290.out;have hnc52:=NB290_289.out;have hnb53:=NB289_291.out;have hnc53:=NB291_289.out;have hnb54:=NB289_292.out;have hnc54:=NB292_289.out;have⟨a0,a1,b0,b1⟩:=q2f BK289;have hnb56:=NB290_291.out;have hnc56:=NB291_290.out;have hnb57:=NB290_292.out;have hnc57:=NB292_290.out;have⟨a0,a1,b0,b1⟩:=q2f BK290;have hnb59:=NB291_292.out;have hnc59:=NB292_291.out;have⟨a0,a1,b0,b1⟩:=q2f BK291)|((with_reducible refine gate_callee (f:=12) rfl ?_);refine goesL_ (some 17) rfl rfl Try.func12 (by kernel_rfl) rfl #[.agg #[.string a0_0,.string a0_1],.agg #[.string a1_0,.string a1_1],.agg #[.string a2_0,.string a2_1],.agg #[.string a3_0,.string a3_1]] rfl (by (try simp only [sM,sC,sN]);first|done|rfl|(simp only [List.length_drop,List.length_take];rfl)) ?_;(with_reducible refine (spec_l06Three.calls k a0_0 a0_1 a1_0 a1_1 a2_0 a2_1 a3_0 a3_1 t293 _ A5.out).mono ?_);rintro e w61 ⟨rfl,hb⟩;refine ⟨_,rfl,?_⟩;replace BK288:=kb BK288 hb;replace BK289:=kb BK289 hb;replace BK290:=kb BK290 hb;replace BK291:=kb BK291 hb;replace BK292:=kb BK292 hb;replace HB:=bs HB hb;(try clear hb);have⟨a0,a1,b0,b1⟩:=q2f BK288;have⟨a0,a1,b0,b1⟩:=q2f BK289;have⟨a0,a1,b0,b1⟩:=q2f BK290;have⟨a0,a1,b0,b1⟩:=q2f BK291)|((with_reducible refine gate_callee (f:=13) rfl ?_);refine goesL_ (some 28) rfl rfl Try.func13 (by kernel_rfl) rfl #[.agg #[.string a0_0,.string a0_1],.agg #[.string a1_0,.string a1_1,.string a2_0,.string a2_1,.string a3_0,.string a3_1]] rfl (by (try simp only [sM,sC,sN]);first|done|rfl|(simp only [List.length_drop,List.length_take];rfl)) ?_;(with_reducible refine (spec_l06Middle.calls k a0_0 a0_1 a1_0 a1_1 a2_0 a2_1 a3_0 a3_1 t294 t295 false _ A7.out).mono ?_);rintro e w66 ⟨rfl,hb⟩;refine ⟨_,rfl,?_⟩;replace BK288:=kb BK288 hb;replace BK289:=kb BK289 hb;replace BK290:=kb BK290 hb;replace BK291:=kb BK291 hb;replace BK292:=kb BK292 hb;replace HB:=bs HB hb;(try clear hb))|((with_reducible refine gate_dst (N:=11) rfl ?_);refine box_event ?hg (N:=11) ?hd (cs:=#[.string ⟨#[]⟩,.string ⟨#[]⟩]) (t:=27) ?hr ?_;(case hd=>rfl);(case hg=>rfl);(case hr=>first|(go_simp;done)|(go_simp;rfl));intro gb297 hg w67 hbox hb;have BK297:=aM (hbox);have GW297:=wl hg HB;have GE297:=wl hg HB;have NB288_297:=nl hg BK288;have NB297_288:=nr hg BK288;have NB289_297:=nl hg BK289;have NB297_289:=nr hg BK289;have NB290_297:=nl hg BK290;have NB297_290:=nr hg BK290;have NB291_297:=nl hg BK291;have NB297_291:=nr hg BK291;have NB292_297:=nl hg BK292;have NB297_292:=nr hg BK292;replace BK288:=kb BK288 hb;replace BK289:=kb BK289 hb;replace BK290:=kb BK290 hb;replace BK291:=kb BK291 hb;replace BK292:=kb BK292 hb;replace HB:=bs HB hb;clear hb hbox hg;have hnb68:=NB297_288.out;have hnc68:=NB288_297.out;have hnb69:=NB297_289.out;have hnc69:=NB289_297.out;have hnb70:=NB297_290.out;have hnc70:=NB290_297.out;have hnb71:=NB297_291.out;have hnc71:=NB291_297.out;have hnb72:=NB297_292.out;have hnc72:=NB292_297.out;have⟨a0,a1,b0,b1⟩:=q2f BK297;have⟨a0,a1,b0,b1⟩:=q2f BK292))
   refine bodyPost_ret (results_ct rfl _ _ gb292 27 #[.string ⟨#[]⟩,.string ⟨#[]⟩] (0,0) _ rfl (by (with_reducible repeat (first|apply yN|apply yD|apply yA));refine blk_put (cs:=#[.string ⟨#[]⟩,.string ⟨#[]⟩]) ?_ 1 _ rfl;(with_reducible repeat (first|apply yN|apply yD|apply yA));refine blk_put (cs:=#[.string ⟨#[]⟩,.string ⟨#[]⟩]) ?_ 0 _ rfl;(with_reducible repeat (first|apply yN|apply yD|apply yA));refine blk_far ?_ NB292_297.out _;(with_reducible repeat (first|apply yN|apply yD|apply yA));refine blk_far ?_ NB292_297.out _;(with_reducible repeat (first|apply yN|apply yD|apply yA));exact BK292.out) Try.underlying27 rfl (by kernel_rfl)) rfl ?_
   exact ⟨by first|rfl|(simp [errW_none,errW_some] <;> rfl)|(simp [*,errW_none,errW_some] <;> rfl),by repeat (first|(with_reducible first|exact HB.out|apply zA|apply zN|apply zD|refine zS ?_ GE288.out|refine zS ?_ GE289.out|refine zS ?_ GE290.out|refine zS ?_ GE291.out|refine zS ?_ GE292.out|refine zS ?_ GE297.out)|exact HB.out)⟩
 ·rw [if_neg c6] at H
  have c6b0:(t293 == 0) = false:=beq_eq_false_iff_ne.mpr c6
  have c6b1:(t293 != 0) = true:=bne_iff_ne.mpr c6
  simp only [Option.some.injEq,Prod.mk.injEq] at H
  obtain ⟨rfl,rfl,rfl⟩:=H
  go_enter Try.func9,Try.ntmps9
  go_wp2_with (first|((with_reducible refine gate_dst (N:=4) rfl ?_);refine box_event ?hg (N:=4) ?hd (cs:=#[.string a0_0,.string a0_1]) (t:=27) ?hr ?_;(case hd=>rfl);(case hg=>rfl);(case hr=>first|(go_simp;done)|(go_simp;rfl));intro gb288 hg w75 hbox hb;have BK288:=aM (hbox);have GW288:=wl hg HB;have GE288:=wl hg HB;replace HB:=bs HB hb;clear hb hbox hg)|((with_reducible refine gate_dst (N:=5) rfl ?_);refine box_event ?hg (N:=5) ?hd (cs:=#[.string a1_0,.string a1_1]) (t:=27) ?hr ?_;(case hd=>rfl);(case hg=>rfl);(case hr=>first|(go_simp;done)|(go_simp;rfl));intro gb289 hg w76 hbox hb;have BK289:=aM (hbox);have GW289:=wl hg HB;have GE289:=wl hg HB;have NB288_289:=nl hg BK288;have NB289_288:=nr hg BK288;replace BK288:=kb BK288 hb;replace HB:=bs HB hb;clear hb hbox hg)|((with_reducible refine gate_dst (N:=6) rfl ?_);refine box_event ?hg (N:=6) ?hd (cs:=#[.string a2_0,.string a2_1]) (t:=27) ?hr ?_;(case hd=>rfl);(case hg=>rfl);(case hr=>first|(go_simp;done)|(go_simp;rfl));intro gb290 hg w77 hbox hb;have BK290:=aM (hbox);have GW290:=wl hg HB;have GE290:=wl hg HB;have NB288_290:=nl hg BK288;have NB290_288:=nr hg BK288;have NB289_290:=nl hg BK289;have NB290_289:=nr hg BK289;replace BK288:=kb BK288 hb;replace BK289:=kb BK289 hb;replace HB:=bs HB hb;clear hb hbox hg)|((with_reducible refine gate_dst (N:=7) rfl ?_);refine box_event ?hg (N:=7) ?hd (cs:=#[.string a3_0,.string a3_1]) (t:=27) ?hr ?_;(case hd=>rfl);(case hg=>rfl);(case hr=>first|(go_simp;done)|(go_simp;rfl));intro gb291 hg w78 hbox hb;have BK291:=aM (hbox);have GW291:=wl hg HB;have GE291:=wl hg HB;have NB288_291:=nl hg BK288;have NB291_288:=nr hg BK288;have NB289_291:=nl hg BK289;have NB291_289:=nr hg BK289;have NB290_291:=nl hg BK290;have NB291_290:=nr hg BK290;replace BK288:=kb BK288 hb;replace BK289:=kb BK289 hb;replace BK290:=kb BK290 hb;replace HB:=bs HB hb;clear hb hbox hg)|((with_reducible refine gate_dst (N:=8) rfl ?_);refine box_event ?hg (N:=8) ?hd (cs:=#[.string ⟨#[]⟩,.string ⟨#[]⟩]) (t:=27) ?hr ?_;(case hd=>rfl);(case hg=>rfl);(case hr=>first|(go_simp;done)|(go_simp;rfl));intro gb292 hg w79 hbox hb;have BK292:=aM (hbox);have GW292:=wl hg HB;have GE292:=wl hg HB;have NB288_292:=nl hg BK288;have NB292_288:=nr hg BK288;have NB289_292:=nl hg BK289;have NB292_289:=nr hg BK289;have NB290_292:=nl hg BK290;have NB292_290:=nr hg BK290;have NB291_292:=nl hg BK291;have NB292_291:=nr hg BK291;replace BK288:=kb BK288 hb;replace BK289:=kb BK289 hb;replace BK290:=kb BK290 hb;replace BK291:=kb BK291 hb;replace HB:=bs HB hb;clear hb hbox hg;have hnb80:=NB288_289.out;have hnc80:=NB289_288.out;have hnb81:=NB288_290.out;have hnc81:=NB290_288.out;have hnb82:=NB288_291.out;have hnc82:=NB291_288.out;have hnb83:=NB288_292.out;have hnc83:=NB292_288.out;have⟨a0,a1,b0,b1⟩:=q2f BK288;have hnb85:=NB289_290.out;have hnc85:=NB290_289.out;have hnb86:=NB289_291.out;have hnc86:=NB291_289.out;have hnb87:=NB289_292.out;have hnc87:=NB292_289.out;have⟨a0,a1,b0,b1⟩:=q2f BK289;have hnb89:=NB290_291.out;have hnc89:=NB291_290.out;have hnb90:=NB290_292.out;have hnc90:=NB292_290.out;have⟨a0,a1,b0,b1⟩:=q2f BK290;have hnb92:=NB291_292.out;have hnc92:=NB292_291.out;have⟨a0,a1,b0,b1⟩:=q2f BK291)|((with_reducible refine gate_callee (f:=12) rfl ?_);refine goesL_ (some 17) rfl rfl Try.func12 (by kernel_rfl) rfl #[.agg #[.string a0_0,.string a0_1],.agg #[.string a1_0,.string a1_1],.agg #[.string a2_0,.string a2_1],.agg #[.string a3_0,.string a3_1]] rfl (by (try simp only [sM,sC,sN]);first|done|rfl|(simp only [List.length_drop,List.length_take];rfl)) ?_;(with_reducible refine (spec_l06Three.calls k a0_0 a0_1 a1_0 a1_1 a2_0 a2_1 a3_0 a3_1 t293 _ A5.out).mono ?_);rintro e w94 ⟨rfl,hb⟩;refine ⟨_,rfl,?_⟩;replace BK288:=kb BK288 hb;replace BK289:=kb BK289 hb;replace BK290:=kb BK290 hb;replace BK291:=kb BK291 hb;replace BK292:=kb BK292 hb;replace HB:=bs HB hb;(try clear hb);have⟨a0,a1,b0,b1⟩:=q2f BK292))
  refine bodyPost_ret (results_ct rfl _ _ gb292 27 #[.string ⟨#[]⟩,.string ⟨#[]⟩] (0,0) _ rfl (by (with_reducible repeat (first|apply yN|apply yD|apply yA));refine blk_put (cs:=#[.string ⟨#[]⟩,.string ⟨#[]⟩]) ?_ 1 _ rfl;(with_reducible repeat (first|apply yN|apply yD|apply yA));refine blk_put (cs:=#[.string ⟨#[]⟩,.string ⟨#[]⟩]) ?_ 0 _ rfl;(with_reducible repeat (first|apply yN|apply yD|apply yA));exact BK292.out) Try.underlying27 rfl (by kernel_rfl)) rfl ?_
  exact ⟨by first|rfl|(simp [errW_none,errW_some] <;> rfl)|(simp [*,errW_none,errW_some] <;> rfl),by first|exact bb HB|exact bg HB GE288|exact bg HB GE289|exact bg HB GE290|exact bg HB GE291|exact bg HB GE292⟩
def laws_eqSequence.f (a0_0:ByteArray) (a0_1:ByteArray) (a1_0:ByteArray) (a1_1:ByteArray):Option (Bool):=if a0_0.toList = a1_0.toList then (if a0_1.toList = a1_1.toList then (some true) else (some false)) else (some false)
set_option maxHeartbeats 8000000 in
set_option maxRecDepth 100000 in
theorem laws_eqSequence.calls (a0_0:ByteArray) (a0_1:ByteArray) (a1_0:ByteArray) (a1_1:ByteArray) (r:Bool) (w:World) (h:laws_eqSequence.f a0_0 a0_1 a1_0 a1_1 = some r) :
  Calls Try.prog 11 #[.agg #[.string a0_0,.string a0_1],.agg #[.string a1_0,.string a1_1]] w fun e w'=>e = .returned (.bool r) ∧ Below w.heap.size w w':=by
 have hu27:=Try.underlying27
 have HB:=aM (Below.refl w.heap.size w)
 have H:(if a0_0.toList = a1_0.toList then (if a0_1.toList = a1_1.toList then (some true) else (some false)) else (some false)) = some r:=h
 clear h
 by_cases c3:a0_0.toList = a1_0.toList
 ·rw [if_pos c3] at H
  have c3b0:(a0_0.toList == a1_0.toList) = true:=beq_iff_eq.mpr c3
  have c3b1:(a0_0.toList != a1_0.toList) = false:=bne_eq_false_iff_eq.mpr c3
  clear c3
  by_cases c4:a0_1.toList = a1_1.toList
  ·rw [if_pos c4] at H
   have c4b0:(a0_1.toList == a1_1.toList) = true:=beq_iff_eq.mpr c4
   have c4b1:(a0_1.toList != a1_1.toList) = false:=bne_eq_false_iff_eq.mpr c4
   clear c4
   obtain rfl:=Option.some.inj H
   go_enter Try.func11,Try.ntmps11
   go_wp2_with (first|((with_reducible refine gate_dst (N:=2) rfl ?_);refine box_event ?hg (N:=2) ?hd (cs:=#[.string a0_0,.string a0_1]) (t:=27) ?hr ?_;(case hd=>rfl);(case hg=>rfl);(case hr=>first|(go_simp;done)|(go_simp;rfl));intro gb298 hg w5 hbox hb;have BK298:=aM (hbox);have GW298:=wl hg HB;have GE298:=wl hg HB;replace HB:=bs HB hb;clear hb hbox hg)|((with_reducible refine gate_dst (N:=3) rfl ?_);refine box_event ?hg (N:=3) ?hd (cs:=#[.string a1_0,.string a1_1]) (t:=27) ?hr ?_;(case hd=>rfl);(case hg=>rfl);(case hr=>first|(go_simp;done)|(go_simp;rfl));intro gb299 hg w6 hbox hb;have BK299:=aM (hbox);have GW299:=wl hg HB;have GE299:=wl hg HB;have NB298_299:=nl hg BK298;have NB299_298:=nr hg BK298;replace BK298:=kb BK298 hb;replace HB:=bs HB hb;clear hb hbox hg;have hnb7:=NB298_299.out;have hnc7:=NB299_298.out;have⟨a0,a1,b0,b1⟩:=q2f BK298;have⟨a0,a1,b0,b1⟩:=q2f BK299))
   go_ret
   exact ⟨by first|rfl|(simp [errW_none,errW_some] <;> rfl)|(simp [*,errW_none,errW_some] <;> rfl),bb HB⟩
  ·rw [if_neg c4] at H
   have c4b0:(a0_1.toList == a1_1.toList) = false:=beq_eq_false_iff_ne.mpr c4
   have c4b1:(a0_1.toList != a1_1.toList) = true:=bne_iff_ne.mpr c4
   obtain rfl:=Option.some.inj H
   go_enter Try.func11,Try.ntmps11
   go_wp2_with (first|((with_reducible refine gate_dst (N:=2) rfl ?_);refine box_event ?hg (N:=2) ?hd (cs:=#[.string a0_0,.string a0_1]) (t:=27) ?hr ?_;(case hd=>rfl);(case hg=>rfl);(case hr=>first|(go_simp;done)|(go_simp;rfl));intro gb298 hg w10 hbox hb;have BK298:=aM (hbox);have GW298:=wl hg HB;have GE298:=wl hg HB;replace HB:=bs HB hb;clear hb hbox hg)|((with_reducible refine gate_dst (N:=3) rfl ?_);refine box_event ?hg (N:=3) ?hd (cs:=#[.string a1_0,.string a1_1]) (t:=27) ?hr ?_;(case hd=>rfl);(case hg=>rfl);(case hr=>first|(go_simp;done)|(go_simp;rfl));intro gb299 hg w11 hbox hb;have BK299:=aM (hbox);have GW299:=wl hg HB;have GE299:=wl hg HB;have NB298_299:=nl hg BK298;have NB299_298:=nr hg BK298;replace BK298:=kb BK298 hb;replace HB:=bs HB hb;clear hb hbox hg;have hnb12:=NB298_299.out;have hnc12:=NB299_298.out;have⟨a0,a1,b0,b1⟩:=q2f BK298;have⟨a0,a1,b0,b1⟩:=q2f BK299))
   go_ret
   exact ⟨by first|rfl|(simp [errW_none,errW_some] <;> rfl)|(simp [*,errW_none,errW_some] <;> rfl),bb HB⟩
 ·rw [if_neg c3] at H
  have c3b0:(a0_0.toList == a1_0.toList) = false:=beq_eq_false_iff_ne.mpr c3
  have c3b1:(a0_0.toList != a1_0.toList) = true:=bne_iff_ne.mpr c3
  obtain rfl:=Option.some.inj H
  go_enter Try.func11,Try.ntmps11
  go_wp2_with (first|((with_reducible refine gate_dst (N:=2) rfl ?_);refine box_event ?hg (N:=2) ?hd (cs:=#[.string a0_0,.string a0_1]) (t:=27) ?hr ?_;(case hd=>rfl);(case hg=>rfl);(case hr=>first|(go_simp;done)|(go_simp;rfl));intro gb298 hg w15 hbox hb;have BK298:=aM (hbox);have GW298:=wl hg HB;have GE298:=wl hg HB;replace HB:=bs HB hb;clear hb hbox hg)|((with_reducible refine gate_dst (N:=3) rfl ?_);refine box_event ?hg (N:=3) ?hd (cs:=#[.string a1_0,.string a1_1]) (t:=27) ?hr ?_;(case hd=>rfl);(case hg=>rfl);(case hr=>first|(go_simp;done)|(go_simp;rfl));intro gb299 hg w16 hbox hb;have BK299:=aM (hbox);have GW299:=wl hg HB;have GE299:=wl hg HB;have NB298_299:=nl hg BK298;have NB299_298:=nr hg BK298;replace BK298:=kb BK298 hb;replace HB:=bs HB hb;clear hb hbox hg;have hnb17:=NB298_299.out;have hnc17:=NB299_298.out;have⟨a0,a1,b0,b1⟩:=q2f BK298;have⟨a0,a1,b0,b1⟩:=q2f BK299))
  go_ret
  exact ⟨by first|rfl|(simp [errW_none,errW_some] <;> rfl)|(simp [*,errW_none,errW_some] <;> rfl),bb HB⟩
end Go.Proofs.Ytbiehbmojbmnoaa.Q
end
