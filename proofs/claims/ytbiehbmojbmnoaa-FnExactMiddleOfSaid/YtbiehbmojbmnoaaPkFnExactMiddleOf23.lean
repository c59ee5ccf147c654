/- Joined texts: Qx38, Qx39, Qx40, Qx41, Qx42, Qx4, Qx5, Qx6, Qx7, Qx8, Qx9, Qx10, Qx11 -/
import Derived.Test.YtbiehbmojbmnoaaPkFnExactMiddleOf22
section
namespace Go.Proofs.Ytbiehbmojbmnoaa.Q
open Go.Proofs.YtbiehbmojbmnoaaW.Ext
open Go.RowKit Go.Proofs.YtbiehbmojbmnoaaW.PrintWords Go.Proofs.YtbiehbmojbmnoaaW.PrintLast Go.Proofs.YtbiehbmojbmnoaaW.PrintMore
attribute [local go_sem] max2_int min2_int max_two min_two max_three min_three max_four min_four   -- for this text's walks alone
set_option linter.unusedVariables false
set_option linter.unusedSimpArgs false
def impl_short.f (a0_0:ByteArray) (a0_1:ByteArray):Option (ByteArray × ByteArray × Int):=if (wrap64 ((a0_0.size:Int) + (a0_1.size:Int))) > 64 then (some ((⟨#[]⟩:ByteArray),(⟨#[]⟩:ByteArray),3)) else (some (a0_0,a0_1,0))
set_option maxHeartbeats 8000000 in
set_option maxRecDepth 100000 in
theorem impl_short.calls (a0_0:ByteArray) (a0_1:ByteArray) (r1:ByteArray) (r2:ByteArray) (r3:Int) (w:World) (h:impl_short.f a0_0 a0_1 = some (r1,r2,r3)) :
  Calls Try.prog 24 #[.agg #[.string a0_0,.string a0_1]] w fun e w'=>e = .returned (.tuple #[.agg #[.string r1,.string r2],.int .i64 r3]) ∧ Below w.heap.size w w':=by
 have hu27:=Try.underlying27
 have HB:=aM (Below.refl w.heap.size w)
 have H:(if (wrap64 ((a0_0.size:Int) + (a0_1.size:Int))) > 64 then (some ((⟨#[]⟩:ByteArray),(⟨#[]⟩:ByteArray),3)) else (some (a0_0,a0_1,0))) = some (r1,r2,r3):=h
 clear h
 by_cases c2:(wrap64 ((a0_0.size:Int) + (a0_1.size:Int))) > 64
 ·rw [if_pos c2] at H
  have c2b0:decide (64 < (wrap64 ((a0_0.size:Int) + (a0_1.size:Int)))) = true:=decide_eq_true c2
  clear c2
  simp only [Option.some.injEq,Prod.mk.injEq] at H
  obtain ⟨rfl,rfl,rfl⟩:=H
  go_enter Try.func24,Try.ntmps24
  go_wp2_with (first|((with_reducible refine gate_dst (N:=1) rfl ?_);refine box_event ?hg (N:=1) ?hd (cs:=#[.string a0_0,.string a0_1]) (t:=27) ?hr ?_;(case hd=>rfl);(case hg=>rfl);(case hr=>first|(go_simp;done)|(go_simp;rfl));intro gb240 hg w3 hbox hb;have BK240:=aM (hbox);have GW240:=wl hg HB;have GE240:=wl hg HB;replace HB:=bs HB hb;clear hb hbox hg)|((with_reducible refine gate_dst (N:=2) rfl ?_);refine box_event ?hg (N:=2) ?hd (cs:=#[.string ⟨#[]⟩,.string ⟨#[]⟩]) (t:=27) ?hr ?_;(case hd=>rfl);(case hg=>rfl);(case hr=>first|(go_simp;done)|(go_simp;rfl));intro gb241 hg w4 hbox hb;have BK241:=aM (hbox);have GW241:=wl hg HB;have GE241:=wl hg HB;have NB240_241:=nl hg BK240;have NB241_240:=nr hg BK240;replace BK240:=kb BK240 hb;replace HB:=bs HB hb;clear hb hbox hg;have hnb5:=NB240_241.out;have hnc5:=NB241_240.out;have⟨a0,a1,b0,b1⟩:=q2f BK240;have⟨a0,a1,b0,b1⟩:=q2f BK241))
  refine bodyPost_ret (results_ct rfl _ _ gb241 27 #[.string ⟨#[]⟩,.string ⟨#[]⟩] (0,0) _ rfl (by (with_reducible repeat (first|apply yN|apply yD|apply yA));refine blk_put (cs:=#[.string ⟨#[]⟩,.string ⟨#[]⟩]) ?_ 1 _ rfl;(with_reducible repeat (first|apply yN|apply yD|apply yA));refine blk_put (cs:=#[.string ⟨#[]⟩,.string ⟨#[]⟩]) ?_ 0 _ rfl;(with_reducible repeat (first|apply yN|apply yD|apply yA));exact BK241.out) Try.underlying27 rfl (by kernel_rfl)) rfl ?_
  exact ⟨by first|rfl|(simp [errW_none,errW_some] <;> rfl)|(simp [*,errW_none,errW_some] <;> rfl),by first|exact bb HB|exact bg HB GE240|exact bg HB GE241⟩
 ·rw [if_neg c2] at H
  have c2b0:decide (64 < (wrap64 ((a0_0.size:Int) + (a0_1.size:Int)))) = false:=decide_eq_false c2
  clear c2
  simp only [Option.some.injEq,Prod.mk.injEq] at H
  obtain ⟨rfl,rfl,rfl⟩:=H
  go_enter Try.func24,Try.ntmps24
  go_wp2_with (first|((with_reducible refine gate_dst (N:=1) rfl ?_);refine box_event ?hg (N:=1) ?hd (cs:=#[.string a0_0,.string a0_1]) (t:=27) ?hr ?_;(case hd=>rfl);(case hg=>rfl);(case hr=>first|(go_simp;done)|(go_simp;rfl));intro gb240 hg w8 hbox hb;have BK240:=aM (hbox);have GW240:=wl hg HB;have GE240:=wl hg HB;replace HB:=bs HB hb;clear hb hbox hg)|((with_reducible refine gate_dst (N:=2) rfl ?_);refine box_event ?hg (N:=2) ?hd (cs:=#[.string ⟨#[]⟩,.string ⟨#[]⟩]) (t:=27) ?hr ?_;(case hd=>rfl);(case hg=>rfl);(case hr=>first|(go_simp;done)|(go_simp;rfl));intro gb241 hg w9 hbox hb;have BK241:=aM (hbox);have GW241:=wl hg HB;have GE241:=wl hg HB;have NB240_241:=nl hg BK240;have NB241_240:=nr hg BK240;replace BK240:=kb BK240 hb;replace HB:=bs HB hb;clear hb hbox hg;have hnb10:=NB240_241.out;have hnc10:=NB241_240.out;have⟨a0,a1,b0,b1⟩:=q2f BK240;have⟨a0,a1,b0,b1⟩:=q2f BK241))
  refine bodyPost_ret (results_ct rfl _ _ gb241 27 #[.string a0_0,.string a0_1] (0,0) _ rfl (by (with_reducible repeat (first|apply yN|apply yD|apply yA));refine blk_put (cs:=#[.string a0_0,.string ⟨#[]⟩]) ?_ 1 _ rfl;(with_reducible repeat (first|apply yN|apply yD|apply yA));refine blk_put (cs:=#[.string ⟨#[]⟩,.string ⟨#[]⟩]) ?_ 0 _ rfl;(with_reducible repeat (first|apply yN|apply yD|apply yA));exact BK241.out) Try.underlying27 rfl (by kernel_rfl)) rfl ?_
  exact ⟨by first|rfl|(simp [errW_none,errW_some] <;> rfl)|(simp [*,errW_none,errW_some] <;> rfl),by first|exact bb HB|exact bg HB GE240|exact bg HB GE241⟩
section
def voteStep (i x:Int) (s:Int × Int × Int):Int × Int × Int:=if x = 48 then (s.1 + 1,s.2.1,s.2.2) else if x = 49 then (s.1,s.2.1 + 1,s.2.2) else (s.1,s.2.1,i)
def voteAt (x0 x1 x2:Int) (i:Int):Int × Int × Int:=if i = 0 then (0,0,-1) else if i = 1 then voteStep 0 x0 (0,0,-1) else if i = 2 then voteStep 1 x1 (voteStep 0 x0 (0,0,-1)) else voteStep 2 x2 (voteStep 1 x1 (voteStep 0 x0 (0,0,-1)))
def voteEnd (s:Int × Int × Int):Int × Int:=if s.1 > 1 then (48,-1) else if s.2.1 > 1 then (49,-1) else (0,s.2.2)
def impl_three_vote.f (a0_0 a0_1 a0_2 a0_3 a0_4 a0_5:ByteArray):Option (Int × Int) :=
 (impl_Sequence_at.f a0_0 a0_1 0).bind fun x0=>(impl_Sequence_at.f a0_2 a0_3 0).bind fun x1=>(impl_Sequence_at.f a0_4 a0_5 0).bind fun x2=>some (voteEnd (voteAt x0 x1 x2 3))
set_option maxHeartbeats 4000000 in
theorem impl_three_vote.calls (a0_0 a0_1 a0_2 a0_3 a0_4 a0_5:ByteArray) (r1 r2:Int) (w:World) (h:impl_three_vote.f a0_0 a0_1 a0_2 a0_3 a0_4 a0_5 = some (r1,r2)) :
  Calls Try.prog 26 #[.agg #[.string a0_0,.string a0_1,.string a0_2,.string a0_3,.string a0_4,.string a0_5]] w fun e w'=>e = .returned (.tuple #[.int .u8 r1,.int .i64 r2]) ∧ Below w.heap.size w w':=by
 unfold impl_three_vote.f at h
 obtain ⟨x0,h0,h⟩:=Option.bind_eq_some_iff.1 h
 obtain ⟨x1,h1,h⟩:=Option.bind_eq_some_iff.1 h
 obtain ⟨x2,h2,h⟩:=Option.bind_eq_some_iff.1 h
 have c0:∀ W,Calls Try.prog 37 #[.agg #[.string a0_0,.string a0_1],.int .i64 0] W fun e w'=>e = .returned (.int .u8 x0) ∧ Below W.heap.size W w':=fun W=>(impl_Sequence_at.calls _ _ _ x0 W h0).mono fun e w' ⟨he,hd⟩=>⟨he,by first|exact hd|exact hd.below⟩
 have c1:∀ W,Calls Try.prog 37 #[.agg #[.string a0_2,.string a0_3],.int .i64 0] W fun e w'=>e = .returned (.int .u8 x1) ∧ Below W.heap.size W w':=fun W=>(impl_Sequence_at.calls _ _ _ x1 W h1).mono fun e w' ⟨he,hd⟩=>⟨he,by first|exact hd|exact hd.below⟩
 have c2:∀ W,Calls Try.prog 37 #[.agg #[.string a0_4,.string a0_5],.int .i64 0] W fun e w'=>e = .returned (.int .u8 x2) ∧ Below W.heap.size W w':=fun W=>(impl_Sequence_at.calls _ _ _ x2 W h2).mono fun e w' ⟨he,hd⟩=>⟨he,by first|exact hd|exact hd.below⟩
 have C0:=aM c0;have C1:=aM c1;have C2:=aM c2;have HE:=aM (Option.some.inj h)
 clear c0 c1 c2 h h0 h1 h2
 have q0:∀ W,(Instr.index 37 (.agg #[.string a0_0,.string a0_1,.string a0_2,.string a0_3,.string a0_4,.string a0_5]) (.int .i64 0)).run Try.prog W = .ok (.agg #[.string a0_0,.string a0_1]) W:=fun W=>by kernel_rfl
 have q1:∀ W,(Instr.index 37 (.agg #[.string a0_0,.string a0_1,.string a0_2,.string a0_3,.string a0_4,.string a0_5]) (.int .i64 1)).run Try.prog W = .ok (.agg #[.string a0_2,.string a0_3]) W:=fun W=>by kernel_rfl
 have q2:∀ W,(Instr.index 37 (.agg #[.string a0_0,.string a0_1,.string a0_2,.string a0_3,.string a0_4,.string a0_5]) (.int .i64 2)).run Try.prog W = .ok (.agg #[.string a0_4,.string a0_5]) W:=fun W=>by kernel_rfl
 have hu27:=Try.underlying27
 have hu37:=Try.underlying37
 go_enter Try.func26,Try.ntmps26
 go_wp2
 go_loopg [10,4,5,6] 3 (fun gg v10 v4 v5 v6 wr=>∃ (i z o s:Int),(i = 0 ∨ i = 1 ∨ i = 2 ∨ i = 3) ∧ 3 - i.toNat ≤ gg ∧ v10 = .int .i64 i ∧ v4 = .int .i64 z ∧ v5 = .int .i64 o ∧ v6 = .int .i64 s ∧ (0 ≤ z ∧ z ≤ i ∧ 0 ≤ o ∧ o ≤ i) ∧ Aside0 (voteAt x0 x1 x2 i = (z,o,s)) ∧ Aside0 (Below w.heap.size w wr))
 case atStart=>exact ⟨0,0,0,-1,.inl rfl,by decide,rfl,rfl,rfl,rfl,by decide,⟨rfl⟩,⟨(Below.refl _ _).alloc (Nat.le_refl _) _⟩⟩
 case round =>
  obtain ⟨i,z,o,s,hi,hg,rfl,rfl,rfl,rfl,hz,HV,HB⟩:=hrel
  have wz:wrap64 (z + 1) = z + 1:=by unfold wrap64;omega
  have wo:wrap64 (o + 1) = o + 1:=by unfold wrap64;omega
  rcases hi with rfl|rfl|rfl|rfl
  ·have q:=q0 wr
   go_wp2_with (go_at_call 37;refine (C0.out _).mono ?_;rintro e w' ⟨rfl,hb'⟩)
   all_goals
    go_roundg 2
    case measure=>omega
    case rel=>exact ⟨1,_,_,_,.inr (.inl rfl),by decide,rfl,rfl,rfl,rfl,by omega,⟨by have e:=HV.out;show voteStep 0 x0 (voteAt x0 x1 x2 0) = _;rw [e];unfold voteStep;simp_all⟩,⟨(HB.out.alloc HB.out.size _).trans (hb'.mono (by have:=HB.out.size;simp;omega))⟩⟩
  ·have q:=q1 wr
   go_wp2_with (go_at_call 37;refine (C1.out _).mono ?_;rintro e w' ⟨rfl,hb'⟩)
   all_goals
    go_roundg 1
    case measure=>omega
    case rel=>exact ⟨2,_,_,_,.inr (.inr (.inl rfl)),by decide,rfl,rfl,rfl,rfl,by omega,⟨by have e:=HV.out;show voteStep 1 x1 (voteAt x0 x1 x2 1) = _;rw [e];unfold voteStep;simp_all⟩,⟨(HB.out.alloc HB.out.size _).trans (hb'.mono (by have:=HB.out.size;simp;omega))⟩⟩
  ·have q:=q2 wr
   go_wp2_with (go_at_call 37;refine (C2.out _).mono ?_;rintro e w' ⟨rfl,hb'⟩)
   all_goals
    go_roundg 0
    case measure=>omega
    case rel=>exact ⟨3,_,_,_,.inr (.inr (.inr rfl)),by decide,rfl,rfl,rfl,rfl,by omega,⟨by have e:=HV.out;show voteStep 2 x2 (voteAt x0 x1 x2 2) = _;rw [e];unfold voteStep;simp_all⟩,⟨(HB.out.alloc HB.out.size _).trans (hb'.mono (by have:=HB.out.size;simp;omega))⟩⟩
  ·have HR:=aM (HE.out.symm.trans (congrArg voteEnd HV.out))
   go_wp2
   all_goals
    go_ret2
    have e:=HR.out
    have hb:=HB.out
    simp only [voteEnd] at e
    (repeat' split at e) <;> first|(exfalso;omega)|(obtain ⟨rfl,rfl⟩:=Prod.mk.inj e;exact ⟨rfl,hb⟩)
end
section
def mvOne (v0 v1:ByteArray) (letter:Int) (s0 s1:ByteArray):Option (ByteArray × ByteArray) :=
 (impl_Sequence_at.f s0 s1 0).bind fun x=>if x ≠ letter ∧ x ≠ 42 then some (v0,v1) else impl_Sequence_shift.f s0 s1
def impl_Sequence_moved.f (a0_0 a0_1 a1_0 a1_1 a1_2 a1_3 a1_4 a1_5:ByteArray) (a2:Int):Option (ByteArray × ByteArray × ByteArray × ByteArray × ByteArray × ByteArray) :=
 (mvOne a0_0 a0_1 a2 a1_0 a1_1).bind fun y0=>(mvOne a0_0 a0_1 a2 a1_2 a1_3).bind fun y1=>(mvOne a0_0 a0_1 a2 a1_4 a1_5).bind fun y2=>some (y0.1,y0.2,y1.1,y1.2,y2.1,y2.2)
def mvCells (a0 a1 a2 a3 a4 a5 y0 y1 y2 y3 y4 y5:ByteArray) (i:Int):Array Value :=
 if i = 0 then #[.string a0,.string a1,.string a2,.string a3,.string a4,.string a5] else if i = 1 then #[.string y0,.string y1,.string a2,.string a3,.string a4,.string a5] else if i = 2 then #[.string y0,.string y1,.string y2,.string y3,.string a4,.string a5] else #[.string y0,.string y1,.string y2,.string y3,.string y4,.string y5]
set_option maxHeartbeats 4000000 in
theorem impl_Sequence_moved.calls (a0_0 a0_1 a1_0 a1_1 a1_2 a1_3 a1_4 a1_5:ByteArray) (a2:Int) (r1 r2 r3 r4 r5 r6:ByteArray) (w:World) (h:impl_Sequence_moved.f a0_0 a0_1 a1_0 a1_1 a1_2 a1_3 a1_4 a1_5 a2 = some (r1,r2,r3,r4,r5,r6)) :
  Calls Try.prog 27 #[.agg #[.string a0_0,.string a0_1],.agg #[.string a1_0,.string a1_1,.string a1_2,.string a1_3,.string a1_4,.string a1_5],.int .u8 a2] w fun e w'=>e = .returned (.agg #[.string r1,.string r2,.string r3,.string r4,.string r5,.string r6]) ∧ Below w.heap.size w w':=by
 unfold impl_Sequence_moved.f at h
 obtain ⟨⟨y0,y1⟩,h0,h⟩:=Option.bind_eq_some_iff.1 h
 obtain ⟨⟨y2,y3⟩,h1,h⟩:=Option.bind_eq_some_iff.1 h
 obtain ⟨⟨y4,y5⟩,h2,h⟩:=Option.bind_eq_some_iff.1 h
 simp only [Option.some.injEq,Prod.mk.injEq] at h
 obtain ⟨rfl,rfl,rfl,rfl,rfl,rfl⟩:=h
 unfold mvOne at h0 h1 h2
 obtain ⟨x0,g0,h0⟩:=Option.bind_eq_some_iff.1 h0
 obtain ⟨x1,g1,h1⟩:=Option.bind_eq_some_iff.1 h1
 obtain ⟨x2,g2,h2⟩:=Option.bind_eq_some_iff.1 h2
 have c0:∀ W,Calls Try.prog 37 #[.agg #[.string a1_0,.string a1_1],.int .i64 0] W fun e w'=>e = .returned (.int .u8 x0) ∧ Below W.heap.size W w':=fun W=>(impl_Sequence_at.calls _ _ _ x0 W g0).mono fun e w' ⟨he,hd⟩=>⟨he,by first|exact hd|exact hd.below⟩
 have c1:∀ W,Calls Try.prog 37 #[.agg #[.string a1_2,.string a1_3],.int .i64 0] W fun e w'=>e = .returned (.int .u8 x1) ∧ Below W.heap.size W w':=fun W=>(impl_Sequence_at.calls _ _ _ x1 W g1).mono fun e w' ⟨he,hd⟩=>⟨he,by first|exact hd|exact hd.below⟩
 have c2:∀ W,Calls Try.prog 37 #[.agg #[.string a1_4,.string a1_5],.int .i64 0] W fun e w'=>e = .returned (.int .u8 x2) ∧ Below W.heap.size W w':=fun W=>(impl_Sequence_at.calls _ _ _ x2 W g2).mono fun e w' ⟨he,hd⟩=>⟨he,by first|exact hd|exact hd.below⟩
 have C0:=aM c0;have C1:=aM c1;have C2:=aM c2;have H0:=aM h0;have H1:=aM h1;have H2:=aM h2
 clear c0 c1 c2 h0 h1 h2 g0 g1 g2
 have q0:∀ W,(Instr.index 37 (.agg #[.string a1_0,.string a1_1,.string a1_2,.string a1_3,.string a1_4,.string a1_5]) (.int .i64 0)).run Try.prog W = .ok (.agg #[.string a1_0,.string a1_1]) W:=fun W=>by kernel_rfl
 have q1:∀ W,(Instr.index 37 (.agg #[.string a1_0,.string a1_1,.string a1_2,.string a1_3,.string a1_4,.string a1_5]) (.int .i64 1)).run Try.prog W = .ok (.agg #[.string a1_2,.string a1_3]) W:=fun W=>by kernel_rfl
 have q2:∀ W,(Instr.index 37 (.agg #[.string a1_0,.string a1_1,.string a1_2,.string a1_3,.string a1_4,.string a1_5]) (.int .i64 2)).run Try.prog W = .ok (.agg #[.string a1_4,.string a1_5]) W:=fun W=>by kernel_rfl
 have hu27:=Try.underlying27
 have hu37:=Try.underlying37
 go_enter Try.func27,Try.ntmps27
 go_wp2
 go_loopg [11] 3 (fun gg v11 wr=>∃ (i:Int),(i = 0 ∨ i = 1 ∨ i = 2 ∨ i = 3) ∧ 3 - i.toNat ≤ gg ∧ v11 = .int .i64 i ∧ Aside0 (wr.heap[w.heap.size]? = some (.cells #[.string a0_0,.string a0_1] 27 (0,0))) ∧ Aside0 (wr.heap[w.heap.size + 1]? = some (.cells (mvCells a1_0 a1_1 a1_2 a1_3 a1_4 a1_5 y0 y1 y2 y3 y4 y5 i) 37 (0,0))) ∧ Aside0 (wr.heap[w.heap.size + 1 + 1]? = some (.cells #[.string ⟨#[]⟩,.string ⟨#[]⟩,.string ⟨#[]⟩,.string ⟨#[]⟩,.string ⟨#[]⟩,.string ⟨#[]⟩] 37 (0,0))) ∧ Aside0 (Below w.heap.size w wr) ∧ Aside0 (w.heap.size + 3 ≤ wr.heap.size))
 case atStart =>
  have s1:(w.alloc (.cells #[.string a0_0,.string a0_1] 27)).heap.size = w.heap.size + 1:=by simp
  have s2:((w.alloc (.cells #[.string a0_0,.string a0_1] 27)).alloc (.cells #[.string a1_0,.string a1_1,.string a1_2,.string a1_3,.string a1_4,.string a1_5] 37)).heap.size = w.heap.size + 1 + 1:=by simp
  exact ⟨0,.inl rfl,by decide,rfl,⟨yA (yA (blk_new _ _) _) _⟩,⟨s1 ▸ yA (blk_new _ _) _⟩,⟨s2 ▸ blk_new _ _⟩,⟨zA (zA (zA (Below.refl _ _) _) _) _⟩,⟨by simp⟩⟩
 case round =>
  obtain ⟨i,hi,hg,rfl,HV,HP,HR,HB,HZ⟩:=hrel
  rcases hi with rfl|rfl|rfl|rfl
  ·have q:=q0 wr
   have HP':wr.heap[w.heap.size + 1]? = some (.cells #[.string a1_0,.string a1_1,.string a1_2,.string a1_3,.string a1_4,.string a1_5] 37 (0,0)):=HP.out
   clear HP
   have HP:=aM HP'
   clear HP'
   have e0:=H0.out
   by_cases d1:x0 = a2
   ·rw [if_neg (by simp [d1])] at e0
    have CS:=aM (fun W=>(impl_Sequence_shift.calls _ _ y0 y1 W e0).mono fun e w' (hh:e = .returned (.agg #[.string y0,.string y1]) ∧ Below W.heap.size W w')=>hh)
    have b1:(x0 != a2) = false:=bne_eq_false_iff_eq.mpr d1
    clear e0 d1
    go_wp2_with (first|(go_at_call 37;refine (C0.out _).mono ?_;rintro e wA ⟨rfl,hb'⟩;have GV:=aM (blk_below (yA HV.out _) hb');have GP:=aM (blk_below (yA HP.out _) hb');have GR:=aM (blk_below (yA HR.out _) hb');have GS:=aM (blk_below (blk_new wr (.cells #[.string a1_0,.string a1_1] 27)) hb');have HBA:=aM ((HB.out.alloc HB.out.size _).trans (hb'.mono (by have:=HB.out.size;simp;omega)));have HZA:=aM (Nat.le_trans HZ.out (Nat.le_trans (by simp) hb'.size));clear hb' HV HP HR HB HZ;have HV:=GV;have HP:=GP;have HR:=GR;have HB:=HBA;have HZ:=HZA;clear GV GP GR HBA HZA;have GS0:=(blk_cell GS.out 0).trans rfl;have GS1:=(blk_cell GS.out 1).trans rfl)|(go_at_call 38;refine (CS.out _).mono ?_;rintro e wB ⟨rfl,hb'⟩;have GV:=aM (blk_below HV.out hb');have GP:=aM (blk_below HP.out hb');have GR:=aM (blk_below HR.out hb');have HBA:=aM (HB.out.trans (hb'.mono HB.out.size));have HZA:=aM (Nat.le_trans HZ.out hb'.size);clear hb' HV HP HR HB HZ GS;have HV:=GV;have HP:=GP;have HR:=GR;have HB:=HBA;have HZ:=HZA;clear GV GP GR HBA HZA;have FP0:=blk_frozen HP.out 0;have FP1:=blk_frozen HP.out 1;have GC0:=(blk_cell HP.out 0).trans rfl;have GC1:=(blk_cell HP.out 1).trans rfl))
    all_goals
     go_roundg 2
     case measure=>omega
     case rel=>exact ⟨1,.inr (.inl rfl),by decide,rfl,⟨blk_far (blk_far HV.out (by simp) _) (by simp) _⟩,⟨blk_put (cs:=#[.string y0,.string a1_1,.string a1_2,.string a1_3,.string a1_4,.string a1_5]) (blk_put (cs:=#[.string a1_0,.string a1_1,.string a1_2,.string a1_3,.string a1_4,.string a1_5]) HP.out 0 _ rfl) 1 _ rfl⟩,⟨blk_far (blk_far HR.out (by simp) _) (by simp) _⟩,⟨zS (zS HB.out (by omega)) (by omega)⟩,⟨by have:=HZ.out;simpa [World.setCell] using this⟩⟩
   ·have b1:(x0 != a2) = true:=bne_iff_ne.mpr d1
    by_cases d2:x0 = 42
    ·rw [if_neg (by simp [d2])] at e0
     have CS:=aM (fun W=>(impl_Sequence_shift.calls _ _ y0 y1 W e0).mono fun e w' (hh:e = .returned (.agg #[.string y0,.string y1]) ∧ Below W.heap.size W w')=>hh)
     have b2:(x0 != 42) = false:=bne_eq_false_iff_eq.mpr d2
     clear e0 d1 d2
     go_wp2_with (first|(go_at_call 37;refine (C0.out _).mono ?_;rintro e wA ⟨rfl,hb'⟩;have GV:=aM (blk_below (yA HV.out _) hb');have GP:=aM (blk_below (yA HP.out _) hb');have GR:=aM (blk_below (yA HR.out _) hb');have GS:=aM (blk_below (blk_new wr (.cells #[.string a1_0,.string a1_1] 27)) hb');have HBA:=aM ((HB.out.alloc HB.out.size _).trans (hb'.mono (by have:=HB.out.size;simp;omega)));have HZA:=aM (Nat.le_trans HZ.out (Nat.le_trans (by simp) hb'.size));clear hb' HV HP HR HB HZ;have HV:=GV;have HP:=GP;have HR:=GR;have HB:=HBA;have HZ:=HZA;clear GV GP GR HBA HZA;have GS0:=(blk_cell GS.out 0).trans rfl;have GS1:=(blk_cell GS.out 1).trans rfl)|(go_at_call 38;refine (CS.out _).mono ?_;rintro e wB ⟨rfl,hb'⟩;have GV:=aM (blk_below HV.out hb');have GP:=aM (blk_below HP.out hb');have GR:=aM (blk_below HR.out hb');have HBA:=aM (HB.out.trans (hb'.mono HB.out.size));have HZA:=aM (Nat.le_trans HZ.out hb'.size);clear hb' HV HP HR HB HZ GS;have HV:=GV;have HP:=GP;have HR:=GR;have HB:=HBA;have HZ:=HZA;clear GV GP GR HBA HZA;have FP0:=blk_frozen HP.out 0;have FP1:=blk_frozen HP.out 1;have GC0:=(blk_cell HP.out 0).trans rfl;have GC1:=(blk_cell HP.out 1).trans rfl))
     all_goals
      go_roundg 2
      case measure=>omega
      case rel=>exact ⟨1,.inr (.inl rfl),by decide,rfl,⟨blk_far (blk_far HV.out (by simp) _) (by simp) _⟩,⟨blk_put (cs:=#[.string y0,.string a1_1,.string a1_2,.string a1_3,.string a1_4,.string a1_5]) (blk_put (cs:=#[.string a1_0,.string a1_1,.string a1_2,.string a1_3,.string a1_4,.string a1_5]) HP.out 0 _ rfl) 1 _ rfl⟩,⟨blk_far (blk_far HR.out (by simp) _) (by simp) _⟩,⟨zS (zS HB.out (by omega)) (by omega)⟩,⟨by have:=HZ.out;simpa [World.setCell] using this⟩⟩
    ·rw [if_pos ⟨d1,d2⟩] at e0
     have b2:(x0 != 42) = true:=bne_iff_ne.mpr d2
     obtain ⟨rfl,rfl⟩:=Prod.mk.inj (Option.some.inj e0)
     clear e0 d1 d2
     go_wp2_with (go_at_call 37;refine (C0.out _).mono ?_;rintro e wA ⟨rfl,hb'⟩;have GV:=aM (blk_below (yA HV.out _) hb');have GP:=aM (blk_below (yA HP.out _) hb');have GR:=aM (blk_below (yA HR.out _) hb');have GS:=aM (blk_below (blk_new wr (.cells #[.string a1_0,.string a1_1] 27)) hb');have HBA:=aM ((HB.out.alloc HB.out.size _).trans (hb'.mono (by have:=HB.out.size;simp;omega)));have HZA:=aM (Nat.le_trans HZ.out (Nat.le_trans (by simp) hb'.size));clear hb' HV HP HR HB HZ;have HV:=GV;have HP:=GP;have HR:=GR;have HB:=HBA;have HZ:=HZA;clear GV GP GR HBA HZA;have GS0:=(blk_cell GS.out 0).trans rfl;have GS1:=(blk_cell GS.out 1).trans rfl;have GA0:=(blk_cell HV.out 0).trans rfl;have GA1:=(blk_cell HV.out 1).trans rfl;have FP0:=blk_frozen HP.out 0;have FP1:=blk_frozen HP.out 1;have GC0:=(blk_cell HP.out 0).trans rfl;have GC1:=(blk_cell HP.out 1).trans rfl)
     all_goals
      go_roundg 2
      case measure=>omega
      case rel=>exact ⟨1,.inr (.inl rfl),by decide,rfl,⟨blk_far (blk_far HV.out (by simp) _) (by simp) _⟩,⟨blk_put (cs:=#[.string a0_0,.string a1_1,.string a1_2,.string a1_3,.string a1_4,.string a1_5]) (blk_put (cs:=#[.string a1_0,.string a1_1,.string a1_2,.string a1_3,.string a1_4,.string a1_5]) HP.out 0 _ rfl) 1 _ rfl⟩,⟨blk_far (blk_far HR.out (by simp) _) (by simp) _⟩,⟨zS (zS HB.out (by omega)) (by omega)⟩,⟨by have:=HZ.out;simpa [World.setCell] using this⟩⟩
  ·have q:=q1 wr
   have HP':wr.heap[w.heap.size + 1]? = some (.cells #[.string y0,.string y1,.string a1_2,.string a1_3,.string a1_4,.string a1_5] 37 (0,0)):=HP.out
   clear HP
   have HP:=aM HP'
   clear HP'
   have e0:=H1.out
   by_cases d1:x1 = a2
   ·rw [if_neg (by simp [d1])] at e0
    have CS:=aM (fun W=>(impl_Sequence_shift.calls _ _ y2 y3 W e0).mono fun e w' (hh:e = .returned (.agg #[.string y2,.string y3]) ∧ Below W.heap.size W w')=>hh)
    have b1:(x1 != a2) = false:=bne_eq_false_iff_eq.mpr d1
    clear e0 d1
    go_wp2_with (first|(go_at_call 37;refine (C1.out _).mono ?_;rintro e wA ⟨rfl,hb'⟩;have GV:=aM (blk_below (yA HV.out _) hb');have GP:=aM (blk_below (yA HP.out _) hb');have GR:=aM (blk_below (yA HR.out _) hb');have GS:=aM (blk_below (blk_new wr (.cells #[.string a1_2,.string a1_3] 27)) hb');have HBA:=aM ((HB.out.alloc HB.out.size _).trans (hb'.mono (by have:=HB.out.size;simp;omega)));have HZA:=aM (Nat.le_trans HZ.out (Nat.le_trans (by simp) hb'.size));clear hb' HV HP HR HB HZ;have HV:=GV;have HP:=GP;have HR:=GR;have HB:=HBA;have HZ:=HZA;clear GV GP GR HBA HZA;have GS0:=(blk_cell GS.out 0).trans rfl;have GS1:=(blk_cell GS.out 1).trans rfl)|(go_at_call 38;refine (CS.out _).mono ?_;rintro e wB ⟨rfl,hb'⟩;have GV:=aM (blk_below HV.out hb');have GP:=aM (blk_below HP.out hb');have GR:=aM (blk_below HR.out hb');have HBA:=aM (HB.out.trans (hb'.mono HB.out.size));have HZA:=aM (Nat.le_trans HZ.out hb'.size);clear hb' HV HP HR HB HZ GS;have HV:=GV;have HP:=GP;have HR:=GR;have HB:=HBA;have HZ:=HZA;clear GV GP GR HBA HZA;have FP0:=blk_frozen HP.out 2;have FP1:=blk_frozen HP.out 3;have GC0:=(blk_cell HP.out 2).trans rfl;have GC1:=(blk_cell HP.out 3).trans rfl))
    all_goals
     go_roundg 1
     case measure=>omega
     case rel=>exact ⟨2,.inr (.inr (.inl rfl)),by decide,rfl,⟨blk_far (blk_far HV.out (by simp) _) (by simp) _⟩,⟨blk_put (cs:=#[.string y0,.string y1,.string y2,.string a1_3,.string a1_4,.string a1_5]) (blk_put (cs:=#[.string y0,.string y1,.string a1_2,.string a1_3,.string a1_4,.string a1_5]) HP.out 2 _ rfl) 3 _ rfl⟩,⟨blk_far (blk_far HR.out (by simp) _) (by simp) _⟩,⟨zS (zS HB.out (by omega)) (by omega)⟩,⟨by have:=HZ.out;simpa [World.setCell] using this⟩⟩
   ·have b1:(x1 != a2) = true:=bne_iff_ne.mpr d1
    by_cases d2:x1 = 42
    ·rw [if_neg (by simp [d2])] at e0
     have CS:=aM (fun W=>(impl_Sequence_shift.calls _ _ y2 y3 W e0).mono fun e w' (hh:e = .returned (.agg #[.string y2,.string y3]) ∧ Below W.heap.size W w')=>hh)
     have b2:(x1 != 42) = false:=bne_eq_false_iff_eq.mpr d2
     clear e0 d1 d2
     go_wp2_with (first|(go_at_call 37;refine (C1.out _).mono ?_;rintro e wA ⟨rfl,hb'⟩;have GV:=aM (blk_below (yA HV.out _) hb');have GP:=aM (blk_below (yA HP.out _) hb');have GR:=aM (blk_below (yA HR.out _) hb');have GS:=aM (blk_below (blk_new wr (.cells #[.string a1_2,.string a1_3] 27)) hb');have HBA:=aM ((HB.out.alloc HB.out.size _).trans (hb'.mono (by have:=HB.out.size;simp;omega)));have HZA:=aM (Nat.le_trans HZ.out (Nat.le_trans (by simp) hb'.size));clear hb' HV HP HR HB HZ;have HV:=GV;have HP:=GP;have HR:=GR;have HB:=HBA;have HZ:=HZA;clear GV GP GR HBA HZA;have GS0:=(blk_cell GS.out 0).trans rfl;have GS1:=(blk_cell GS.out 1).trans rfl)|(go_at_call 38;refine (CS.out _).mono ?_;rintro e wB ⟨rfl,hb'⟩;have GV:=aM (blk_below HV.out hb');have GP:=aM (blk_below HP.out hb');have GR:=aM (blk_below HR.out hb');have HBA:=aM (HB.out.trans (hb'.mono HB.out.size));have HZA:=aM (Nat.le_trans HZ.out hb'.size);clear hb' HV HP HR HB HZ GS;have HV:=GV;have HP:=GP;have HR:=GR;have HB:=HBA;have HZ:=HZA;clear GV GP GR HBA HZA;have FP0:=blk_frozen HP.out 2;have FP1:=blk_frozen HP.out 3;have GC0:=(blk_cell HP.out 2).trans rfl;have GC1:=(blk_cell HP.out 3).trans rfl))
     all_goals
      go_roundg 1
      case measure=>omega
      case rel=>exact ⟨2,.inr (.inr (.inl rfl)),by decide,rfl,⟨blk_far (blk_far HV.out (by simp) _) (by simp) _⟩,⟨blk_put (cs:=#[.string y0,.string y1,.string y2,.string a1_3,.string a1_4,.string a1_5]) (blk_put (cs:=#[.string y0,.string y1,.string a1_2,.string a1_3,.string a1_4,.string a1_5]) HP.out 2 _ rfl) 3 _ rfl⟩,⟨blk_far (blk_far HR.out (by simp) _) (by simp) _⟩,⟨zS (zS HB.out (by omega)) (by omega)⟩,⟨by have:=HZ.out;simpa [World.setCell] using this⟩⟩
    ·rw [if_pos ⟨d1,d2⟩] at e0
     have b2:(x1 != 42) = true:=bne_iff_ne.mpr d2
     obtain ⟨rfl,rfl⟩:=Prod.mk.inj (Option.some.inj e0)
     clear e0 d1 d2
     go_wp2_with (go_at_call 37;refine (C1.out _).mono ?_;rintro e wA ⟨rfl,hb'⟩;have GV:=aM (blk_below (yA HV.out _) hb');have GP:=aM (blk_below (yA HP.out _) hb');have GR:=aM (blk_below (yA HR.out _) hb');have GS:=aM (blk_below (blk_new wr (.cells #[.string a1_2,.string a1_3] 27)) hb');have HBA:=aM ((HB.out.alloc HB.out.size _).trans (hb'.mono (by have:=HB.out.size;simp;omega)));have HZA:=aM (Nat.le_trans HZ.out (Nat.le_trans (by simp) hb'.size));clear hb' HV HP HR HB HZ;have HV:=GV;have HP:=GP;have HR:=GR;have HB:=HBA;have HZ:=HZA;clear GV GP GR HBA HZA;have GS0:=(blk_cell GS.out 0).trans rfl;have GS1:=(blk_cell GS.out 1).trans rfl;have GA0:=(blk_cell HV.out 0).trans rfl;have GA1:=(blk_cell HV.out 1).trans rfl;have FP0:=blk_frozen HP.out 2;have FP1:=blk_frozen HP.out 3;have GC0:=(blk_cell HP.out 2).trans rfl;have GC1:=(blk_cell HP.out 3).trans rfl)
     all_goals
      go_roundg 1
      case measure=>omega
      case rel=>exact ⟨2,.inr (.inr (.inl rfl)),by decide,rfl,⟨blk_far (blk_far HV.out (by simp) _) (by simp) _⟩,⟨blk_put (cs:=#[.string y0,.string y1,.string a0_0,.string a1_3,.string a1_4,.string a1_5]) (blk_put (cs:=#[.string y0,.string y1,.string a1_2,.string a1_3,.string a1_4,.string a1_5]) HP.out 2 _ rfl) 3 _ rfl⟩,⟨blk_far (blk_far HR.out (by simp) _) (by simp) _⟩,⟨zS (zS HB.out (by omega)) (by omega)⟩,⟨by have:=HZ.out;simpa [World.setCell] using this⟩⟩
  ·have q:=q2 wr
   have HP':wr.heap[w.heap.size + 1]? = some (.cells #[.string y0,.string y1,.string y2,.string y3,.string a1_4,.string a1_5] 37 (0,0)):=HP.out
   clear HP
   have HP:=aM HP'
   clear HP'
   have e0:=H2.out
   by_cases d1:x2 = a2
   ·rw [if_neg (by simp [d1])] at e0
    have CS:=aM (fun W=>(impl_Sequence_shift.calls _ _ y4 y5 W e0).mono fun e w' (hh:e = .returned (.agg #[.string y4,.string y5]) ∧ Below W.heap.size W w')=>hh)
    have b1:(x2 != a2) = false:=bne_eq_false_iff_eq.mpr d1
    clear e0 d1
    go_wp2_with (first|(go_at_call 37;refine (C2.out _).mono ?_;rintro e wA ⟨rfl,hb'⟩;have GV:=aM (blk_below (yA HV.out _) hb');have GP:=aM (blk_below (yA HP.out _) hb');have GR:=aM (blk_below (yA HR.out _) hb');have GS:=aM (blk_below (blk_new wr (.cells #[.string a1_4,.string a1_5] 27)) hb');have HBA:=aM ((HB.out.alloc HB.out.size _).trans (hb'.mono (by have:=HB.out.size;simp;omega)));have HZA:=aM (Nat.le_trans HZ.out (Nat.le_trans (by simp) hb'.size));clear hb' HV HP HR HB HZ;have HV:=GV;have HP:=GP;have HR:=GR;have HB:=HBA;have HZ:=HZA;clear GV GP GR HBA HZA;have GS0:=(blk_cell GS.out 0).trans rfl;have GS1:=(blk_cell GS.out 1).trans rfl)|(go_at_call 38;refine (CS.out _).mono ?_;rintro e wB ⟨rfl,hb'⟩;have GV:=aM (blk_below HV.out hb');have GP:=aM (blk_below HP.out hb');have GR:=aM (blk_below HR.out hb');have HBA:=aM (HB.out.trans (hb'.mono HB.out.size));have HZA:=aM (Nat.le_trans HZ.out hb'.size);clear hb' HV HP HR HB HZ GS;have HV:=GV;have HP:=GP;have HR:=GR;have HB:=HBA;have HZ:=HZA;clear GV GP GR HBA HZA;have FP0:=blk_frozen HP.out 4;have FP1:=blk_frozen HP.out 5;have GC0:=(blk_cell HP.out 4).trans rfl;have GC1:=(blk_cell HP.out 5).trans rfl))
    all_goals
     go_roundg 0
     case measure=>omega
     case rel=>exact ⟨3,.inr (.inr (.inr rfl)),by decide,rfl,⟨blk_far (blk_far HV.out (by simp) _) (by simp) _⟩,⟨blk_put (cs:=#[.string y0,.string y1,.string y2,.string y3,.string y4,.string a1_5]) (blk_put (cs:=#[.string y0,.string y1,.string y2,.string y3,.string a1_4,.string a1_5]) HP.out 4 _ rfl) 5 _ rfl⟩,⟨blk_far (blk_far HR.out (by simp) _) (by simp) _⟩,⟨zS (zS HB.out (by omega)) (by omega)⟩,⟨by have:=HZ.out;simpa [World.setCell] using this⟩⟩
   ·have b1:(x2 != a2) = true:=bne_iff_ne.mpr d1
    by_cases d2:x2 = 42
    ·rw [if_neg (by simp [d2])] at e0
     have CS:=aM (fun W=>(impl_Sequence_shift.calls _ _ y4 y5 W e0).mono fun e w' (hh:e = .returned (.agg #[.string y4,.string y5]) ∧ Below W.heap.size W w')=>hh)
     have b2:(x2 != 42) = false:=bne_eq_false_iff_eq.mpr d2
     clear e0 d1 d2
     go_wp2_with (first|(go_at_call 37;refine (C2.out _).mono ?_;rintro e wA ⟨rfl,hb'⟩;have GV:=aM (blk_below (yA HV.out _) hb');have GP:=aM (blk_below (yA HP.out _) hb');have GR:=aM (blk_below (yA HR.out _) hb');have GS:=aM (blk_below (blk_new wr (.cells #[.string a1_4,.string a1_5] 27)) hb');have HBA:=aM ((HB.out.alloc HB.out.size _).trans (hb'.mono (by have:=HB.out.size;simp;omega)));have HZA:=aM (Nat.le_trans HZ.out (Nat.le_trans (by simp) hb'.size));clear hb' HV HP HR HB HZ;have HV:=GV;have HP:=GP;have HR:=GR;have HB:=HBA;have HZ:=HZA;clear GV GP GR HBA HZA;have GS0:=(blk_cell GS.out 0).trans rfl;have GS1:=(blk_cell GS.out 1).trans rfl)|(go_at_call 38;refine (CS.out _).mono ?_;rintro e wB ⟨rfl,hb'⟩;have GV:=aM (blk_below HV.out hb');have GP:=aM (blk_below HP.out hb');have GR:=aM (blk_below HR.out hb');have HBA:=aM (HB.out.trans (hb'.mono HB.out.size));have HZA:=aM (Nat.le_trans HZ.out hb'.size);clear hb' HV HP HR HB HZ GS;have HV:=GV;have HP:=GP;have HR:=GR;have HB:=HBA;have HZ:=HZA;clear GV GP GR HBA HZA;have FP0:=blk_frozen HP.out 4;have FP1:=blk_frozen HP.out 5;have GC0:=(blk_cell HP.out 4).trans rfl;have GC1:=(blk_cell HP.out 5).trans rfl))
     all_goals
      go_roundg 0
      case measure=>omega
      case rel=>exact ⟨3,.inr (.inr (.inr rfl)),by decide,rfl,⟨blk_far (blk_far HV.out (by simp) _) (by simp) _⟩,⟨blk_put (cs:=#[.string y0,.string y1,.string y2,.string y3,.string y4,.string a1_5]) (blk_put (cs:=#[.string y0,.string y1,.string y2,.string y3,.string a1_4,.string a1_5]) HP.out 4 _ rfl) 5 _ rfl⟩,⟨blk_far (blk_far HR.out (by simp) _) (by simp) _⟩,⟨zS (zS HB.out (by omega)) (by omega)⟩,⟨by have:=HZ.out;simpa [World.setCell] using this⟩⟩
    ·rw [if_pos ⟨d1,d2⟩] at e0
     have b2:(x2 != 42) = true:=bne_iff_ne.mpr d2
     obtain ⟨rfl,rfl⟩:=Prod.mk.inj (Option.some.inj e0)
     clear e0 d1 d2
     go_wp2_with (go_at_call 37;refine (C2.out _).mono ?_;rintro e wA ⟨rfl,hb'⟩;have GV:=aM (blk_below (yA HV.out _) hb');have GP:=aM (blk_below (yA HP.out _) hb');have GR:=aM (blk_below (yA HR.out _) hb');have GS:=aM (blk_below (blk_new wr (.cells #[.string a1_4,.string a1_5] 27)) hb');have HBA:=aM ((HB.out.alloc HB.out.size _).trans (hb'.mono (by have:=HB.out.size;simp;omega)));have HZA:=aM (Nat.le_trans HZ.out (Nat.le_trans (by simp) hb'.size));clear hb' HV HP HR HB HZ;have HV:=GV;have HP:=GP;have HR:=GR;have HB:=HBA;have HZ:=HZA;clear GV GP GR HBA HZA;have GS0:=(blk_cell GS.out 0).trans rfl;have GS1:=(blk_cell GS.out 1).trans rfl;have GA0:=(blk_cell HV.out 0).trans rfl;have GA1:=(blk_cell HV.out 1).trans rfl;have FP0:=blk_frozen HP.out 4;have FP1:=blk_frozen HP.out 5;have GC0:=(blk_cell HP.out 4).trans rfl;have GC1:=(blk_cell HP.out 5).trans rfl)
     all_goals
      go_roundg 0
      case measure=>omega
      case rel=>exact ⟨3,.inr (.inr (.inr rfl)),by decide,rfl,⟨blk_far (blk_far HV.out (by simp) _) (by simp) _⟩,⟨blk_put (cs:=#[.string y0,.string y1,.string y2,.string y3,.string a0_0,.string a1_5]) (blk_put (cs:=#[.string y0,.string y1,.string y2,.string y3,.string a1_4,.string a1_5]) HP.out 4 _ rfl) 5 _ rfl⟩,⟨blk_far (blk_far HR.out (by simp) _) (by simp) _⟩,⟨zS (zS HB.out (by omega)) (by omega)⟩,⟨by have:=HZ.out;simpa [World.setCell] using this⟩⟩
  ·have HP':wr.heap[w.heap.size + 1]? = some (.cells #[.string y0,.string y1,.string y2,.string y3,.string y4,.string y5] 37 (0,0)):=HP.out
   clear HP
   have G0:=(blk_cell HP' 0).trans rfl
   have G1:=(blk_cell HP' 1).trans rfl
   have G2:=(blk_cell HP' 2).trans rfl
   have G3:=(blk_cell HP' 3).trans rfl
   have G4:=(blk_cell HP' 4).trans rfl
   have G5:=(blk_cell HP' 5).trans rfl
   have K0:=(blk_cell HR.out 0).trans rfl
   have K1:=(blk_cell HR.out 1).trans rfl
   have K2:=(blk_cell HR.out 2).trans rfl
   have K3:=(blk_cell HR.out 3).trans rfl
   have K4:=(blk_cell HR.out 4).trans rfl
   have K5:=(blk_cell HR.out 5).trans rfl
   have F0:=blk_frozen HR.out 0
   have F1:=blk_frozen HR.out 1
   have F2:=blk_frozen HR.out 2
   have F3:=blk_frozen HR.out 3
   have F4:=blk_frozen HR.out 4
   have F5:=blk_frozen HR.out 5
   go_wp2
   refine bodyPost_ret (results_cell_row rfl _ _ (w.heap.size + 1 + 1) 37 #[.string y0,.string y1,.string y2,.string y3,.string y4,.string y5] (0,0) _ rfl (blk_put (cs:=#[.string y0,.string y1,.string y2,.string y3,.string y4,.string ⟨#[]⟩]) (blk_put (cs:=#[.string y0,.string y1,.string y2,.string y3,.string ⟨#[]⟩,.string ⟨#[]⟩]) (blk_put (cs:=#[.string y0,.string y1,.string y2,.string ⟨#[]⟩,.string ⟨#[]⟩,.string ⟨#[]⟩]) (blk_put (cs:=#[.string y0,.string y1,.string ⟨#[]⟩,.string ⟨#[]⟩,.string ⟨#[]⟩,.string ⟨#[]⟩]) (blk_put (cs:=#[.string y0,.string ⟨#[]⟩,.string ⟨#[]⟩,.string ⟨#[]⟩,.string ⟨#[]⟩,.string ⟨#[]⟩]) (blk_put (cs:=#[.string ⟨#[]⟩,.string ⟨#[]⟩,.string ⟨#[]⟩,.string ⟨#[]⟩,.string ⟨#[]⟩,.string ⟨#[]⟩]) (HR.out) 0 _ rfl) 1 _ rfl) 2 _ rfl) 3 _ rfl) 4 _ rfl) 5 _ rfl) Try.underlying37 rfl (by kernel_rfl)) rfl ?_
   exact ⟨rfl,zS (zS (zS (zS (zS (zS (HB.out) (by omega)) (by omega)) (by omega)) (by omega)) (by omega)) (by omega)⟩
end
section
open Go.Maps Go.WideMaps
theorem laid3:laidOutB Try.prog = true:=by kernel_rfl
theorem row37:(37:TypeId) < Try.prog.types.size:=by
 show (37:Nat) < _
 exact of_decide_eq_true (by kernel_rfl)
theorem wide37:(match Try.prog.underlying 37 with|some (.array _ _)|some (.struct _)=>true|_=>false) = true:=by kernel_rfl
theorem law37:Keyed Try.prog 37:=Keyed.of_law (deep_law_laid laid3 (m:=4) (by omega) row37 (by kernel_rfl) wide37)
theorem kt37:Try.prog.keyType 37 = true:=by kernel_rfl
theorem cells37_:Try.prog.cellsOf 37 = 6:=by kernel_rfl
theorem cells27_:Try.prog.cellsOf 27 = 2:=by kernel_rfl
theorem cells9_:Try.prog.cellsOf 9 = 1:=by kernel_rfl
theorem sz3:∃ m,Try.prog.types.size = m + 3:=⟨Try.prog.types.size - 3,by
 have:(3:Nat) ≤ Try.prog.types.size:=of_decide_eq_true (by kernel_rfl)
 omega⟩
theorem key37 (a0 a1 a2 a3 a4 a5:ByteArray) (h0:a0.size ≤ maxLen) (h1:a1.size ≤ maxLen) (h2:a2.size ≤ maxLen) (h3:a3.size ≤ maxLen) (h4:a4.size ≤ maxLen) (h5:a5.size ≤ maxLen) :
  ∃ kl,keyOf Try.prog 37 (.agg #[.string a0,.string a1,.string a2,.string a3,.string a4,.string a5]) = some kl:=by
 obtain ⟨m,hm⟩:=sz3
 have hu:=Try.underlying37
 have hv:=Try.underlying27
 have h9:=Try.underlying9
 unfold keyOf
 simp only [hu]
 rw [if_pos (by simp [kt37,Value.formed,hu,cells37_]),hm]
 unfold Program.keyLits
 simp only [hu,Value.cells]
 rw [if_pos (by rw [cells37_];rfl),show List.range 3 = [0,1,2] from rfl,List.mapM_cons,List.mapM_cons,List.mapM_cons,List.mapM_nil]
 simp [cells27_,cells9_,Program.keyLits,hv,h9,h0,h1,h2,h3,h4,h5]
structure P6 where
 p0:ByteArray
 p1:ByteArray
 p2:ByteArray
 p3:ByteArray
 p4:ByteArray
 p5:ByteArray
deriving DecidableEq
def P6.cells (p:P6):Array Value:=#[.string p.p0,.string p.p1,.string p.p2,.string p.p3,.string p.p4,.string p.p5]
def P6.ok (p:P6):Prop:=p.p0.size ≤ 1000 ∧ p.p1.size ≤ 1000 ∧ p.p2.size ≤ 1000 ∧ p.p3.size ≤ 1000 ∧ p.p4.size ≤ 1000 ∧ p.p5.size ≤ 1000
instance (p:P6):Decidable p.ok:=by unfold P6.ok;infer_instance
theorem P6.key (p:P6) (h:p.ok):∃ kl,keyOf Try.prog 37 (.agg p.cells) = some kl:=by
 obtain ⟨h0,h1,h2,h3,h4,h5⟩:=h
 have hm:(1000:Nat) ≤ maxLen:=by unfold maxLen;omega
 exact key37 _ _ _ _ _ _ (Nat.le_trans h0 hm) (Nat.le_trans h1 hm) (Nat.le_trans h2 hm) (Nat.le_trans h3 hm) (Nat.le_trans h4 hm) (Nat.le_trans h5 hm)
theorem P6.cells_inj {p q:P6} (h:(Value.agg p.cells) = .agg q.cells):p = q:=by
 cases p;cases q
 simp only [P6.cells,Value.agg.injEq] at h
 have h':=congrArg Array.toList h
 simp at h'
 simp [h']
def idx6:List P6 → P6 → Option Nat
 | [],_=>none
 | x :: r,p=>if x = p then some 0 else (idx6 r p).map (· + 1)
theorem idx6_snoc_same:∀ (l:List P6) (p:P6),idx6 l p = none → idx6 (l ++ [p]) p = some l.length
 | [],p,_=>by simp [idx6]
 | x :: r,p,h=>by
  unfold idx6 at h
  split at h
  ·cases h
  ·rename_i hne
   have:=idx6_snoc_same r p (by simpa using h)
   simp [idx6,hne,this]
theorem idx6_snoc_other:∀ (l:List P6) (p q:P6),p ≠ q → idx6 (l ++ [p]) q = idx6 l q
 | [],p,q,h=>by simp [idx6,h]
 | x :: r,p,q,h=>by
  have:=idx6_snoc_other r p q h
  simp only [List.cons_append,idx6,this]
theorem idx6_lt:∀ (l:List P6) (p:P6) (i:Nat),idx6 l p = some i → i < l.length
 | [],_,_,h=>by cases h
 | x :: r,p,i,h=>by
  unfold idx6 at h
  split at h
  ·obtain rfl:=Option.some.inj h;simp
  ·obtain ⟨j,hj,rfl⟩:=Option.map_eq_some_iff.1 h
   have:=idx6_lt r p j hj
   simp;omega
def Tie (seen:List P6) (D:DataW Unit):Prop :=
 ∀ p kl,keyOf Try.prog 37 (.agg p.cells) = some kl →
  (idx6 seen p = none → has D kl = false) ∧ (∀ i,idx6 seen p = some i → has D kl = true ∧ D.atKey kl (.lit (.int .i64 0)) = .lit (.int .i64 i))
theorem Tie.nil:Tie [] (.map []):=fun p kl _=>⟨fun _=>rfl,fun i h=>by cases h⟩
theorem Tie.snoc {seen:List P6} {D:DataW Unit} (h:Tie seen D) (hD:IsMap D) {p:P6} {kl:Lit} (hk:keyOf Try.prog 37 (.agg p.cells) = some kl) (hn:idx6 seen p = none) :
  Tie (seen ++ [p]) (D.put kl (.lit (.int .i64 seen.length))):=by
 intro q kq hq
 by_cases e:p = q
 ·subst e
  obtain rfl:kl = kq:=Option.some.inj (hk.symm.trans hq)
  rw [idx6_snoc_same seen p hn]
  refine ⟨fun h=>(by cases h),fun i hi=>?_⟩
  obtain rfl:=Option.some.inj hi
  exact ⟨has_put_same hD (law37.key hk) _,atKey_put_same hD (law37.key hk) _ _⟩
 ·rw [idx6_snoc_other seen p q e]
  have hne:kq ≠ kl:=fun h=>e (P6.cells_inj (law37.inj hk (h ▸ hq)))
  rw [has_put_other hne,atKey_put_other hne]
  exact h q kq hq
theorem obj_far {w:World} {g:Nat} {o:Obj} (h:w.heap[g]? = some o) {p:Addr} (hp:g ≠ p.block) (u:Value):(w.setCell p u).heap[g]? = some o:=(Below.heap_setCell w p u g hp).trans h
def midEnd (k:Nat) (a b:ByteArray):Option (ByteArray × ByteArray × Int):=(impl_sequence.f k a b).bind fun q=>impl_short.f q.1 q.2
theorem midEnd.mono (a b:ByteArray) (k:Nat):LeO (midEnd k a b) (midEnd (k + 1) a b):=LeO.bind (impl_sequence.mono a b k) (fun _=>LeO.refl _)
def impl_Sequence_middle.l (v0 v1:ByteArray):Nat → P6 → ByteArray → List P6 → Option (ByteArray × ByteArray × Int)
 | 0,_,_,_=>none
 | k + 1,p,wd,seen =>
  if p.ok ∧ wd.size ≤ 600 ∧ seen.length = wd.size then
   (impl_three_twice.f k p.p0 p.p1 p.p2 p.p3 p.p4 p.p5).bind fun s =>
    if s.2.2 = true then (if s.1.size ≤ 1000 then midEnd k (wd ++ s.1) s.2.1 else none)
    else match idx6 seen p with
     | some i=>midEnd k (wd.extract 0 i) (wd.extract i wd.size)
     | none=>(impl_three_vote.f p.p0 p.p1 p.p2 p.p3 p.p4 p.p5).bind fun lt =>
      if 0 ≤ lt.2 then (if lt.2 = 0 then midEnd k (wd ++ p.p0) p.p1 else if lt.2 = 1 then midEnd k (wd ++ p.p2) p.p3 else if lt.2 = 2 then midEnd k (wd ++ p.p4) p.p5 else none)
      else if wd.size = 600 then some (⟨#[]⟩,⟨#[]⟩,3)
      else if lt.1 = 48 ∨ lt.1 = 49 then (impl_Sequence_moved.f v0 v1 p.p0 p.p1 p.p2 p.p3 p.p4 p.p5 lt.1).bind fun y=>impl_Sequence_middle.l v0 v1 k ⟨y.1,y.2.1,y.2.2.1,y.2.2.2.1,y.2.2.2.2.1,y.2.2.2.2.2⟩ (wd ++ Utf8.encode lt.1) (seen ++ [p])
      else none
  else none
def impl_Sequence_middle.f (k:Nat) (a0_0 a0_1 a1_0 a1_1 a1_2 a1_3 a1_4 a1_5:ByteArray):Option (ByteArray × ByteArray × Int):=impl_Sequence_middle.l a0_0 a0_1 k ⟨a1_0,a1_1,a1_2,a1_3,a1_4,a1_5⟩ ⟨#[]⟩ []
theorem impl_Sequence_middle.mono_l (v0 v1:ByteArray):∀ k p wd seen,LeO (impl_Sequence_middle.l v0 v1 k p wd seen) (impl_Sequence_middle.l v0 v1 (k + 1) p wd seen)
 | 0,_,_,_=>LeO.none _
 | k + 1,p,wd,seen=>by
  have ih:=impl_Sequence_middle.mono_l v0 v1 k
  unfold impl_Sequence_middle.l
  refine LeO.ite ?_ (LeO.refl _)
  refine LeO.bind (impl_three_twice.mono _ _ _ _ _ _ k) (fun s=>?_)
  refine LeO.ite (LeO.ite (midEnd.mono _ _ k) (LeO.refl _)) ?_
  cases idx6 seen p with
  | some i=>exact midEnd.mono _ _ k
  | none =>
   refine LeO.bind (LeO.refl _) (fun lt=>?_)
   refine LeO.ite (LeO.ite (midEnd.mono _ _ k) (LeO.ite (midEnd.mono _ _ k) (LeO.ite (midEnd.mono _ _ k) (LeO.refl _)))) ?_
   refine LeO.ite (LeO.refl _) (LeO.ite ?_ (LeO.refl _))
   exact LeO.bind (LeO.refl _) (fun y=>ih _ _ _)
theorem impl_Sequence_middle.mono:∀ a0 a1 b0 b1 b2 b3 b4 b5 k,LeO (impl_Sequence_middle.f k a0 a1 b0 b1 b2 b3 b4 b5) (impl_Sequence_middle.f (k + 1) a0 a1 b0 b1 b2 b3 b4 b5):=fun a0 a1 b0 b1 b2 b3 b4 b5 k=>impl_Sequence_middle.mono_l a0 a1 k _ _ _
theorem short_parts {k:Nat} {a b r1 r2:ByteArray} {r3:Int} (h:midEnd k a b = some (r1,r2,r3)):∃ s1 s2,impl_sequence.f k a b = some (s1,s2) ∧ impl_short.f s1 s2 = some (r1,r2,r3):=by
 obtain ⟨⟨s1,s2⟩,h1,h2⟩:=Option.bind_eq_some_iff.1 h
 exact ⟨s1,s2,h1,h2⟩
theorem ownsMap_at {w:World} {P:Program} {k:TypeId} {R:Value → Option (DataW Unit × List MemPlace)} {b n:Nat} {D:DataW Unit} (h:w.ownsMap P k R b n D):∃ o,w.heap[b]? = some o ∧ ∀ (W:World) (b':Nat),W.heap[b']? = some o → W.ownsMap P k R b' n D:=by
 obtain ⟨es,clock,h,r⟩:=h
 exact ⟨_,h,fun W b' hW=>⟨es,clock,hW,r⟩⟩
theorem zero3 (w:World):(zeroValue 3).run Try.prog w = .ok (.int .i64 0) w:=by kernel_rfl
theorem Lit.int_inj2 {a b:Int} (h:(DataW.lit (.int .i64 a):DataW Unit) = .lit (.int .i64 b)):a = b:=by injection h with h;injection h
theorem own_empty {P:Program} {k:TypeId} {R:Value → Option (DataW Unit × List MemPlace)} (W:World) (b:Nat) (hW:W.heap[b]? = some (.map #[] 0)):W.ownsMap P k R b 0 (.map []):=by
 obtain ⟨o,h1,h2⟩:=ownsMap_at (World.ownsMap_made W P k R)
 obtain rfl:=Option.some.inj ((blk_new W (.map #[] 0)).symm.trans h1)
 exact h2 W b hW
set_option maxHeartbeats 8000000 in
set_option maxRecDepth 100000 in
theorem impl_Sequence_middle.calls (k:Nat) (a0_0 a0_1 a1_0 a1_1 a1_2 a1_3 a1_4 a1_5:ByteArray) (r1 r2:ByteArray) (r3:Int) (w:World) (h:impl_Sequence_middle.f k a0_0 a0_1 a1_0 a1_1 a1_2 a1_3 a1_4 a1_5 = some (r1,r2,r3)) :
  Calls Try.prog 15 #[.agg #[.string a0_0,.string a0_1],.agg #[.string a1_0,.string a1_1,.string a1_2,.string a1_3,.string a1_4,.string a1_5]] w fun e w'=>e = .returned (.tuple #[.agg #[.string r1,.string r2],.int .i64 r3]) ∧ Below w.heap.size w w':=by
 have H0:impl_Sequence_middle.l a0_0 a0_1 k ⟨a1_0,a1_1,a1_2,a1_3,a1_4,a1_5⟩ ⟨#[]⟩ [] = some (r1,r2,r3):=h
 have H':=aM H0
 clear h H0
 have hu27:=Try.underlying27
 have hu37:=Try.underlying37
 have hmm:=@run_makeMap Try.prog
 go_enter Try.func15,Try.ntmps15
 go_wp2
 go_loopg [7] k (fun gg v7 wr=>∃ (p:P6) (wd:ByteArray) (seen:List P6) (D:DataW Unit) (o:Obj),v7 = .string wd ∧ Aside0 (impl_Sequence_middle.l a0_0 a0_1 gg p wd seen = some (r1,r2,r3)) ∧ Aside0 (wr.heap[w.heap.size]? = some (.cells #[.string a0_0,.string a0_1] 27 (0,0))) ∧ Aside0 (wr.heap[w.heap.size + 1]? = some (.cells #[.string p.p0,.string p.p1,.string p.p2,.string p.p3,.string p.p4,.string p.p5] 37 (0,0))) ∧ Aside0 (wr.heap[w.heap.size + 1 + 1]? = some (.cells #[.string ⟨#[]⟩,.string ⟨#[]⟩] 27 (0,0))) ∧ Aside0 (wr.heap[w.heap.size + 1 + 1 + 1]? = some o) ∧ Aside0 (∀ W:World,W.heap[w.heap.size + 1 + 1 + 1]? = some o → W.ownsMap Try.prog 37 (plainElem Try.prog 3) (w.heap.size + 1 + 1 + 1) seen.length D) ∧ Aside0 (IsMap D ∧ Tie seen D) ∧ Aside0 (Below w.heap.size w wr) ∧ Aside0 (w.heap.size + 4 ≤ wr.heap.size))
 case atStart =>
  have s1:(w.alloc (.cells #[.string a0_0,.string a0_1] 27)).heap.size = w.heap.size + 1:=by simp
  have s2:((w.alloc (.cells #[.string a0_0,.string a0_1] 27)).alloc (.cells #[.string a1_0,.string a1_1,.string a1_2,.string a1_3,.string a1_4,.string a1_5] 37)).heap.size = w.heap.size + 1 + 1:=by simp
  have s3:(((w.alloc (.cells #[.string a0_0,.string a0_1] 27)).alloc (.cells #[.string a1_0,.string a1_1,.string a1_2,.string a1_3,.string a1_4,.string a1_5] 37)).alloc (.cells #[.string ⟨#[]⟩,.string ⟨#[]⟩] 27)).heap.size = w.heap.size + 1 + 1 + 1:=by simp
  exact ⟨⟨a1_0,a1_1,a1_2,a1_3,a1_4,a1_5⟩,_,[],.map [],.map #[] 0,rfl,H',⟨yA (yA (yA (blk_new _ _) _) _) _⟩,⟨s1 ▸ yA (yA (blk_new _ _) _) _⟩,⟨s2 ▸ yA (blk_new _ _) _⟩,⟨s3 ▸ blk_new _ _⟩,⟨fun W hW=>own_empty W _ hW⟩,⟨isMap_empty,Tie.nil⟩,⟨zA (zA (zA (zA (Below.refl _ _) _) _) _) _⟩,⟨by simp⟩⟩
 case round =>
  obtain ⟨p,wd,seen,D,o,rfl,HA,HV,HP,HR,HO,HM,HT,HB,HZ⟩:=hrel
  clear H'
  cases gk with
  | zero=>exact absurd HA.out (by simp [impl_Sequence_middle.l])
  | succ gk =>
   have H:=HA.out
   clear HA
   unfold impl_Sequence_middle.l at H
   by_cases hgd:p.ok ∧ wd.size ≤ 600 ∧ seen.length = wd.size
   case neg=>rw [if_neg hgd] at H;cases H
   rw [if_pos hgd] at H
   obtain ⟨pok,hw6,hsl⟩:=hgd
   obtain ⟨⟨s1,s2,s3⟩,h1,H⟩:=Option.bind_eq_some_iff.1 H
   have CT:Aside0 (∀ W,Calls Try.prog 23 #[.agg #[.string p.p0,.string p.p1,.string p.p2,.string p.p3,.string p.p4,.string p.p5]] W fun e w'=>e = .returned (.tuple #[.agg #[.string s1,.string s2],.bool s3]) ∧ Below W.heap.size W w'):=⟨fun W=>(impl_three_twice.calls gk _ _ _ _ _ _ s1 s2 s3 W h1).mono fun e w' hh=>hh⟩
   clear h1
   have G0:=(blk_cell HP.out 0).trans rfl
   have G1:=(blk_cell HP.out 1).trans rfl
   have G2:=(blk_cell HP.out 2).trans rfl
   have G3:=(blk_cell HP.out 3).trans rfl
   have G4:=(blk_cell HP.out 4).trans rfl
   have G5:=(blk_cell HP.out 5).trans rfl
   cases s3 with
   | true =>
    replace H:(if s1.size ≤ 1000 then midEnd gk (wd ++ s1) s2 else none) = some (r1,r2,r3):=H
    by_cases hz:s1.size ≤ 1000
    case neg=>rw [if_neg hz] at H;cases H
    rw [if_pos hz] at H
    obtain ⟨q1,q2,h2,h3⟩:=short_parts H
    have CS:Aside0 (∀ W,Calls Try.prog 25 #[.string (wd ++ s1),.string s2] W fun e w'=>e = .returned (.agg #[.string q1,.string q2]) ∧ Below W.heap.size W w'):=⟨fun W=>(impl_sequence.calls gk _ _ q1 q2 W h2).mono fun e w' hh=>hh⟩
    have CH:Aside0 (∀ W,Calls Try.prog 24 #[.agg #[.string q1,.string q2]] W fun e w'=>e = .returned (.tuple #[.agg #[.string r1,.string r2],.int .i64 r3]) ∧ Below W.heap.size W w'):=⟨fun W=>(impl_short.calls _ _ r1 r2 r3 W h3).mono fun e w' ⟨he,hd⟩=>⟨he,by first|exact hd|exact hd.below⟩⟩
    clear H h2 h3
    have hcat:=eq_true (show wd.size + s1.size ≤ 9223372036854775807 by omega)
    go_wp2_with (first|(go_at_call 23;refine (CT.out _).mono ?_;rintro e wA ⟨rfl,hb⟩;have nHR_:=aM (blk_below (HR.out) hb);have nHB_:=aM (HB.out.trans (hb.mono (HB.out.size)));have nHZ_:=aM (Nat.le_trans HZ.out (hb.size));clear hb HR HB HZ;have HR:=nHR_;have HB:=nHB_;have HZ:=nHZ_;clear nHR_ nHB_ nHZ_)|(go_at_call 25;refine (CS.out _).mono ?_;rintro e wB ⟨rfl,hb⟩;have nHR_:=aM (blk_below (yA HR.out _) hb);have nHB_:=aM ((HB.out.alloc HB.out.size _).trans (hb.mono (by have:=HB.out.size;simp;omega)));have nHZ_:=aM (Nat.le_trans HZ.out (Nat.le_trans (by simp) hb.size));clear hb HR HB HZ;have HR:=nHR_;have HB:=nHB_;have HZ:=nHZ_;clear nHR_ nHB_ nHZ_)|(go_at_call 24;refine (CH.out _).mono ?_;rintro e wC ⟨rfl,hb⟩;have nHR_:=aM (blk_below (HR.out) hb);have nHB_:=aM (HB.out.trans (hb.mono (HB.out.size)));have nHZ_:=aM (Nat.le_trans HZ.out (hb.size));clear hb HR HB HZ;have HR:=nHR_;have HB:=nHB_;have HZ:=nHZ_;clear nHR_ nHB_ nHZ_;have K0:=(blk_cell HR.out 0).trans rfl;have K1:=(blk_cell HR.out 1).trans rfl;have F0:=blk_frozen HR.out 0;have F1:=blk_frozen HR.out 1))
    refine bodyPost_ret (results_ct rfl _ _ (w.heap.size + 1 + 1) 27 #[.string r1,.string r2] (0,0) _ rfl (by first|exact blk_put (cs:=#[.string r1,.string ⟨#[]⟩]) (blk_put (cs:=#[.string ⟨#[]⟩,.string ⟨#[]⟩]) HR.out 0 _ rfl) 1 _ rfl) Try.underlying27 rfl (by kernel_rfl)) rfl ?_
    exact ⟨rfl,zS (zS HB.out (by omega)) (by omega)⟩
   | false =>
    rw [if_neg (by simp)] at H
    obtain ⟨kl,hkl⟩:=P6.key p pok
    have hkl:keyOf Try.prog 37 (.agg #[.string p.p0,.string p.p1,.string p.p2,.string p.p3,.string p.p4,.string p.p5]) = some kl:=hkl
    have u51:=Try.underlying51
    have u3:=Try.underlying3
    cases hi:idx6 seen p with
    | some i =>
     rw [hi] at H
     replace H:midEnd gk (wd.extract 0 i) (wd.extract i wd.size) = some (r1,r2,r3):=H
     obtain ⟨hhas,hat0⟩:=(HT.out.2 p kl hkl).2 i hi
     have hil:i < wd.size:=by have:=idx6_lt _ _ _ hi;omega
     obtain ⟨q1,q2,h2,h3⟩:=short_parts H
     have CS:Aside0 (∀ W,Calls Try.prog 25 #[.string (wd.extract 0 i),.string (wd.extract i wd.size)] W fun e w'=>e = .returned (.agg #[.string q1,.string q2]) ∧ Below W.heap.size W w'):=⟨fun W=>(impl_sequence.calls gk _ _ q1 q2 W h2).mono fun e w' hh=>hh⟩
     have CH:Aside0 (∀ W,Calls Try.prog 24 #[.agg #[.string q1,.string q2]] W fun e w'=>e = .returned (.tuple #[.agg #[.string r1,.string r2],.int .i64 r3]) ∧ Below W.heap.size W w'):=⟨fun W=>(impl_short.calls _ _ r1 r2 r3 W h3).mono fun e w' ⟨he,hd⟩=>⟨he,by first|exact hd|exact hd.below⟩⟩
     clear H h2 h3
     go_wp2_with (first|(go_at_call 23;refine (CT.out _).mono ?_;rintro e wA ⟨rfl,hb⟩;have nHV_:=aM (blk_below (HV.out) hb);have nHP_:=aM (blk_below (HP.out) hb);have nHR_:=aM (blk_below (HR.out) hb);have nHO_:=aM (blk_below (HO.out) hb);have nHB_:=aM (HB.out.trans (hb.mono (HB.out.size)));have nHZ_:=aM (Nat.le_trans HZ.out (hb.size));clear hb HV HP HR HO HB HZ;have HV:=nHV_;have HP:=nHP_;have HR:=nHR_;have HO:=nHO_;have HB:=nHB_;have HZ:=nHZ_;clear nHV_ nHP_ nHR_ nHO_ nHB_ nHZ_;have G0:=(blk_cell (yA HP.out (.cells #[.string s1,.string s2] 27)) 0).trans rfl;have G1:=(blk_cell (yA HP.out (.cells #[.string s1,.string s2] 27)) 1).trans rfl;have G2:=(blk_cell (yA HP.out (.cells #[.string s1,.string s2] 27)) 2).trans rfl;have G3:=(blk_cell (yA HP.out (.cells #[.string s1,.string s2] 27)) 3).trans rfl;have G4:=(blk_cell (yA HP.out (.cells #[.string s1,.string s2] 27)) 4).trans rfl;have G5:=(blk_cell (yA HP.out (.cells #[.string s1,.string s2] 27)) 5).trans rfl)|(at_lookup;refine wpList_lookup_own_ok_int _ rfl _ _ 51 rfl 37 3 .i64 law37 u51 u3 (zero3 _) (w.heap.size + 1 + 1 + 1) seen.length D rfl (HM.out _ (yA HO.out _)) _ kl rfl hkl ?_;intro c hat hwc;rw [hhas];obtain rfl:c = (i:Int):=Lit.int_inj2 (hat.symm.trans hat0)))
     have hc2:=eq_true (show i ≤ wd.size by omega)
     have nR:=aM (yD (yA HR.out (.cells #[.string s1,.string s2] 27)));have nB:=aM (zD (zA HB.out (.cells #[.string s1,.string s2] 27)))
     clear HR HB HV HP HO HM HT HZ
     have HR:=nR
     have HB:=nB
     clear nR nB
     refine start_ (n:=12) (S:=fun w'=>True) (ds:=[]) #[fF,fF,fF,fF,fF,fF,fF,fF,fF,fF,fF,fF] (by kernel_rfl) rfl rfl trivial (fun hHeld=>?_)
     refine pure_ (i:=0) (N:=some 38) (v:=?_) (a':=?_) #[tT,fF,fF,fF,fF,fF,fF,fF,fF,fF,fF,fF] rfl rfl (by kernel_rfl) (fun _ _ _ h=>h) (Or.inl ⟨by rfl,?_⟩) ?_ ?_
     rotate_left
     ·intro w'
      go_simp
      with_reducible rfl
     rotate_left
     ·simp only [Act.put,sI,sZ,sS,i64_w,i32_w]
      rfl
     refine pure_ (i:=1) (N:=some 39) (v:=?_) (a':=?_) #[tT,tT,fF,fF,fF,fF,fF,fF,fF,fF,fF,fF] rfl rfl (by kernel_rfl) (fun _ _ _ h=>h) (Or.inl ⟨by rfl,?_⟩) ?_ ?_
     rotate_left
     ·intro w'
      go_simp
      with_reducible rfl
     rotate_left
     ·simp only [Act.put,sI,sZ,sS,i64_w,i32_w]
      rfl
     refine pure_ (i:=2) (N:=some 40) (v:=?_) (a':=?_) #[tT,tT,tT,fF,fF,fF,fF,fF,fF,fF,fF,fF] rfl rfl (by kernel_rfl) (fun _ _ _ h=>h) (Or.inl ⟨by rfl,?_⟩) ?_ ?_
     rotate_left
     ·intro w'
      go_simp
      with_reducible rfl
     rotate_left
     ·simp only [Act.put,sI,sZ,sS,i64_w,i32_w]
      rfl
     refine pure_ (i:=3) (N:=some 41) (v:=?_) (a':=?_) #[tT,tT,tT,tT,fF,fF,fF,fF,fF,fF,fF,fF] rfl rfl (by kernel_rfl) (fun _ _ _ h=>h) (Or.inl ⟨by rfl,?_⟩) ?_ ?_
     rotate_left
     ·intro w'
      go_simp
      with_reducible rfl
     rotate_left
     ·simp only [Act.put,sI,sZ,sS,i64_w,i32_w]
      rfl
     refine pure_ (i:=4) (N:=some 42) (v:=?_) (a':=?_) #[tT,tT,tT,tT,tT,fF,fF,fF,fF,fF,fF,fF] rfl rfl (by kernel_rfl) (fun _ _ _ h=>h) (Or.inl ⟨by rfl,?_⟩) ?_ ?_
     rotate_left
     ·intro w'
      go_simp
      with_reducible rfl
     rotate_left
     ·simp only [Act.put,sI,sZ,sS,i64_w,i32_w]
      rfl
     refine pure_ (i:=5) (N:=some 43) (v:=?_) (a':=?_) #[tT,tT,tT,tT,tT,tT,fF,fF,fF,fF,fF,fF] rfl rfl (by kernel_rfl) (fun _ _ _ h=>h) (Or.inl ⟨by rfl,?_⟩) ?_ ?_
     rotate_left
     ·intro w'
      go_simp
      with_reducible rfl
     rotate_left
     ·simp only [Act.put,sI,sZ,sS,i64_w,i32_w]
      rfl
     refine one_ (i:=6) (N:=some 44) #[tT,tT,tT,tT,tT,tT,tT,fF,fF,fF,fF,fF] rfl rfl (by kernel_rfl) (by decide) (fun K hK=>?_)
     refine goes_ Try.func25 (by kernel_rfl) rfl #[.string (wd.extract 0 i),.string (wd.extract i wd.size)] (by rfl) rfl rfl (by simp only [sM,sC,sN];rfl) ?_
     with_reducible refine (CS.out _).mono ?_
     rintro e wB ⟨rfl,hb⟩
     refine ⟨_,rfl,?_⟩
     have nHR_:=aM (blk_below (HR.out) hb);have nHB_:=aM (HB.out.trans (hb.mono (HB.out.size)))
     clear hb HR HB
     have HR:=nHR_
     have HB:=nHB_
     clear nHR_ nHB_
     refine hK.out _ _ trivial (fun hHeld=>?_)
     clear hK K
     refine norm_ (a':=?_) ?_ ?_
     rotate_left
     ·show Act.put _ (some 44) _ = _
      simp only [Act.put,sI,sZ,sS,i64_w,i32_w]
      rfl
     refine one_ (i:=7) (N:=some 45) #[tT,tT,tT,tT,tT,tT,tT,tT,fF,fF,fF,fF] rfl rfl (by kernel_rfl) (by decide) (fun K hK=>?_)
     refine goes_ Try.func24 (by kernel_rfl) rfl #[.agg #[.string q1,.string q2]] (by rfl) rfl rfl (by simp only [sM,sC,sN];rfl) ?_
     with_reducible refine (CH.out _).mono ?_
     rintro e wC ⟨rfl,hb⟩
     refine ⟨_,rfl,?_⟩
     have nHR_:=aM (blk_below (HR.out) hb);have nHB_:=aM (HB.out.trans (hb.mono (HB.out.size)))
     clear hb HR HB
     have HR:=nHR_
     have HB:=nHB_
     clear nHR_ nHB_
     have K0:=(blk_cell HR.out 0).trans rfl
     have K1:=(blk_cell HR.out 1).trans rfl
     have F0:=blk_frozen HR.out 0
     have F1:=blk_frozen HR.out 1
     refine hK.out _ _ trivial (fun hHeld=>?_)
     clear hK K
     refine norm_ (a':=?_) ?_ ?_
     rotate_left
     ·show Act.put _ (some 45) _ = _
      simp only [Act.put,sI,sZ,sS,i64_w,i32_w]
      rfl
     refine pure_ (i:=8) (N:=some 46) (v:=?_) (a':=?_) #[tT,tT,tT,tT,tT,tT,tT,tT,tT,fF,fF,fF] rfl rfl (by kernel_rfl) (fun _ _ _ h=>h) (Or.inl ⟨by rfl,?_⟩) ?_ ?_
     rotate_left
     ·intro w'
      go_simp
      with_reducible rfl
     rotate_left
     ·simp only [Act.put,sI,sZ,sS,i64_w,i32_w]
      rfl
     refine pure_ (i:=9) (N:=some 47) (v:=?_) (a':=?_) #[tT,tT,tT,tT,tT,tT,tT,tT,tT,tT,fF,fF] rfl rfl (by kernel_rfl) (fun _ _ _ h=>h) (Or.inl ⟨by rfl,?_⟩) ?_ ?_
     rotate_left
     ·intro w'
      go_simp
      with_reducible rfl
     rotate_left
     ·simp only [Act.put,sI,sZ,sS,i64_w,i32_w]
      rfl
     refine one_ (i:=10) (N:=none) #[tT,tT,tT,tT,tT,tT,tT,tT,tT,tT,tT,fF] rfl rfl (by kernel_rfl) (by decide) (fun K hK=>?_)
     refine skip_ (w1:=?_) (by rfl) rfl ?_ ?_
     rotate_left
     ·go_simp
      rfl
     refine hK.out _ _ trivial (fun hHeld=>?_)
     clear hK K
     refine pure_ (i:=11) (N:=some 5) (v:=?_) (a':=?_) #[tT,tT,tT,tT,tT,tT,tT,tT,tT,tT,tT,tT] rfl rfl (by kernel_rfl) (fun _ _ _ h=>h) (Or.inl ⟨by rfl,?_⟩) ?_ ?_
     rotate_left
     ·intro w'
      go_simp
      with_reducible rfl
     rotate_left
     ·simp only [Act.put,sI,sZ,sS,i64_w,i32_w]
      rfl
     refine done_ (by kernel_rfl) ?_
     try go_wp2
     refine bodyPost_ret (results_ct rfl _ _ (w.heap.size + 1 + 1) 27 #[.string r1,.string r2] (0,0) _ rfl (by first|exact blk_put (cs:=#[.string r1,.string ⟨#[]⟩]) (blk_put (cs:=#[.string ⟨#[]⟩,.string ⟨#[]⟩]) HR.out 0 _ rfl) 1 _ rfl) Try.underlying27 rfl (by kernel_rfl)) rfl ?_
     exact ⟨rfl,zS (zS HB.out (by omega)) (by omega)⟩
    | none =>
     rw [hi] at H
     obtain ⟨⟨lt,st⟩,h4,H⟩:=Option.bind_eq_some_iff.1 H
     have hhas:=(HT.out.2 p kl hkl).1 hi
     have CV:Aside0 (∀ W,Calls Try.prog 26 #[.agg #[.string p.p0,.string p.p1,.string p.p2,.string p.p3,.string p.p4,.string p.p5]] W fun e w'=>e = .returned (.tuple #[.int .u8 lt,.int .i64 st]) ∧ Below W.heap.size W w'):=⟨fun W=>impl_three_vote.calls _ _ _ _ _ _ lt st W h4⟩
     clear h4
     replace H:(if 0 ≤ st then (if st = 0 then midEnd gk (wd ++ p.p0) p.p1 else if st = 1 then midEnd gk (wd ++ p.p2) p.p3 else if st = 2 then midEnd gk (wd ++ p.p4) p.p5 else none)
      else if wd.size = 600 then some (⟨#[]⟩,⟨#[]⟩,3)
      else if lt = 48 ∨ lt = 49 then (impl_Sequence_moved.f a0_0 a0_1 p.p0 p.p1 p.p2 p.p3 p.p4 p.p5 lt).bind fun y=>impl_Sequence_middle.l a0_0 a0_1 gk ⟨y.1,y.2.1,y.2.2.1,y.2.2.2.1,y.2.2.2.2.1,y.2.2.2.2.2⟩ (wd ++ Utf8.encode lt) (seen ++ [p])
      else none) = some (r1,r2,r3):=H
     by_cases hst:0 ≤ st
     ·rw [if_pos hst] at H
      have hst':st = 0 ∨ st = 1 ∨ st = 2:=by
       by_cases e0:st = 0
       ·exact .inl e0
       by_cases e1:st = 1
       ·exact .inr (.inl e1)
       by_cases e2:st = 2
       ·exact .inr (.inr e2)
       rw [if_neg e0,if_neg e1,if_neg e2] at H
       cases H
      clear hst
      rcases hst' with e0|e1|e2
      ·subst e0
       replace H:midEnd gk (wd ++ p.p0) p.p1 = some (r1,r2,r3):=H
       obtain ⟨q1,q2,h2,h3⟩:=short_parts H
       have CS:Aside0 (∀ W,Calls Try.prog 25 #[.string (wd ++ p.p0),.string p.p1] W fun e w'=>e = .returned (.agg #[.string q1,.string q2]) ∧ Below W.heap.size W w'):=⟨fun W=>(impl_sequence.calls gk _ _ q1 q2 W h2).mono fun e w' hh=>hh⟩
       have CH:Aside0 (∀ W,Calls Try.prog 24 #[.agg #[.string q1,.string q2]] W fun e w'=>e = .returned (.tuple #[.agg #[.string r1,.string r2],.int .i64 r3]) ∧ Below W.heap.size W w'):=⟨fun W=>(impl_short.calls _ _ r1 r2 r3 W h3).mono fun e w' ⟨he,hd⟩=>⟨he,by first|exact hd|exact hd.below⟩⟩
       clear H h2 h3
       have hcat:=eq_true (show wd.size + p.p0.size ≤ 9223372036854775807 by have:=pok.1;omega)
       have hcat2:=eq_false (show ¬ 9223372036854775807 < wd.size + p.p0.size by have:=pok.1;omega)
       go_wp2_with (first|(go_at_call 23;refine (CT.out _).mono ?_;rintro e wA ⟨rfl,hb⟩;have nHV_:=aM (blk_below (HV.out) hb);have nHP_:=aM (blk_below (HP.out) hb);have nHR_:=aM (blk_below (HR.out) hb);have nHO_:=aM (blk_below (HO.out) hb);have nHB_:=aM (HB.out.trans (hb.mono (HB.out.size)));have nHZ_:=aM (Nat.le_trans HZ.out (hb.size));clear hb HV HP HR HO HB HZ;have HV:=nHV_;have HP:=nHP_;have HR:=nHR_;have HO:=nHO_;have HB:=nHB_;have HZ:=nHZ_;clear nHV_ nHP_ nHR_ nHO_ nHB_ nHZ_;have G0:=(blk_cell (yA HP.out (.cells #[.string s1,.string s2] 27)) 0).trans rfl;have G1:=(blk_cell (yA HP.out (.cells #[.string s1,.string s2] 27)) 1).trans rfl;have G2:=(blk_cell (yA HP.out (.cells #[.string s1,.string s2] 27)) 2).trans rfl;have G3:=(blk_cell (yA HP.out (.cells #[.string s1,.string s2] 27)) 3).trans rfl;have G4:=(blk_cell (yA HP.out (.cells #[.string s1,.string s2] 27)) 4).trans rfl;have G5:=(blk_cell (yA HP.out (.cells #[.string s1,.string s2] 27)) 5).trans rfl)|(at_lookup;refine wpList_lookup_own_ok_int _ rfl _ _ 51 rfl 37 3 .i64 law37 u51 u3 (zero3 _) (w.heap.size + 1 + 1 + 1) seen.length D rfl (HM.out _ (yA HO.out _)) _ kl rfl hkl ?_;intro c hat hwc;rw [hhas];clear hat hwc)|(go_at_call 26;refine (CV.out _).mono ?_;rintro e wB ⟨rfl,hb⟩;have nHV_:=aM (blk_below (yA HV.out _) hb);have nHP_:=aM (blk_below (yA HP.out _) hb);have nHR_:=aM (blk_below (yA HR.out _) hb);have nHO_:=aM (blk_below (yA HO.out _) hb);have nHB_:=aM ((HB.out.alloc HB.out.size _).trans (hb.mono (by have:=HB.out.size;simp;omega)));have nHZ_:=aM (Nat.le_trans HZ.out (Nat.le_trans (by simp) hb.size));clear hb HV HP HR HO HB HZ;have HV:=nHV_;have HP:=nHP_;have HR:=nHR_;have HO:=nHO_;have HB:=nHB_;have HZ:=nHZ_;clear nHV_ nHP_ nHR_ nHO_ nHB_ nHZ_;have G0:=(blk_cell HP.out 0).trans rfl;have G1:=(blk_cell HP.out 1).trans rfl;have G2:=(blk_cell HP.out 2).trans rfl;have G3:=(blk_cell HP.out 3).trans rfl;have G4:=(blk_cell HP.out 4).trans rfl;have G5:=(blk_cell HP.out 5).trans rfl;have K0:=(blk_cell HR.out 0).trans rfl;have K1:=(blk_cell HR.out 1).trans rfl;have F0:=blk_frozen HR.out 0;have F1:=blk_frozen HR.out 1))
       have nP:=aM (yD HP.out);have nR:=aM (yD HR.out);have nB:=aM (zD HB.out)
       clear HR HB HV HP HO HM HT HZ
       have HP:=nP
       have HR:=nR
       have HB:=nB
       clear nP nR nB
       refine start_ (n:=16) (S:=fun w'=>w'.cell? ⟨w.heap.size + 1,0,none⟩ = some (.string p.p0) ∧ w'.cell? ⟨w.heap.size + 1,1,none⟩ = some (.string p.p1)) (ds:=[]) #[fF,fF,fF,fF,fF,fF,fF,fF,fF,fF,fF,fF,fF,fF,fF,fF] (by kernel_rfl) rfl rfl ⟨(blk_cell HP.out 0).trans rfl,(blk_cell HP.out 1).trans rfl⟩ (fun hHeld=>?_)
       refine pure_ (i:=0) (N:=some 55) (v:=?_) (a':=?_) #[tT,fF,fF,fF,fF,fF,fF,fF,fF,fF,fF,fF,fF,fF,fF,fF] rfl rfl (by kernel_rfl) (fun _ _ _ h=>h) (Or.inl ⟨by rfl,?_⟩) ?_ ?_
       rotate_left
       ·intro w'
        go_simp
        with_reducible rfl
       rotate_left
       ·simp only [Act.put,sI,sZ,sS,i64_w,i32_w]
        rfl
       refine pure_ (i:=1) (N:=some 56) (v:=?_) (a':=?_) #[tT,tT,fF,fF,fF,fF,fF,fF,fF,fF,fF,fF,fF,fF,fF,fF] rfl rfl (by kernel_rfl) (fun _ _ _ h=>h) (Or.inl ⟨by rfl,?_⟩) ?_ ?_
       rotate_left
       ·intro w'
        go_simp
        with_reducible rfl
       rotate_left
       ·simp only [Act.put,sI,sZ,sS,i64_w,i32_w]
        rfl
       refine pure_ (i:=2) (N:=some 57) (v:=?_) (a':=?_) #[tT,tT,tT,fF,fF,fF,fF,fF,fF,fF,fF,fF,fF,fF,fF,fF] rfl rfl (by kernel_rfl) (fun _ _ _ h=>h) (Or.inl ⟨by rfl,?_⟩) ?_ ?_
       rotate_left
       ·intro w'
        go_simp
        with_reducible rfl
       rotate_left
       ·simp only [Act.put,sI,sZ,sS,i64_w,i32_w]
        rfl
       refine pure_ (i:=3) (N:=some 58) (v:=?_) (a':=?_) #[tT,tT,tT,tT,fF,fF,fF,fF,fF,fF,fF,fF,fF,fF,fF,fF] rfl rfl (by kernel_rfl) (fun _ _ _ h=>h) (Or.inl ⟨by rfl,?_⟩) ?_ ?_
       rotate_left
       ·intro w'
        go_simp
        with_reducible rfl
       rotate_left
       ·simp only [Act.put,sI,sZ,sS,i64_w,i32_w]
        rfl
       refine pure_ (i:=6) (N:=some 61) (v:=?_) (a':=?_) #[tT,tT,tT,tT,fF,fF,tT,fF,fF,fF,fF,fF,fF,fF,fF,fF] rfl rfl (by kernel_rfl) (fun _ _ _ h=>h) (Or.inl ⟨by rfl,?_⟩) ?_ ?_
       rotate_left
       ·intro w'
        go_simp
        with_reducible rfl
       rotate_left
       ·simp only [Act.put,sI,sZ,sS,i64_w,i32_w]
        rfl
       refine pure_ (i:=7) (N:=some 62) (v:=?_) (a':=?_) #[tT,tT,tT,tT,fF,fF,tT,tT,fF,fF,fF,fF,fF,fF,fF,fF] rfl rfl (by kernel_rfl) (fun _ _ _ h=>h) (Or.inl ⟨by rfl,?_⟩) ?_ ?_
       rotate_left
       ·intro w'
        go_simp
        with_reducible rfl
       rotate_left
       ·simp only [Act.put,sI,sZ,sS,i64_w,i32_w]
        rfl
       refine pure_ (i:=8) (N:=some 63) (v:=?_) (a':=?_) #[tT,tT,tT,tT,fF,fF,tT,tT,tT,fF,fF,fF,fF,fF,fF,fF] rfl rfl (by kernel_rfl) (fun _ _ _ h=>h) (Or.inl ⟨by rfl,?_⟩) ?_ ?_
       rotate_left
       ·intro w'
        go_simp
        with_reducible rfl
       rotate_left
       ·simp only [Act.put,sI,sZ,sS,i64_w,i32_w]
        rfl
       refine take_ (i:=4) (N:=some 59) (v:=?_) (a':=?_) #[tT,tT,tT,tT,tT,fF,tT,tT,tT,fF,fF,fF,fF,fF,fF,fF] rfl rfl (by kernel_rfl) (fun _ _ _ h=>h) (Or.inl ⟨by rfl,?_⟩) hHeld ?_ ?_
       rotate_left
       ·rintro w' ⟨s0,s1⟩
        go_simp
        with_reducible rfl
       rotate_left
       ·simp only [Act.put,sI,sZ,sS,i64_w,i32_w]
        rfl
       refine pure_ (i:=5) (N:=some 60) (v:=?_) (a':=?_) #[tT,tT,tT,tT,tT,tT,tT,tT,tT,fF,fF,fF,fF,fF,fF,fF] rfl rfl (by kernel_rfl) (fun _ _ _ h=>h) (Or.inl ⟨by rfl,?_⟩) ?_ ?_
       rotate_left
       ·intro w'
        go_simp
        with_reducible rfl
       rotate_left
       ·simp only [Act.put,sI,sZ,sS,i64_w,i32_w]
        rfl
       refine take_ (i:=9) (N:=some 64) (v:=?_) (a':=?_) #[tT,tT,tT,tT,tT,tT,tT,tT,tT,tT,fF,fF,fF,fF,fF,fF] rfl rfl (by kernel_rfl) (fun _ _ _ h=>h) (Or.inl ⟨by rfl,?_⟩) hHeld ?_ ?_
       rotate_left
       ·rintro w' ⟨s0,s1⟩
        go_simp
        with_reducible rfl
       rotate_left
       ·simp only [Act.put,sI,sZ,sS,i64_w,i32_w]
        rfl
       refine one_ (i:=10) (N:=some 65) #[tT,tT,tT,tT,tT,tT,tT,tT,tT,tT,tT,fF,fF,fF,fF,fF] rfl rfl (by kernel_rfl) (by decide) (fun K hK=>?_)
       refine goes_ Try.func25 (by kernel_rfl) rfl #[.string (wd ++ p.p0),.string p.p1] (by rfl) rfl rfl (by simp only [sM,sC,sN];rfl) ?_
       with_reducible refine (CS.out _).mono ?_
       rintro e wC ⟨rfl,hb⟩
       refine ⟨_,rfl,?_⟩
       have nHP_:=aM (blk_below (HP.out) hb);have nHR_:=aM (blk_below (HR.out) hb);have nHB_:=aM (HB.out.trans (hb.mono (HB.out.size)))
       clear hb HP HR HB
       have HP:=nHP_
       have HR:=nHR_
       have HB:=nHB_
       clear nHP_ nHR_ nHB_
       refine hK.out _ _ ⟨(blk_cell HP.out 0).trans rfl,(blk_cell HP.out 1).trans rfl⟩ (fun hHeld=>?_)
       clear hK K
       refine norm_ (a':=?_) ?_ ?_
       rotate_left
       ·show Act.put _ (some 65) _ = _
        simp only [Act.put,sI,sZ,sS,i64_w,i32_w]
        rfl
       refine one_ (i:=11) (N:=some 66) #[tT,tT,tT,tT,tT,tT,tT,tT,tT,tT,tT,tT,fF,fF,fF,fF] rfl rfl (by kernel_rfl) (by decide) (fun K hK=>?_)
       refine goes_ Try.func24 (by kernel_rfl) rfl #[.agg #[.string q1,.string q2]] (by rfl) rfl rfl (by simp only [sM,sC,sN];rfl) ?_
       with_reducible refine (CH.out _).mono ?_
       rintro e wD ⟨rfl,hb⟩
       refine ⟨_,rfl,?_⟩
       have nHP_:=aM (blk_below (HP.out) hb);have nHR_:=aM (blk_below (HR.out) hb);have nHB_:=aM (HB.out.trans (hb.mono (HB.out.size)))
       clear hb HP HR HB
       have HP:=nHP_
       have HR:=nHR_
       have HB:=nHB_
       clear nHP_ nHR_ nHB_
       have K0:=(blk_cell HR.out 0).trans rfl
       have K1:=(blk_cell HR.out 1).trans rfl
       have F0:=blk_frozen HR.out 0
       have F1:=blk_frozen HR.out 1
       refine hK.out _ _ ⟨(blk_cell HP.out 0).trans rfl,(blk_cell HP.out 1).trans rfl⟩ (fun hHeld=>?_)
       clear hK K
       refine norm_ (a':=?_) ?_ ?_
       rotate_left
       ·show Act.put _ (some 66) _ = _
        simp only [Act.put,sI,sZ,sS,i64_w,i32_w]
        rfl
       refine pure_ (i:=12) (N:=some 67) (v:=?_) (a':=?_) #[tT,tT,tT,tT,tT,tT,tT,tT,tT,tT,tT,tT,tT,fF,fF,fF] rfl rfl (by kernel_rfl) (fun _ _ _ h=>h) (Or.inl ⟨by rfl,?_⟩) ?_ ?_
       rotate_left
       ·intro w'
        go_simp
        with_reducible rfl
       rotate_left
       ·simp only [Act.put,sI,sZ,sS,i64_w,i32_w]
        rfl
       refine pure_ (i:=13) (N:=some 68) (v:=?_) (a':=?_) #[tT,tT,tT,tT,tT,tT,tT,tT,tT,tT,tT,tT,tT,tT,fF,fF] rfl rfl (by kernel_rfl) (fun _ _ _ h=>h) (Or.inl ⟨by rfl,?_⟩) ?_ ?_
       rotate_left
       ·intro w'
        go_simp
        with_reducible rfl
       rotate_left
       ·simp only [Act.put,sI,sZ,sS,i64_w,i32_w]
        rfl
       refine one_ (i:=14) (N:=none) #[tT,tT,tT,tT,tT,tT,tT,tT,tT,tT,tT,tT,tT,tT,tT,fF] rfl rfl (by kernel_rfl) (by decide) (fun K hK=>?_)
       refine skip_ (w1:=?_) (by rfl) rfl ?_ ?_
       rotate_left
       ·go_simp
        rfl
       refine hK.out _ _ ⟨(blk_cell (blk_far (blk_far HP.out (by first|(simp;done)|(simp;omega)) _) (by first|(simp;done)|(simp;omega)) _) 0).trans rfl,(blk_cell (blk_far (blk_far HP.out (by first|(simp;done)|(simp;omega)) _) (by first|(simp;done)|(simp;omega)) _) 1).trans rfl⟩ (fun hHeld=>?_)
       clear hK K
       refine pure_ (i:=15) (N:=some 5) (v:=?_) (a':=?_) #[tT,tT,tT,tT,tT,tT,tT,tT,tT,tT,tT,tT,tT,tT,tT,tT] rfl rfl (by kernel_rfl) (fun _ _ _ h=>h) (Or.inl ⟨by rfl,?_⟩) ?_ ?_
       rotate_left
       ·intro w'
        go_simp
        with_reducible rfl
       rotate_left
       ·simp only [Act.put,sI,sZ,sS,i64_w,i32_w]
        rfl
       refine done_ (by kernel_rfl) ?_
       try go_wp2
       refine bodyPost_ret (results_ct rfl _ _ (w.heap.size + 1 + 1) 27 #[.string r1,.string r2] (0,0) _ rfl (by first|exact blk_put (cs:=#[.string r1,.string ⟨#[]⟩]) (blk_put (cs:=#[.string ⟨#[]⟩,.string ⟨#[]⟩]) HR.out 0 _ rfl) 1 _ rfl) Try.underlying27 rfl (by kernel_rfl)) rfl ?_
       exact ⟨rfl,zS (zS HB.out (by omega)) (by omega)⟩
      ·subst e1
       replace H:midEnd gk (wd ++ p.p2) p.p3 = some (r1,r2,r3):=H
       obtain ⟨q1,q2,h2,h3⟩:=short_parts H
       have CS:Aside0 (∀ W,Calls Try.prog 25 #[.string (wd ++ p.p2),.string p.p3] W fun e w'=>e = .returned (.agg #[.string q1,.string q2]) ∧ Below W.heap.size W w'):=⟨fun W=>(impl_sequence.calls gk _ _ q1 q2 W h2).mono fun e w' hh=>hh⟩
       have CH:Aside0 (∀ W,Calls Try.prog 24 #[.agg #[.string q1,.string q2]] W fun e w'=>e = .returned (.tuple #[.agg #[.string r1,.string r2],.int .i64 r3]) ∧ Below W.heap.size W w'):=⟨fun W=>(impl_short.calls _ _ r1 r2 r3 W h3).mono fun e w' ⟨he,hd⟩=>⟨he,by first|exact hd|exact hd.below⟩⟩
       clear H h2 h3
       have hcat:=eq_true (show wd.size + p.p2.size ≤ 9223372036854775807 by have:=pok.2.2.1;omega)
       have hcat2:=eq_false (show ¬ 9223372036854775807 < wd.size + p.p2.size by have:=pok.2.2.1;omega)
       go_wp2_with (first|(go_at_call 23;refine (CT.out _).mono ?_;rintro e wA ⟨rfl,hb⟩;have nHV_:=aM (blk_below (HV.out) hb);have nHP_:=aM (blk_below (HP.out) hb);have nHR_:=aM (blk_below (HR.out) hb);have nHO_:=aM (blk_below (HO.out) hb);have nHB_:=aM (HB.out.trans (hb.mono (HB.out.size)));have nHZ_:=aM (Nat.le_trans HZ.out (hb.size));clear hb HV HP HR HO HB HZ;have HV:=nHV_;have HP:=nHP_;have HR:=nHR_;have HO:=nHO_;have HB:=nHB_;have HZ:=nHZ_;clear nHV_ nHP_ nHR_ nHO_ nHB_ nHZ_;have G0:=(blk_cell (yA HP.out (.cells #[.string s1,.string s2] 27)) 0).trans rfl;have G1:=(blk_cell (yA HP.out (.cells #[.string s1,.string s2] 27)) 1).trans rfl;have G2:=(blk_cell (yA HP.out (.cells #[.string s1,.string s2] 27)) 2).trans rfl;have G3:=(blk_cell (yA HP.out (.cells #[.string s1,.string s2] 27)) 3).trans rfl;have G4:=(blk_cell (yA HP.out (.cells #[.string s1,.string s2] 27)) 4).trans rfl;have G5:=(blk_cell (yA HP.out (.cells #[.string s1,.string s2] 27)) 5).trans rfl)|(at_lookup;refine wpList_lookup_own_ok_int _ rfl _ _ 51 rfl 37 3 .i64 law37 u51 u3 (zero3 _) (w.heap.size + 1 + 1 + 1) seen.length D rfl (HM.out _ (yA HO.out _)) _ kl rfl hkl ?_;intro c hat hwc;rw [hhas];clear hat hwc)|(go_at_call 26;refine (CV.out _).mono ?_;rintro e wB ⟨rfl,hb⟩;have nHV_:=aM (blk_below (yA HV.out _) hb);have nHP_:=aM (blk_below (yA HP.out _) hb);have nHR_:=aM (blk_below (yA HR.out _) hb);have nHO_:=aM (blk_below (yA HO.out _) hb);have nHB_:=aM ((HB.out.alloc HB.out.size _).trans (hb.mono (by have:=HB.out.size;simp;omega)));have nHZ_:=aM (Nat.le_trans HZ.out (Nat.le_trans (by simp) hb.size));clear hb HV HP HR HO HB HZ;have HV:=nHV_;have HP:=nHP_;have HR:=nHR_;have HO:=nHO_;have HB:=nHB_;have HZ:=nHZ_;clear nHV_ nHP_ nHR_ nHO_ nHB_ nHZ_;have G0:=(blk_cell HP.out 0).trans rfl;have G1:=(blk_cell HP.out 1).trans rfl;have G2:=(blk_cell HP.out 2).trans rfl;have G3:=(blk_cell HP.out 3).trans rfl;have G4:=(blk_cell HP.out 4).trans rfl;have G5:=(blk_cell HP.out 5).trans rfl;have K0:=(blk_cell HR.out 0).trans rfl;have K1:=(blk_cell HR.out 1).trans rfl;have F0:=blk_frozen HR.out 0;have F1:=blk_frozen HR.out 1))
       have nP:=aM (yD HP.out);have nR:=aM (yD HR.out);have nB:=aM (zD HB.out)
       clear HR HB HV HP HO HM HT HZ
       have HP:=nP
       have HR:=nR
       have HB:=nB
       clear nP nR nB
       refine start_ (n:=16) (S:=fun w'=>w'.cell? ⟨w.heap.size + 1,2,none⟩ = some (.string p.p2) ∧ w'.cell? ⟨w.heap.size + 1,3,none⟩ = some (.string p.p3)) (ds:=[]) #[fF,fF,fF,fF,fF,fF,fF,fF,fF,fF,fF,fF,fF,fF,fF,fF] (by kernel_rfl) rfl rfl ⟨(blk_cell HP.out 2).trans rfl,(blk_cell HP.out 3).trans rfl⟩ (fun hHeld=>?_)
       refine pure_ (i:=0) (N:=some 55) (v:=?_) (a':=?_) #[tT,fF,fF,fF,fF,fF,fF,fF,fF,fF,fF,fF,fF,fF,fF,fF] rfl rfl (by kernel_rfl) (fun _ _ _ h=>h) (Or.inl ⟨by rfl,?_⟩) ?_ ?_
       rotate_left
       ·intro w'
        go_simp
        with_reducible rfl
       rotate_left
       ·simp only [Act.put,sI,sZ,sS,i64_w,i32_w]
        rfl
       refine pure_ (i:=1) (N:=some 56) (v:=?_) (a':=?_) #[tT,tT,fF,fF,fF,fF,fF,fF,fF,fF,fF,fF,fF,fF,fF,fF] rfl rfl (by kernel_rfl) (fun _ _ _ h=>h) (Or.inl ⟨by rfl,?_⟩) ?_ ?_
       rotate_left
       ·intro w'
        go_simp
        with_reducible rfl
       rotate_left
       ·simp only [Act.put,sI,sZ,sS,i64_w,i32_w]
        rfl
       refine pure_ (i:=2) (N:=some 57) (v:=?_) (a':=?_) #[tT,tT,tT,fF,fF,fF,fF,fF,fF,fF,fF,fF,fF,fF,fF,fF] rfl rfl (by kernel_rfl) (fun _ _ _ h=>h) (Or.inl ⟨by rfl,?_⟩) ?_ ?_
       rotate_left
       ·intro w'
        go_simp
        with_reducible rfl
       rotate_left
       ·simp only [Act.put,sI,sZ,sS,i64_w,i32_w]
        rfl
       refine pure_ (i:=3) (N:=some 58) (v:=?_) (a':=?_) #[tT,tT,tT,tT,fF,fF,fF,fF,fF,fF,fF,fF,fF,fF,fF,fF] rfl rfl (by kernel_rfl) (fun _ _ _ h=>h) (Or.inl ⟨by rfl,?_⟩) ?_ ?_
       rotate_left
       ·intro w'
        go_simp
        with_reducible rfl
       rotate_left
       ·simp only [Act.put,sI,sZ,sS,i64_w,i32_w]
        rfl
       refine pure_ (i:=6) (N:=some 61) (v:=?_) (a':=?_) #[tT,tT,tT,tT,fF,fF,tT,fF,fF,fF,fF,fF,fF,fF,fF,fF] rfl rfl (by kernel_rfl) (fun _ _ _ h=>h) (Or.inl ⟨by rfl,?_⟩) ?_ ?_
       rotate_left
       ·intro w'
        go_simp
        with_reducible rfl
       rotate_left
       ·simp only [Act.put,sI,sZ,sS,i64_w,i32_w]
        rfl
       refine pure_ (i:=7) (N:=some 62) (v:=?_) (a':=?_) #[tT,tT,tT,tT,fF,fF,tT,tT,fF,fF,fF,fF,fF,fF,fF,fF] rfl rfl (by kernel_rfl) (fun _ _ _ h=>h) (Or.inl ⟨by rfl,?_⟩) ?_ ?_
       rotate_left
       ·intro w'
        go_simp
        with_reducible rfl
       rotate_left
       ·simp only [Act.put,sI,sZ,sS,i64_w,i32_w]
        rfl
       refine pure_ (i:=8) (N:=some 63) (v:=?_) (a':=?_) #[tT,tT,tT,tT,fF,fF,tT,tT,tT,fF,fF,fF,fF,fF,fF,fF] rfl rfl (by kernel_rfl) (fun _ _ _ h=>h) (Or.inl ⟨by rfl,?_⟩) ?_ ?_
       rotate_left
       ·intro w'
        go_simp
        with_reducible rfl
       rotate_left
       ·simp only [Act.put,sI,sZ,sS,i64_w,i32_w]
        rfl
       refine take_ (i:=4) (N:=some 59) (v:=?_) (a':=?_) #[tT,tT,tT,tT,tT,fF,tT,tT,tT,fF,fF,fF,fF,fF,fF,fF] rfl rfl (by kernel_rfl) (fun _ _ _ h=>h) (Or.inl ⟨by rfl,?_⟩) hHeld ?_ ?_
       rotate_left
       ·rintro w' ⟨s0,s1⟩
        go_simp
        with_reducible rfl
       rotate_left
       ·simp only [Act.put,sI,sZ,sS,i64_w,i32_w]
        rfl
       refine pure_ (i:=5) (N:=some 60) (v:=?_) (a':=?_) #[tT,tT,tT,tT,tT,tT,tT,tT,tT,fF,fF,fF,fF,fF,fF,fF] rfl rfl (by kernel_rfl) (fun _ _ _ h=>h) (Or.inl ⟨by rfl,?_⟩) ?_ ?_
       rotate_left
       ·intro w'
        go_simp
        with_reducible rfl
       rotate_left
       ·simp only [Act.put,sI,sZ,sS,i64_w,i32_w]
        rfl
       refine take_ (i:=9) (N:=some 64) (v:=?_) (a':=?_) #[tT,tT,tT,tT,tT,tT,tT,tT,tT,tT,fF,fF,fF,fF,fF,fF] rfl rfl (by kernel_rfl) (fun _ _ _ h=>h) (Or.inl ⟨by rfl,?_⟩) hHeld ?_ ?_
       rotate_left
       ·rintro w' ⟨s0,s1⟩
        go_simp
        with_reducible rfl
       rotate_left
       ·simp only [Act.put,sI,sZ,sS,i64_w,i32_w]
        rfl
       refine one_ (i:=10) (N:=some 65) #[tT,tT,tT,tT,tT,tT,tT,tT,tT,tT,tT,fF,fF,fF,fF,fF] rfl rfl (by kernel_rfl) (by decide) (fun K hK=>?_)
       refine goes_ Try.func25 (by kernel_rfl) rfl #[.string (wd ++ p.p2),.string p.p3] (by rfl) rfl rfl (by simp only [sM,sC,sN];rfl) ?_
       with_reducible refine (CS.out _).mono ?_
       rintro e wC ⟨rfl,hb⟩
       refine ⟨_,rfl,?_⟩
       have nHP_:=aM (blk_below (HP.out) hb);have nHR_:=aM (blk_below (HR.out) hb);have nHB_:=aM (HB.out.trans (hb.mono (HB.out.size)))
       clear hb HP HR HB
       have HP:=nHP_
       have HR:=nHR_
       have HB:=nHB_
       clear nHP_ nHR_ nHB_
       refine hK.out _ _ ⟨(blk_cell HP.out 2).trans rfl,(blk_cell HP.out 3).trans rfl⟩ (fun hHeld=>?_)
       clear hK K
       refine norm_ (a':=?_) ?_ ?_
       rotate_left
       ·show Act.put _ (some 65) _ = _
        simp only [Act.put,sI,sZ,sS,i64_w,i32_w]
        rfl
       refine one_ (i:=11) (N:=some 66) #[tT,tT,tT,tT,tT,tT,tT,tT,tT,tT,tT,tT,fF,fF,fF,fF] rfl rfl (by kernel_rfl) (by decide) (fun K hK=>?_)
       refine goes_ Try.func24 (by kernel_rfl) rfl #[.agg #[.string q1,.string q2]] (by rfl) rfl rfl (by simp only [sM,sC,sN];rfl) ?_
       with_reducible refine (CH.out _).mono ?_
       rintro e wD ⟨rfl,hb⟩
       refine ⟨_,rfl,?_⟩
       have nHP_:=aM (blk_below (HP.out) hb);have nHR_:=aM (blk_below (HR.out) hb);have nHB_:=aM (HB.out.trans (hb.mono (HB.out.size)))
       clear hb HP HR HB
       have HP:=nHP_
       have HR:=nHR_
       have HB:=nHB_
       clear nHP_ nHR_ nHB_
       have K0:=(blk_cell HR.out 0).trans rfl
       have K1:=(blk_cell HR.out 1).trans rfl
       have F0:=blk_frozen HR.out 0
       have F1:=blk_frozen HR.out 1
       refine hK.out _ _ ⟨(blk_cell HP.out 2).trans rfl,(blk_cell HP.out 3).trans rfl⟩ (fun hHeld=>?_)
       clear hK K
       refine norm_ (a':=?_) ?_ ?_
       rotate_left
       ·show Act.put _ (some 66) _ = _
        simp only [Act.put,sI,sZ,sS,i64_w,i32_w]
        rfl
       refine pure_ (i:=12) (N:=some 67) (v:=?_) (a':=?_) #[tT,tT,tT,tT,tT,tT,tT,tT,tT,tT,tT,tT,tT,fF,fF,fF] rfl rfl (by kernel_rfl) (fun _ _ _ h=>h) (Or.inl ⟨by rfl,?_⟩) ?_ ?_
       rotate_left
       ·intro w'
        go_simp
        with_reducible rfl
       rotate_left
       ·simp only [Act.put,sI,sZ,sS,i64_w,i32_w]
        rfl
       refine pure_ (i:=13) (N:=some 68) (v:=?_) (a':=?_) #[tT,tT,tT,tT,tT,tT,tT,tT,tT,tT,tT,tT,tT,tT,fF,fF] rfl rfl (by kernel_rfl) (fun _ _ _ h=>h) (Or.inl ⟨by rfl,?_⟩) ?_ ?_
       rotate_left
       ·intro w'
        go_simp
        with_reducible rfl
       rotate_left
       ·simp only [Act.put,sI,sZ,sS,i64_w,i32_w]
        rfl
       refine one_ (i:=14) (N:=none) #[tT,tT,tT,tT,tT,tT,tT,tT,tT,tT,tT,tT,tT,tT,tT,fF] rfl rfl (by kernel_rfl) (by decide) (fun K hK=>?_)
       refine skip_ (w1:=?_) (by rfl) rfl ?_ ?_
       rotate_left
       ·go_simp
        rfl
       refine hK.out _ _ ⟨(blk_cell (blk_far (blk_far HP.out (by first|(simp;done)|(simp;omega)) _) (by first|(simp;done)|(simp;omega)) _) 2).trans rfl,(blk_cell (blk_far (blk_far HP.out (by first|(simp;done)|(simp;omega)) _) (by first|(simp;done)|(simp;omega)) _) 3).trans rfl⟩ (fun hHeld=>?_)
       clear hK K
       refine pure_ (i:=15) (N:=some 5) (v:=?_) (a':=?_) #[tT,tT,tT,tT,tT,tT,tT,tT,tT,tT,tT,tT,tT,tT,tT,tT] rfl rfl (by kernel_rfl) (fun _ _ _ h=>h) (Or.inl ⟨by rfl,?_⟩) ?_ ?_
       rotate_left
       ·intro w'
        go_simp
        with_reducible rfl
       rotate_left
       ·simp only [Act.put,sI,sZ,sS,i64_w,i32_w]
        rfl
       refine done_ (by kernel_rfl) ?_
       try go_wp2
       refine bodyPost_ret (results_ct rfl _ _ (w.heap.size + 1 + 1) 27 #[.string r1,.string r2] (0,0) _ rfl (by first|exact blk_put (cs:=#[.string r1,.string ⟨#[]⟩]) (blk_put (cs:=#[.string ⟨#[]⟩,.string ⟨#[]⟩]) HR.out 0 _ rfl) 1 _ rfl) Try.underlying27 rfl (by kernel_rfl)) rfl ?_
       exact ⟨rfl,zS (zS HB.out (by omega)) (by omega)⟩
      ·subst e2
       replace H:midEnd gk (wd ++ p.p4) p.p5 = some (r1,r2,r3):=H
       obtain ⟨q1,q2,h2,h3⟩:=short_parts H
       have CS:Aside0 (∀ W,Calls Try.prog 25 #[.string (wd ++ p.p4),.string p.p5] W fun e w'=>e = .returned (.agg #[.string q1,.string q2]) ∧ Below W.heap.size W w'):=⟨fun W=>(impl_sequence.calls gk _ _ q1 q2 W h2).mono fun e w' hh=>hh⟩
       have CH:Aside0 (∀ W,Calls Try.prog 24 #[.agg #[.string q1,.string q2]] W fun e w'=>e = .returned (.tuple #[.agg #[.string r1,.string r2],.int .i64 r3]) ∧ Below W.heap.size W w'):=⟨fun W=>(impl_short.calls _ _ r1 r2 r3 W h3).mono fun e w' ⟨he,hd⟩=>⟨he,by first|exact hd|exact hd.below⟩⟩
       clear H h2 h3
       have hcat:=eq_true (show wd.size + p.p4.size ≤ 9223372036854775807 by have:=pok.2.2.2.2.1;omega)
       have hcat2:=eq_false (show ¬ 9223372036854775807 < wd.size + p.p4.size by have:=pok.2.2.2.2.1;omega)
       go_wp2_with (first|(go_at_call 23;refine (CT.out _).mono ?_;rintro e wA ⟨rfl,hb⟩;have nHV_:=aM (blk_below (HV.out) hb);have nHP_:=aM (blk_below (HP.out) hb);have nHR_:=aM (blk_below (HR.out) hb);have nHO_:=aM (blk_below (HO.out) hb);have nHB_:=aM (HB.out.trans (hb.mono (HB.out.size)));have nHZ_:=aM (Nat.le_trans HZ.out (hb.size));clear hb HV HP HR HO HB HZ;have HV:=nHV_;have HP:=nHP_;have HR:=nHR_;have HO:=nHO_;have HB:=nHB_;have HZ:=nHZ_;clear nHV_ nHP_ nHR_ nHO_ nHB_ nHZ_;have G0:=(blk_cell (yA HP.out (.cells #[.string s1,.string s2] 27)) 0).trans rfl;have G1:=(blk_cell (yA HP.out (.cells #[.string s1,.string s2] 27)) 1).trans rfl;have G2:=(blk_cell (yA HP.out (.cells #[.string s1,.string s2] 27)) 2).trans rfl;have G3:=(blk_cell (yA HP.out (.cells #[.string s1,.string s2] 27)) 3).trans rfl;have G4:=(blk_cell (yA HP.out (.cells #[.string s1,.string s2] 27)) 4).trans rfl;have G5:=(blk_cell (yA HP.out (.cells #[.string s1,.string s2] 27)) 5).trans rfl)|(at_lookup;refine wpList_lookup_own_ok_int _ rfl _ _ 51 rfl 37 3 .i64 law37 u51 u3 (zero3 _) (w.heap.size + 1 + 1 + 1) seen.length D rfl (HM.out _ (yA HO.out _)) _ kl rfl hkl ?_;intro c hat hwc;rw [hhas];clear hat hwc)|(go_at_call 26;refine (CV.out _).mono ?_;rintro e wB ⟨rfl,hb⟩;have nHV_:=aM (blk_below (yA HV.out _) hb);have nHP_:=aM (blk_below (yA HP.out _) hb);have nHR_:=aM (blk_below (yA HR.out _) hb);have nHO_:=aM (blk_below (yA HO.out _) hb);have nHB_:=aM ((HB.out.alloc HB.out.size _).trans (hb.mono (by have:=HB.out.size;simp;omega)));have nHZ_:=aM (Nat.le_trans HZ.out (Nat.le_trans (by simp) hb.size));clear hb HV HP HR HO HB HZ;have HV:=nHV_;have HP:=nHP_;have HR:=nHR_;have HO:=nHO_;have HB:=nHB_;have HZ:=nHZ_;clear nHV_ nHP_ nHR_ nHO_ nHB_ nHZ_;have G0:=(blk_cell HP.out 0).trans rfl;have G1:=(blk_cell HP.out 1).trans rfl;have G2:=(blk_cell HP.out 2).trans rfl;have G3:=(blk_cell HP.out 3).trans rfl;have G4:=(blk_cell HP.out 4).trans rfl;have G5:=(blk_cell HP.out 5).trans rfl;have K0:=(blk_cell HR.out 0).trans rfl;have K1:=(blk_cell HR.out 1).trans rfl;have F0:=blk_frozen HR.out 0;have F1:=blk_frozen HR.out 1))
       have nP:=aM (yD HP.out);have nR:=aM (yD HR.out);have nB:=aM (zD HB.out)
       clear HR HB HV HP HO HM HT HZ
       have HP:=nP
       have HR:=nR
       have HB:=nB
       clear nP nR nB
       refine start_ (n:=16) (S:=fun w'=>w'.cell? ⟨w.heap.size + 1,4,none⟩ = some (.string p.p4) ∧ w'.cell? ⟨w.heap.size + 1,5,none⟩ = some (.string p.p5)) (ds:=[]) #[fF,fF,fF,fF,fF,fF,fF,fF,fF,fF,fF,fF,fF,fF,fF,fF] (by kernel_rfl) rfl rfl ⟨(blk_cell HP.out 4).trans rfl,(blk_cell HP.out 5).trans rfl⟩ (fun hHeld=>?_)
       refine pure_ (i:=0) (N:=some 55) (v:=?_) (a':=?_) #[tT,fF,fF,fF,fF,fF,fF,fF,fF,fF,fF,fF,fF,fF,fF,fF] rfl rfl (by kernel_rfl) (fun _ _ _ h=>h) (Or.inl ⟨by rfl,?_⟩) ?_ ?_
       rotate_left
       ·intro w'
        go_simp
        with_reducible rfl
       rotate_left
       ·simp only [Act.put,sI,sZ,sS,i64_w,i32_w]
        rfl
       refine pure_ (i:=1) (N:=some 56) (v:=?_) (a':=?_) #[tT,tT,fF,fF,fF,fF,fF,fF,fF,fF,fF,fF,fF,fF,fF,fF] rfl rfl (by kernel_rfl) (fun _ _ _ h=>h) (Or.inl ⟨by rfl,?_⟩) ?_ ?_
       rotate_left
       ·intro w'
        go_simp
        with_reducible rfl
       rotate_left
       ·simp only [Act.put,sI,sZ,sS,i64_w,i32_w]
        rfl
       refine pure_ (i:=2) (N:=some 57) (v:=?_) (a':=?_) #[tT,tT,tT,fF,fF,fF,fF,fF,fF,fF,fF,fF,fF,fF,fF,fF] rfl rfl (by kernel_rfl) (fun _ _ _ h=>h) (Or.inl ⟨by rfl,?_⟩) ?_ ?_
       rotate_left
       ·intro w'
        go_simp
        with_reducible rfl
       rotate_left
       ·simp only [Act.put,sI,sZ,sS,i64_w,i32_w]
        rfl
       refine pure_ (i:=3) (N:=some 58) (v:=?_) (a':=?_) #[tT,tT,tT,tT,fF,fF,fF,fF,fF,fF,fF,fF,fF,fF,fF,fF] rfl rfl (by kernel_rfl) (fun _ _ _ h=>h) (Or.inl ⟨by rfl,?_⟩) ?_ ?_
       rotate_left
       ·intro w'
        go_simp
        with_reducible rfl
       rotate_left
       ·simp only [Act.put,sI,sZ,sS,i64_w,i32_w]
        rfl
       refine pure_ (i:=6) (N:=some 61) (v:=?_) (a':=?_) #[tT,tT,tT,tT,fF,fF,tT,fF,fF,fF,fF,fF,fF,fF,fF,fF] rfl rfl (by kernel_rfl) (fun _ _ _ h=>h) (Or.inl ⟨by rfl,?_⟩) ?_ ?_
       rotate_left
       ·intro w'
        go_simp
        with_reducible rfl
       rotate_left
       ·simp only [Act.put,sI,sZ,sS,i64_w,i32_w]
        rfl
       refine pure_ (i:=7) (N:=some 62) (v:=?_) (a':=?_) #[tT,tT,tT,tT,fF,fF,tT,tT,fF,fF,fF,fF,fF,fF,fF,fF] rfl rfl (by kernel_rfl) (fun _ _ _ h=>h) (Or.inl ⟨by rfl,?_⟩) ?_ ?_
       rotate_left
       ·intro w'
        go_simp
        with_reducible rfl
       rotate_left
       ·simp only [Act.put,sI,sZ,sS,i64_w,i32_w]
        rfl
       refine pure_ (i:=8) (N:=some 63) (v:=?_) (a':=?_) #[tT,tT,tT,tT,fF,fF,tT,tT,tT,fF,fF,fF,fF,fF,fF,fF] rfl rfl (by kernel_rfl) (fun _ _ _ h=>h) (Or.inl ⟨by rfl,?_⟩) ?_ ?_
       rotate_left
       ·intro w'
        go_simp
        with_reducible rfl
       rotate_left
       ·simp only [Act.put,sI,sZ,sS,i64_w,i32_w]
        rfl
       refine take_ (i:=4) (N:=some 59) (v:=?_) (a':=?_) #[tT,tT,tT,tT,tT,fF,tT,tT,tT,fF,fF,fF,fF,fF,fF,fF] rfl rfl (by kernel_rfl) (fun _ _ _ h=>h) (Or.inl ⟨by rfl,?_⟩) hHeld ?_ ?_
       rotate_left
       ·rintro w' ⟨s0,s1⟩
        go_simp
        with_reducible rfl
       rotate_left
       ·simp only [Act.put,sI,sZ,sS,i64_w,i32_w]
        rfl
       refine pure_ (i:=5) (N:=some 60) (v:=?_) (a':=?_) #[tT,tT,tT,tT,tT,tT,tT,tT,tT,fF,fF,fF,fF,fF,fF,fF] rfl rfl (by kernel_rfl) (fun _ _ _ h=>h) (Or.inl ⟨by rfl,?_⟩) ?_ ?_
       rotate_left
       ·intro w'
        go_simp
        with_reducible rfl
       rotate_left
       ·simp only [Act.put,sI,sZ,sS,i64_w,i32_w]
        rfl
       refine take_ (i:=9) (N:=some 64) (v:=?_) (a':=?_) #[tT,tT,tT,tT,tT,tT,tT,tT,tT,tT,fF,fF,fF,fF,fF,fF] rfl rfl (by kernel_rfl) (fun _ _ _ h=>h) (Or.inl ⟨by rfl,?_⟩) hHeld ?_ ?_
       rotate_left
       ·rintro w' ⟨s0,s1⟩
        go_simp
        with_reducible rfl
       rotate_left
       ·simp only [Act.put,sI,sZ,sS,i64_w,i32_w]
        rfl
       refine one_ (i:=10) (N:=some 65) #[tT,tT,tT,tT,tT,tT,tT,tT,tT,tT,tT,fF,fF,fF,fF,fF] rfl rfl (by kernel_rfl) (by decide) (fun K hK=>?_)
       refine goes_ Try.func25 (by kernel_rfl) rfl #[.string (wd ++ p.p4),.string p.p5] (by rfl) rfl rfl (by simp only [sM,sC,sN];rfl) ?_
       with_reducible refine (CS.out _).mono ?_
       rintro e wC ⟨rfl,hb⟩
       refine ⟨_,rfl,?_⟩
       have nHP_:=aM (blk_below (HP.out) hb);have nHR_:=aM (blk_below (HR.out) hb);have nHB_:=aM (HB.out.trans (hb.mono (HB.out.size)))
       clear hb HP HR HB
       have HP:=nHP_
       have HR:=nHR_
       have HB:=nHB_
       clear nHP_ nHR_ nHB_
       refine hK.out _ _ ⟨(blk_cell HP.out 4).trans rfl,(blk_cell HP.out 5).trans rfl⟩ (fun hHeld=>?_)
       clear hK K
       refine norm_ (a':=?_) ?_ ?_
       rotate_left
       ·show Act.put _ (some 65) _ = _
        simp only [Act.put,sI,sZ,sS,i64_w,i32_w]
        rfl
       refine one_ (i:=11) (N:=some 66) #[tT,tT,tT,tT,tT,tT,tT,tT,tT,tT,tT,tT,fF,fF,fF,fF] rfl rfl (by kernel_rfl) (by decide) (fun K hK=>?_)
       refine goes_ Try.func24 (by kernel_rfl) rfl #[.agg #[.string q1,.string q2]] (by rfl) rfl rfl (by simp only [sM,sC,sN];rfl) ?_
       with_reducible refine (CH.out _).mono ?_
       rintro e wD ⟨rfl,hb⟩
       refine ⟨_,rfl,?_⟩
       have nHP_:=aM (blk_below (HP.out) hb);have nHR_:=aM (blk_below (HR.out) hb);have nHB_:=aM (HB.out.trans (hb.mono (HB.out.size)))
       clear hb HP HR HB
       have HP:=nHP_
       have HR:=nHR_
       have HB:=nHB_
       clear nHP_ nHR_ nHB_
       have K0:=(blk_cell HR.out 0).trans rfl
       have K1:=(blk_cell HR.out 1).trans rfl
       have F0:=blk_frozen HR.out 0
       have F1:=blk_frozen HR.out 1
       refine hK.out _ _ ⟨(blk_cell HP.out 4).trans rfl,(blk_cell HP.out 5).trans rfl⟩ (fun hHeld=>?_)
       clear hK K
       refine norm_ (a':=?_) ?_ ?_
       rotate_left
       ·show Act.put _ (some 66) _ = _
        simp only [Act.put,sI,sZ,sS,i64_w,i32_w]
        rfl
       refine pure_ (i:=12) (N:=some 67) (v:=?_) (a':=?_) #[tT,tT,tT,tT,tT,tT,tT,tT,tT,tT,tT,tT,tT,fF,fF,fF] rfl rfl (by kernel_rfl) (fun _ _ _ h=>h) (Or.inl ⟨by rfl,?_⟩) ?_ ?_
       rotate_left
       ·intro w'
        go_simp
        with_reducible rfl
       rotate_left
       ·simp only [Act.put,sI,sZ,sS,i64_w,i32_w]
        rfl
       refine pure_ (i:=13) (N:=some 68) (v:=?_) (a':=?_) #[tT,tT,tT,tT,tT,tT,tT,tT,tT,tT,tT,tT,tT,tT,fF,fF] rfl rfl (by kernel_rfl) (fun _ _ _ h=>h) (Or.inl ⟨by rfl,?_⟩) ?_ ?_
       rotate_left
       ·intro w'
        go_simp
        with_reducible rfl
       rotate_left
       ·simp only [Act.put,sI,sZ,sS,i64_w,i32_w]
        rfl
       refine one_ (i:=14) (N:=none) #[tT,tT,tT,tT,tT,tT,tT,tT,tT,tT,tT,tT,tT,tT,tT,fF] rfl rfl (by kernel_rfl) (by decide) (fun K hK=>?_)
       refine skip_ (w1:=?_) (by rfl) rfl ?_ ?_
       rotate_left
       ·go_simp
        rfl
       refine hK.out _ _ ⟨(blk_cell (blk_far (blk_far HP.out (by first|(simp;done)|(simp;omega)) _) (by first|(simp;done)|(simp;omega)) _) 4).trans rfl,(blk_cell (blk_far (blk_far HP.out (by first|(simp;done)|(simp;omega)) _) (by first|(simp;done)|(simp;omega)) _) 5).trans rfl⟩ (fun hHeld=>?_)
       clear hK K
       refine pure_ (i:=15) (N:=some 5) (v:=?_) (a':=?_) #[tT,tT,tT,tT,tT,tT,tT,tT,tT,tT,tT,tT,tT,tT,tT,tT] rfl rfl (by kernel_rfl) (fun _ _ _ h=>h) (Or.inl ⟨by rfl,?_⟩) ?_ ?_
       rotate_left
       ·intro w'
        go_simp
        with_reducible rfl
       rotate_left
       ·simp only [Act.put,sI,sZ,sS,i64_w,i32_w]
        rfl
       refine done_ (by kernel_rfl) ?_
       try go_wp2
       refine bodyPost_ret (results_ct rfl _ _ (w.heap.size + 1 + 1) 27 #[.string r1,.string r2] (0,0) _ rfl (by first|exact blk_put (cs:=#[.string r1,.string ⟨#[]⟩]) (blk_put (cs:=#[.string ⟨#[]⟩,.string ⟨#[]⟩]) HR.out 0 _ rfl) 1 _ rfl) Try.underlying27 rfl (by kernel_rfl)) rfl ?_
       exact ⟨rfl,zS (zS HB.out (by omega)) (by omega)⟩
     ·rw [if_neg hst] at H
      have hs1:=eq_false hst
      have hs2:decide (0 ≤ st) = false:=decide_eq_false hst
      by_cases hL:wd.size = 600
      ·rw [if_pos hL] at H
       simp only [Option.some.injEq,Prod.mk.injEq] at H
       obtain ⟨rfl,rfl,rfl⟩:=H
       have hl1:((wd.size:Int) == 600) = true:=beq_iff_eq.mpr (by omega)
       go_wp2_with (first|(go_at_call 23;refine (CT.out _).mono ?_;rintro e wA ⟨rfl,hb⟩;have nHV_:=aM (blk_below (HV.out) hb);have nHP_:=aM (blk_below (HP.out) hb);have nHR_:=aM (blk_below (HR.out) hb);have nHO_:=aM (blk_below (HO.out) hb);have nHB_:=aM (HB.out.trans (hb.mono (HB.out.size)));have nHZ_:=aM (Nat.le_trans HZ.out (hb.size));clear hb HV HP HR HO HB HZ;have HV:=nHV_;have HP:=nHP_;have HR:=nHR_;have HO:=nHO_;have HB:=nHB_;have HZ:=nHZ_;clear nHV_ nHP_ nHR_ nHO_ nHB_ nHZ_;have G0:=(blk_cell (yA HP.out (.cells #[.string s1,.string s2] 27)) 0).trans rfl;have G1:=(blk_cell (yA HP.out (.cells #[.string s1,.string s2] 27)) 1).trans rfl;have G2:=(blk_cell (yA HP.out (.cells #[.string s1,.string s2] 27)) 2).trans rfl;have G3:=(blk_cell (yA HP.out (.cells #[.string s1,.string s2] 27)) 3).trans rfl;have G4:=(blk_cell (yA HP.out (.cells #[.string s1,.string s2] 27)) 4).trans rfl;have G5:=(blk_cell (yA HP.out (.cells #[.string s1,.string s2] 27)) 5).trans rfl)|(at_lookup;refine wpList_lookup_own_ok_int _ rfl _ _ 51 rfl 37 3 .i64 law37 u51 u3 (zero3 _) (w.heap.size + 1 + 1 + 1) seen.length D rfl (HM.out _ (yA HO.out _)) _ kl rfl hkl ?_;intro c hat hwc;rw [hhas];clear hat hwc)|(go_at_call 26;refine (CV.out _).mono ?_;rintro e wB ⟨rfl,hb⟩;have nHV_:=aM (blk_below (yA HV.out _) hb);have nHP_:=aM (blk_below (yA HP.out _) hb);have nHR_:=aM (blk_below (yA HR.out _) hb);have nHO_:=aM (blk_below (yA HO.out _) hb);have nHB_:=aM ((HB.out.alloc HB.out.size _).trans (hb.mono (by have:=HB.out.size;simp;omega)));have nHZ_:=aM (Nat.le_trans HZ.out (Nat.le_trans (by simp) hb.size));clear hb HV HP HR HO HB HZ;have HV:=nHV_;have HP:=nHP_;have HR:=nHR_;have HO:=nHO_;have HB:=nHB_;have HZ:=nHZ_;clear nHV_ nHP_ nHR_ nHO_ nHB_ nHZ_;have G0:=(blk_cell HP.out 0).trans rfl;have G1:=(blk_cell HP.out 1).trans rfl;have G2:=(blk_cell HP.out 2).trans rfl;have G3:=(blk_cell HP.out 3).trans rfl;have G4:=(blk_cell HP.out 4).trans rfl;have G5:=(blk_cell HP.out 5).trans rfl;have K0:=(blk_cell HR.out 0).trans rfl;have K1:=(blk_cell HR.out 1).trans rfl;have F0:=blk_frozen HR.out 0;have F1:=blk_frozen HR.out 1))
       refine bodyPost_ret (results_ct rfl _ _ (w.heap.size + 1 + 1) 27 #[.string ⟨#[]⟩,.string ⟨#[]⟩] (0,0) _ rfl (by first|exact blk_put (cs:=#[.string ⟨#[]⟩,.string ⟨#[]⟩]) (blk_put (cs:=#[.string ⟨#[]⟩,.string ⟨#[]⟩]) HR.out 0 _ rfl) 1 _ rfl) Try.underlying27 rfl (by kernel_rfl)) rfl ?_
       exact ⟨rfl,zS (zS HB.out (by omega)) (by omega)⟩
      ·rw [if_neg hL] at H
       by_cases hlt:lt = 48 ∨ lt = 49
       case neg=>rw [if_neg hlt] at H;cases H
       rw [if_pos hlt] at H
       obtain ⟨⟨y0,y1,y2,y3,y4,y5⟩,h5,H⟩:=Option.bind_eq_some_iff.1 H
       have HN:=aM (show impl_Sequence_middle.l a0_0 a0_1 gk ⟨y0,y1,y2,y3,y4,y5⟩ (wd ++ Utf8.encode lt) (seen ++ [p]) = some (r1,r2,r3) from H)
       clear H
       have CM:Aside0 (∀ W,Calls Try.prog 27 #[.agg #[.string a0_0,.string a0_1],.agg #[.string p.p0,.string p.p1,.string p.p2,.string p.p3,.string p.p4,.string p.p5],.int .u8 lt] W fun e w'=>e = .returned (.agg #[.string y0,.string y1,.string y2,.string y3,.string y4,.string y5]) ∧ Below W.heap.size W w'):=⟨fun W=>impl_Sequence_moved.calls _ _ _ _ _ _ _ _ _ _ _ _ _ _ _ W h5⟩
       clear h5
       have hl1:((wd.size:Int) == 600) = false:=beq_eq_false_iff_ne.mpr (by omega)
       have hue:(Utf8.encode lt).size = 1:=by rcases hlt with rfl|rfl <;> rfl
       have hcat:=eq_true (show wd.size + (Utf8.encode lt).size ≤ 9223372036854775807 by omega)
       have hcat2:=eq_false (show ¬ 9223372036854775807 < wd.size + (Utf8.encode lt).size by omega)
       have hwf:(Lit.int .i64 (wd.size:Int)).wf = true:=WalkArith.wf_i64 (by omega)
       go_wp2_with (first|(go_at_call 23;refine (CT.out _).mono ?_;rintro e wA ⟨rfl,hb⟩;have nHV_:=aM (blk_below (HV.out) hb);have nHP_:=aM (blk_below (HP.out) hb);have nHR_:=aM (blk_below (HR.out) hb);have nHO_:=aM (blk_below (HO.out) hb);have nHB_:=aM (HB.out.trans (hb.mono (HB.out.size)));have nHZ_:=aM (Nat.le_trans HZ.out (hb.size));clear hb HV HP HR HO HB HZ;have HV:=nHV_;have HP:=nHP_;have HR:=nHR_;have HO:=nHO_;have HB:=nHB_;have HZ:=nHZ_;clear nHV_ nHP_ nHR_ nHO_ nHB_ nHZ_;have G0:=(blk_cell (yA HP.out (.cells #[.string s1,.string s2] 27)) 0).trans rfl;have G1:=(blk_cell (yA HP.out (.cells #[.string s1,.string s2] 27)) 1).trans rfl;have G2:=(blk_cell (yA HP.out (.cells #[.string s1,.string s2] 27)) 2).trans rfl;have G3:=(blk_cell (yA HP.out (.cells #[.string s1,.string s2] 27)) 3).trans rfl;have G4:=(blk_cell (yA HP.out (.cells #[.string s1,.string s2] 27)) 4).trans rfl;have G5:=(blk_cell (yA HP.out (.cells #[.string s1,.string s2] 27)) 5).trans rfl)|(at_lookup;refine wpList_lookup_own_ok_int _ rfl _ _ 51 rfl 37 3 .i64 law37 u51 u3 (zero3 _) (w.heap.size + 1 + 1 + 1) seen.length D rfl (HM.out _ (yA HO.out _)) _ kl rfl hkl ?_;intro c hat hwc;rw [hhas];clear hat hwc)|(go_at_call 26;refine (CV.out _).mono ?_;rintro e wB ⟨rfl,hb⟩;have nHV_:=aM (blk_below (yA HV.out _) hb);have nHP_:=aM (blk_below (yA HP.out _) hb);have nHR_:=aM (blk_below (yA HR.out _) hb);have nHO_:=aM (blk_below (yA HO.out _) hb);have nHB_:=aM ((HB.out.alloc HB.out.size _).trans (hb.mono (by have:=HB.out.size;simp;omega)));have nHZ_:=aM (Nat.le_trans HZ.out (Nat.le_trans (by simp) hb.size));clear hb HV HP HR HO HB HZ;have HV:=nHV_;have HP:=nHP_;have HR:=nHR_;have HO:=nHO_;have HB:=nHB_;have HZ:=nHZ_;clear nHV_ nHP_ nHR_ nHO_ nHB_ nHZ_;have G0:=(blk_cell HP.out 0).trans rfl;have G1:=(blk_cell HP.out 1).trans rfl;have G2:=(blk_cell HP.out 2).trans rfl;have G3:=(blk_cell HP.out 3).trans rfl;have G4:=(blk_cell HP.out 4).trans rfl;have G5:=(blk_cell HP.out 5).trans rfl;have K0:=(blk_cell HR.out 0).trans rfl;have K1:=(blk_cell HR.out 1).trans rfl;have F0:=blk_frozen HR.out 0;have F1:=blk_frozen HR.out 1)|(at_mapUpdate;refine wpList_mapUpdate_own _ rfl _ _ _ 51 rfl 37 3 law37 u51 _ (w.heap.size + 1 + 1 + 1) seen.length D rfl (HM.out _ HO.out) (by unfold maxLen;omega) _ _ kl rfl rfl hkl _ [] (plainElem_int u3 hwf) ?_;intro wD hown hgr;obtain ⟨o2,ho1,ho2⟩:=ownsMap_at hown;have HO2:=aM ho2;have nV:=aM (blk_grown HV.out hgr (by first|(simp;done)|(simp;omega)));have nP:=aM (blk_grown HP.out hgr (by first|(simp;done)|(simp;omega)));have nR:=aM (blk_grown HR.out hgr (by first|(simp;done)|(simp;omega)));have nO:=aM ho1;have nB:=aM (HB.out.grown hgr HB.out.size (by intro k hk;cases hk;omega));have nZ:=aM (Nat.le_trans HZ.out hgr.size);clear HV HP HR HO HB HZ hown hgr ho1 ho2;have HV:=nV;have HP:=nP;have HR:=nR;have HO:=nO;have HB:=nB;have HZ:=nZ;clear nV nP nR nO nB nZ;have G0:=(blk_cell HP.out 0).trans rfl;have G1:=(blk_cell HP.out 1).trans rfl;have G2:=(blk_cell HP.out 2).trans rfl;have G3:=(blk_cell HP.out 3).trans rfl;have G4:=(blk_cell HP.out 4).trans rfl;have G5:=(blk_cell HP.out 5).trans rfl;have A0:=(blk_cell HV.out 0).trans rfl;have A1:=(blk_cell HV.out 1).trans rfl)|(go_at_call 27;refine (CM.out _).mono ?_;rintro e wE ⟨rfl,hb⟩;have nHV_:=aM (blk_below (HV.out) hb);have nHP_:=aM (blk_below (HP.out) hb);have nHR_:=aM (blk_below (HR.out) hb);have nHO_:=aM (blk_below (HO.out) hb);have nHB_:=aM (HB.out.trans (hb.mono (HB.out.size)));have nHZ_:=aM (Nat.le_trans HZ.out (hb.size));clear hb HV HP HR HO HB HZ;have HV:=nHV_;have HP:=nHP_;have HR:=nHR_;have HO:=nHO_;have HB:=nHB_;have HZ:=nHZ_;clear nHV_ nHP_ nHR_ nHO_ nHB_ nHZ_;have G0:=(blk_cell HP.out 0).trans rfl;have G1:=(blk_cell HP.out 1).trans rfl;have G2:=(blk_cell HP.out 2).trans rfl;have G3:=(blk_cell HP.out 3).trans rfl;have G4:=(blk_cell HP.out 4).trans rfl;have G5:=(blk_cell HP.out 5).trans rfl;have E0:=blk_frozen HP.out 0;have E1:=blk_frozen HP.out 1;have E2:=blk_frozen HP.out 2;have E3:=blk_frozen HP.out 3;have E4:=blk_frozen HP.out 4;have E5:=blk_frozen HP.out 5))
       go_roundg gk
       case measure=>omega
       case rel =>
        exact ⟨⟨y0,y1,y2,y3,y4,y5⟩,wd ++ Utf8.encode lt,seen ++ [p],D.put kl (.lit (.int .i64 (wd.size:Int))),_,rfl,HN,⟨obj_far (obj_far (obj_far (obj_far (obj_far (obj_far HV.out (by first|(simp;done)|(simp;omega)) _) (by first|(simp;done)|(simp;omega)) _) (by first|(simp;done)|(simp;omega)) _) (by first|(simp;done)|(simp;omega)) _) (by first|(simp;done)|(simp;omega)) _) (by first|(simp;done)|(simp;omega)) _⟩,⟨blk_put (cs:=#[.string y0,.string y1,.string y2,.string y3,.string y4,.string p.p5]) (blk_put (cs:=#[.string y0,.string y1,.string y2,.string y3,.string p.p4,.string p.p5]) (blk_put (cs:=#[.string y0,.string y1,.string y2,.string p.p3,.string p.p4,.string p.p5]) (blk_put (cs:=#[.string y0,.string y1,.string p.p2,.string p.p3,.string p.p4,.string p.p5]) (blk_put (cs:=#[.string y0,.string p.p1,.string p.p2,.string p.p3,.string p.p4,.string p.p5]) (blk_put (cs:=#[.string p.p0,.string p.p1,.string p.p2,.string p.p3,.string p.p4,.string p.p5]) (HP.out) 0 _ rfl) 1 _ rfl) 2 _ rfl) 3 _ rfl) 4 _ rfl) 5 _ rfl⟩,⟨obj_far (obj_far (obj_far (obj_far (obj_far (obj_far HR.out (by first|(simp;done)|(simp;omega)) _) (by first|(simp;done)|(simp;omega)) _) (by first|(simp;done)|(simp;omega)) _) (by first|(simp;done)|(simp;omega)) _) (by first|(simp;done)|(simp;omega)) _) (by first|(simp;done)|(simp;omega)) _⟩,⟨obj_far (obj_far (obj_far (obj_far (obj_far (obj_far HO.out (by first|(simp;done)|(simp;omega)) _) (by first|(simp;done)|(simp;omega)) _) (by first|(simp;done)|(simp;omega)) _) (by first|(simp;done)|(simp;omega)) _) (by first|(simp;done)|(simp;omega)) _) (by first|(simp;done)|(simp;omega)) _⟩,⟨fun W hW=>by rw [List.length_append];exact HO2.out W _ hW⟩,⟨HT.out.1.put _ _,hsl ▸ (HT.out.2.snoc HT.out.1 hkl hi)⟩,⟨zS (zS (zS (zS (zS (zS (HB.out) (by omega)) (by omega)) (by omega)) (by omega)) (by omega)) (by omega)⟩,⟨by have:=HZ.out;simpa [World.setCell] using this⟩⟩
end
def impl_MiddleOf.f (k:Nat) (a0_0:ByteArray) (a0_1:ByteArray) (a1_0:ByteArray) (a1_1:ByteArray) (a2_0:ByteArray) (a2_1:ByteArray) (a3_0:ByteArray) (a3_1:ByteArray):Option (ByteArray × ByteArray × Int):=(impl_differentCode.f k a0_0 a0_1 a1_0 a1_1 a2_0 a2_1 a3_0 a3_1).bind fun t248=>(if t248 = 0 then ((impl_Sequence_middle.f k a0_0 a0_1 a1_0 a1_1 a2_0 a2_1 a3_0 a3_1).bind fun bt249=>(some (bt249.1,bt249.2.1,bt249.2.2))) else (some ((⟨#[]⟩:ByteArray),(⟨#[]⟩:ByteArray),t248)))
theorem impl_MiddleOf.mono:∀ a0 a1 a2 a3 a4 a5 a6 a7 k,LeO (impl_MiddleOf.f k a0 a1 a2 a3 a4 a5 a6 a7) (impl_MiddleOf.f (k + 1) a0 a1 a2 a3 a4 a5 a6 a7):=by
 intro a0 a1 a2 a3 a4 a5 a6 a7 k
 unfold impl_MiddleOf.f
 repeat' first
   | (with_reducible exact impl_Sequence_middle.mono _ _ _ _ _ _ _ _ _)
   | (with_reducible exact impl_differentCode.mono _ _ _ _ _ _ _ _ _)
   | (with_reducible exact LeO.refl _)
   | (with_reducible exact LeO.none _)
   | (with_reducible refine LeO.ite ?_ ?_)
   | (with_reducible refine LeO.bind ?_ (fun _=>?_))
   | exact impl_Sequence_middle.mono _ _ _ _ _ _ _ _ _
   | exact impl_differentCode.mono _ _ _ _ _ _ _ _ _
   | exact LeO.none _
   | refine LeO.ite ?_ ?_
   | refine LeO.bind ?_ (fun _=>?_)
set_option maxHeartbeats 8000000 in
set_option maxRecDepth 100000 in
theorem impl_MiddleOf.calls (k:Nat) (a0_0:ByteArray) (a0_1:ByteArray) (a1_0:ByteArray) (a1_1:ByteArray) (a2_0:ByteArray) (a2_1:ByteArray) (a3_0:ByteArray) (a3_1:ByteArray) (r1:ByteArray) (r2:ByteArray) (r3:Int) (w:World) (h:impl_MiddleOf.f k a0_0 a0_1 a1_0 a1_1 a2_0 a2_1 a3_0 a3_1 = some (r1,r2,r3)) :
  Calls Try.prog 10 #[.agg #[.string a0_0,.string a0_1],.agg #[.string a1_0,.string a1_1],.agg #[.string a2_0,.string a2_1],.agg #[.string a3_0,.string a3_1]] w fun e w'=>e = .returned (.tuple #[.agg #[.string r1,.string r2],.int .i64 r3]) ∧ Below w.heap.size w w':=by
 have hu27:=Try.underlying27
 have hu37:=Try.underlying37
 have HB:=aM (Below.refl w.heap.size w)
 have H:((impl_differentCode.f k a0_0 a0_1 a1_0 a1_1 a2_0 a2_1 a3_0 a3_1).bind fun t248=>(if t248 = 0 then ((impl_Sequence_middle.f k a0_0 a0_1 a1_0 a1_1 a2_0 a2_1 a3_0 a3_1).bind fun bt249=>(some (bt249.1,bt249.2.1,bt249.2.2))) else (some ((⟨#[]⟩:ByteArray),(⟨#[]⟩:ByteArray),t248)))) = some (r1,r2,r3):=h
 clear h
 replace H:=Option.bind_eq_some_iff.mp H
 obtain ⟨t248,A50,H⟩:=H
 replace H:(if t248 = 0 then ((impl_Sequence_middle.f k a0_0 a0_1 a1_0 a1_1 a2_0 a2_1 a3_0 a3_1).bind fun bt249=>(some (bt249.1,bt249.2.1,bt249.2.2))) else (some ((⟨#[]⟩:ByteArray),(⟨#[]⟩:ByteArray),t248))) = some (r1,r2,r3):=H;have A5:=aM A50
 clear A50
 by_cases c6:t248 = 0
 ·rw [if_pos c6] at H
  have c6b0:(t248 == 0) = true:=beq_iff_eq.mpr c6
  have c6b1:(t248 != 0) = false:=bne_eq_false_iff_eq.mpr c6
  clear c6
  replace H:=Option.bind_eq_some_iff.mp H
  obtain ⟨⟨t249,t250,t251⟩,A70,H⟩:=H
  replace H:(some (t249,t250,t251)) = some (r1,r2,r3):=H;have A7:=aM A70
  clear A70
  simp only [Option.some.injEq,Prod.mk.injEq] at H
  obtain ⟨rfl,rfl,rfl⟩:=H
  go_enter Try.func10,Try.ntmps10
  go_wp2_with (first|((with_reducible refine gate_dst (N:=4) rfl ?_);refine box_event ?hg (N:=4) ?hd (cs:=#[.string a0_0,.string a0_1]) (t:=27) ?hr ?_;(case hd=>rfl);(case hg=>rfl);(case hr=>first|(go_simp;done)|(go_simp;rfl));intro gb242 hg w8 hbox hb;have BK242:=aM (hbox);have GW242:=wl hg HB;have GE242:=wl hg HB;replace HB:=bs HB hb;clear hb hbox hg)|((with_reducible refine gate_dst (N:=5) rfl ?_);refine box_event ?hg (N:=5) ?hd (cs:=#[.string a1_0,.string a1_1]) (t:=27) ?hr ?_;(case hd=>rfl);(case hg=>rfl);(case hr=>first|(go_simp;done)|(go_simp;rfl));intro gb243 hg w9 hbox hb;have BK243:=aM (hbox);have GW243:=aM ((by rw [hg];exact (below_size (by first|exact bb HB|exact bg HB GE242)):w.heap.size ≤ gb243));have GE243:=aM ((by rw [hg];exact (below_size (by first|exact bb HB|exact bg HB GE242)):w.heap.size ≤ gb243));have NB242_243:=nl hg BK242;have NB243_242:=nr hg BK242;replace BK242:=kb BK242 hb;replace HB:=aM (below_step (by first|exact bb HB|exact bg HB GE242) hb);clear hb hbox hg)|((with_reducible refine gate_dst (N:=6) rfl ?_);refine box_event ?hg (N:=6) ?hd (cs:=#[.string a2_0,.string a2_1]) (t:=27) ?hr ?_;(case hd=>rfl);(case hg=>rfl);(case hr=>first|(go_simp;done)|(go_simp;rfl));intro gb244 hg w10 hbox hb;have BK244:=aM (hbox);have GW244:=aM ((by rw [hg];exact (below_size (by first|exact bb HB|exact bg HB GE242|exact bg HB GE243)):w.heap.size ≤ gb244));have GE244:=aM ((by rw [hg];exact (below_size (by first|exact bb HB|exact bg HB GE242|exact bg HB GE243)):w.heap.size ≤ gb244));have NB242_244:=nl hg BK242;have NB244_242:=nr hg BK242;have NB243_244:=nl hg BK243;have NB244_243:=nr hg BK243;replace BK242:=kb BK242 hb;replace BK243:=kb BK243 hb;replace HB:=aM (below_step (by first|exact bb HB|exact bg HB GE242|exact bg HB GE243) hb);clear hb hbox hg)|((with_reducible refine gate_dst (N:=7) rfl ?_);refine box_event ?hg (N:=7) ?hd (cs:=#[.string a3_0,.string a3_1]) (t:=27) ?hr ?_;(case hd=>rfl);(case hg=>rfl);(case hr=>first|(go_simp;done)|(go_simp;rfl));intro gb245 hg w11 hbox hb;have BK245:=aM (hbox);have GW245:=aM ((by rw [hg];exact (below_size (by first|exact bb HB|exact bg HB GE242|exact bg HB GE243|exact bg HB GE244)):w.heap.size ≤ gb245));have GE245:=aM ((by rw [hg];exact (below_size (by first|exact bb HB|exact bg HB GE242|exact bg HB GE243|exact bg HB GE244)):w.heap.size ≤ gb245));have NB242_245:=nl hg BK242;have NB245_242:=nr hg BK242;have NB243_245:=nl hg BK243;have NB245_243:=nr hg BK243;have NB244_245:=nl hg BK244;have NB245_244:=nr hg BK244;replace BK242:=kb BK242 hb;replace BK243:=kb BK243 hb;replace BK244:=kb BK244 hb;replace HB:=aM (below_step (by first|exact bb HB|exact bg HB GE242|exact bg HB GE243|exact bg HB GE244) hb);clear hb hbox hg)|((with_reducible refine gate_dst (N:=8) rfl ?_);refine box_event ?hg (N:=8) ?hd (cs:=#[.string ⟨#[]⟩,.string ⟨#[]⟩]) (t:=27) ?hr ?_;(case hd=>rfl);(case hg=>rfl);(case hr=>first|(go_simp;done)|(go_simp;rfl));intro gb246 hg w12 hbox hb;have BK246:=aM (hbox);have GW246:=aM ((by rw [hg];exact (below_size (by first|exact bb HB|exact bg HB GE242|exact bg HB GE243|exact bg HB GE244|exact bg HB GE245)):w.heap.size ≤ gb246));have GE246:=aM ((by rw [hg];exact (below_size (by first|exact bb HB|exact bg HB GE242|exact bg HB GE243|exact bg HB GE244|exact bg HB GE245)):w.heap.size ≤ gb246));have NB242_246:=nl hg BK242;have NB246_242:=nr hg BK242;have NB243_246:=nl hg BK243;have NB246_243:=nr hg BK243;have NB244_246:=nl hg BK244;have NB246_244:=nr hg BK244;have NB245_246:=nl hg BK245;have NB246_245:=nr hg BK245;replace BK242:=kb BK242 hb;replace BK243:=kb BK243 hb;replace BK244:=kb BK244 hb;replace BK245:=kb BK245 hb;replace HB:=aM (below_step (by first|exact bb HB|exact bg HB GE242|exact bg HB GE243|exact bg HB GE244|exact bg HB GE245) hb);clear hb hbox hg;have hnb13:=NB243_242.out;have hnc13:=NB242_243.out;have hnb14:=NB243_244.out;have hnc14:=NB244_243.out;have hnb15:=NB243_245.out;have hnc15:=NB245_243.out;have hnb16:=NB243_246.out;have hnc16:=NB246_243.out;have⟨a0,a1,b0,b1⟩:=q2f BK243;have hnb18:=NB244_242.out;have hnc18:=NB242_244.out;have hnb19:=NB244_245.out;have hnc19:=NB245_244.out;have hnb20:=NB244_246.out;have hnc20:=NB246_244.out;have⟨a0,a1,b0,b1⟩:=q2f BK244;have hnb22:=NB245_242.out;have hnc22:=NB242_245.out;have hnb23:=NB245_246.out;have hnc23:=NB246_245.out;have⟨a0,a1,b0,b1⟩:=q2f BK245)|((with_reducible refine gate_dst (N:=10) rfl ?_);refine box_event ?hg (N:=10) ?hd (cs:=#[.string ⟨#[]⟩,.string ⟨#[]⟩,.string ⟨#[]⟩,.string ⟨#[]⟩,.string ⟨#[]⟩,.string ⟨#[]⟩]) (t:=37) ?hr ?_;(case hd=>rfl);(case hg=>rfl);(case hr=>first|(go_simp;done)|(go_simp;rfl));intro gb247 hg w25 hbox hb;have BK247:=aM (hbox);have GW247:=aM ((by rw [hg];exact (below_size (by first|exact bb HB|exact bg HB GE242|exact bg HB GE243|exact bg HB GE244|exact bg HB GE245|exact bg HB GE246)):w.heap.size ≤ gb247));have GE247:=aM ((by rw [hg];exact (below_size (by first|exact bb HB|exact bg HB GE242|exact bg HB GE243|exact bg HB GE244|exact bg HB GE245|exact bg HB GE246)):w.heap.size ≤ gb247));have NB242_247:=nl hg BK242;have NB247_242:=nr hg BK242;have NB243_247:=nl hg BK243;have NB247_243:=nr hg BK243;have NB244_247:=nl hg BK244;have NB247_244:=nr hg BK244;have NB245_247:=nl hg BK245;have NB247_245:=nr hg BK245;have NB246_247:=nl hg BK246;have NB247_246:=nr hg BK246;replace BK242:=kb BK242 hb;replace BK243:=kb BK243 hb;replace BK244:=kb BK244 hb;replace BK245:=kb BK245 hb;replace BK246:=kb BK246 hb;replace HB:=aM (below_step (by first|exact bb HB|exact bg HB GE242|exact bg HB GE243|exact bg HB GE244|exact bg HB GE245|exact bg HB GE246) hb);clear hb hbox hg;have hnb26:=NB247_242.out;have hnc26:=NB242_247.out;have hnb27:=NB247_243.out;have hnc27:=NB243_247.out;have hnb28:=NB247_244.out;have hnc28:=NB244_247.out;have hnb29:=NB247_245.out;have hnc29:=NB245_247.out;have hnb30:=NB247_246.out;have hnc30:=NB246_247.out;have⟨a0,a1,a2,a3,a4,a5,b0,b1,b2,b3,b4,b5⟩:=q6f BK247;have hnb32:=NB242_246.out;have hnc32:=NB246_242.out;have⟨a0,a1,b0,b1⟩:=q2f BK242)|((with_reducible refine gate_callee (f:=14) rfl ?_);refine goesL_ (some 18) rfl rfl Try.func14 (by kernel_rfl) rfl #[.agg #[.string a0_0,.string a0_1],.agg #[.string a1_0,.string a1_1,.string a2_0,.string a2_1,.string a3_0,.string a3_1]] rfl (by (try simp only [sM,sC,sN]);first|done|rfl|(simp only [List.length_drop,List.length_take];rfl)) ?_;(with_reducible refine (impl_differentCode.calls k a0_0 a0_1 a1_0 a1_1 a2_0 a2_1 a3_0 a3_1 t248 _ A5.out).mono ?_);rintro e w34 ⟨rfl,hb⟩;refine ⟨_,rfl,?_⟩;replace BK242:=kf BK242 NB242_247 hb;replace BK243:=kf BK243 NB243_247 hb;replace BK244:=kf BK244 NB244_247 hb;replace BK245:=kf BK245 NB245_247 hb;replace BK246:=kf BK246 NB246_247 hb;replace BK247:=aM (blk_below (g:=gb247) (o:=.cells #[.string a1_0,.string a1_1,.string a2_0,.string a2_1,.string a3_0,.string a3_1] 37 (0,0)) (by (with_reducible repeat (first|apply yN|apply yD|apply yA));refine blk_put (cs:=#[.string a1_0,.string a1_1,.string a2_0,.string a2_1,.string a3_0,.string ⟨#[]⟩]) ?_ 5 _ rfl;(with_reducible repeat (first|apply yN|apply yD|apply yA));refine blk_put (cs:=#[.string a1_0,.string a1_1,.string a2_0,.string a2_1,.string ⟨#[]⟩,.string ⟨#[]⟩]) ?_ 4 _ rfl;(with_reducible repeat (first|apply yN|apply yD|apply yA));refine blk_put (cs:=#[.string a1_0,.string a1_1,.string a2_0,.string ⟨#[]⟩,.string ⟨#[]⟩,.string ⟨#[]⟩]) ?_ 3 _ rfl;(with_reducible repeat (first|apply yN|apply yD|apply yA));refine blk_put (cs:=#[.string a1_0,.string a1_1,.string ⟨#[]⟩,.string ⟨#[]⟩,.string ⟨#[]⟩,.string ⟨#[]⟩]) ?_ 2 _ rfl;(with_reducible repeat (first|apply yN|apply yD|apply yA));refine blk_put (cs:=#[.string a1_0,.string ⟨#[]⟩,.string ⟨#[]⟩,.string ⟨#[]⟩,.string ⟨#[]⟩,.string ⟨#[]⟩]) ?_ 1 _ rfl;(with_reducible repeat (first|apply yN|apply yD|apply yA));refine blk_put (cs:=#[.string ⟨#[]⟩,.string ⟨#[]⟩,.string ⟨#[]⟩,.string ⟨#[]⟩,.string ⟨#[]⟩,.string ⟨#[]⟩]) ?_ 0 _ rfl;(with_reducible repeat (first|apply yN|apply yD|apply yA));exact BK247.out) hb);replace HB:=aM (below_step (by first|exact bb HB|exact bg HB GE242|exact bg HB GE243|exact bg HB GE244|exact bg HB GE245|exact bg HB GE246|exact bg HB GE247) hb);(try clear hb);have⟨a0,a1,b0,b1⟩:=q2f BK242;have⟨a0,a1,a2,a3,a4,a5,b0,b1,b2,b3,b4,b5⟩:=q6f BK247)|((with_reducible refine gate_callee (f:=15) rfl ?_);refine goesL_ (some 25) rfl rfl Try.func15 (by kernel_rfl) rfl #[.agg #[.string a0_0,.string a0_1],.agg #[.string a1_0,.string a1_1,.string a2_0,.string a2_1,.string a3_0,.string a3_1]] rfl (by (try simp only [sM,sC,sN]);first|done|rfl|(simp only [List.length_drop,List.length_take];rfl)) ?_;(with_reducible refine (impl_Sequence_middle.calls k a0_0 a0_1 a1_0 a1_1 a2_0 a2_1 a3_0 a3_1 t249 t250 t251 _ A7.out).mono ?_);rintro e w37 ⟨rfl,hb⟩;refine ⟨_,rfl,?_⟩;replace BK242:=kb BK242 hb;replace BK243:=kb BK243 hb;replace BK244:=kb BK244 hb;replace BK245:=kb BK245 hb;replace BK246:=kb BK246 hb;replace BK247:=kb BK247 hb;replace HB:=aM (below_step (by first|exact bb HB|exact bg HB GE242|exact bg HB GE243|exact bg HB GE244|exact bg HB GE245|exact bg HB GE246|exact bg HB GE247) hb);(try clear hb);have⟨a0,a1,b0,b1⟩:=q2f BK246))
  refine bodyPost_ret (results_ct rfl _ _ gb246 27 #[.string t249,.string t250] (0,0) _ rfl (by (with_reducible repeat (first|apply yN|apply yD|apply yA));refine blk_put (cs:=#[.string t249,.string ⟨#[]⟩]) ?_ 1 _ rfl;(with_reducible repeat (first|apply yN|apply yD|apply yA));refine blk_put (cs:=#[.string ⟨#[]⟩,.string ⟨#[]⟩]) ?_ 0 _ rfl;(with_reducible repeat (first|apply yN|apply yD|apply yA));exact BK246.out) Try.underlying27 rfl (by kernel_rfl)) rfl ?_
  exact ⟨by first|rfl|(simp [errW_none,errW_some] <;> rfl)|(simp [*,errW_none,errW_some] <;> rfl),by first|exact bb HB|exact bg HB GE242|exact bg HB GE243|exact bg HB GE244|exact bg HB GE245|exact bg HB GE246|exact bg HB GE247⟩
 ·rw [if_neg c6] at H
  have c6b0:(t248 == 0) = false:=beq_eq_false_iff_ne.mpr c6
  have c6b1:(t248 != 0) = true:=bne_iff_ne.mpr c6
  simp only [Option.some.injEq,Prod.mk.injEq] at H
  obtain ⟨rfl,rfl,rfl⟩:=H
  go_enter Try.func10,Try.ntmps10
  go_wp2_with (first|((with_reducible refine gate_dst (N:=4) rfl ?_);refine box_event ?hg (N:=4) ?hd (cs:=#[.string a0_0,.string a0_1]) (t:=27) ?hr ?_;(case hd=>rfl);(case hg=>rfl);(case hr=>first|(go_simp;done)|(go_simp;rfl));intro gb242 hg w39 hbox hb;have BK242:=aM (hbox);have GW242:=wl hg HB;have GE242:=wl hg HB;replace HB:=bs HB hb;clear hb hbox hg)|((with_reducible refine gate_dst (N:=5) rfl ?_);refine box_event ?hg (N:=5) ?hd (cs:=#[.string a1_0,.string a1_1]) (t:=27) ?hr ?_;(case hd=>rfl);(case hg=>rfl);(case hr=>first|(go_simp;done)|(go_simp;rfl));intro gb243 hg w40 hbox hb;have BK243:=aM (hbox);have GW243:=aM ((by rw [hg];exact (below_size (by first|exact bb HB|exact bg HB GE242)):w.heap.size ≤ gb243));have GE243:=aM ((by rw [hg];exact (below_size (by first|exact bb HB|exact bg HB GE242)):w.heap.size ≤ gb243));have NB242_243:=nl hg BK242;have NB243_242:=nr hg BK242;replace BK242:=kb BK242 hb;replace HB:=aM (below_step (by first|exact bb HB|exact bg HB GE242) hb);clear hb hbox hg)|((with_reducible refine gate_dst (N:=6) rfl ?_);refine box_event ?hg (N:=6) ?hd (cs:=#[.string a2_0,.string a2_1]) (t:=27) ?hr ?_;(case hd=>rfl);(case hg=>rfl);(case hr=>first|(go_simp;done)|(go_simp;rfl));intro gb244 hg w41 hbox hb;have BK244:=aM (hbox);have GW244:=aM ((by rw [hg];exact (below_size (by first|exact bb HB|exact bg HB GE242|exact bg HB GE243)):w.heap.size ≤ gb244));have GE244:=aM ((by rw [hg];exact (below_size (by first|exact bb HB|exact bg HB GE242|exact bg HB GE243)):w.heap.size ≤ gb244));have NB242_244:=nl hg BK242;have NB244_242:=nr hg BK242;have NB243_244:=nl hg BK243;have NB244_243:=nr hg BK243;replace BK242:=kb BK242 hb;replace BK243:=kb BK243 hb;replace HB:=aM (below_step (by first|exact bb HB|exact bg HB GE242|exact bg HB GE243) hb);clear hb hbox hg)|((with_reducible refine gate_dst (N:=7) rfl ?_);refine box_event ?hg (N:=7) ?hd (cs:=#[.string a3_0,.string a3_1]) (t:=27) ?hr ?_;(case hd=>rfl);(case hg=>rfl);(case hr=>first|(go_simp;done)|(go_simp;rfl));intro gb245 hg w42 hbox hb;have BK245:=aM (hbox);have GW245:=aM ((by rw [hg];exact (below_size (by first|exact bb HB|exact bg HB GE242|exact bg HB GE243|exact bg HB GE244)):w.heap.size ≤ gb245));have GE245:=aM ((by rw [hg];exact (below_size (by first|exact bb HB|exact bg HB GE242|exact bg HB GE243|exact bg HB GE244)):w.heap.size ≤ gb245));have NB242_245:=nl hg BK242;have NB245_242:=nr hg BK242;have NB243_245:=nl hg BK243;have NB245_243:=nr hg BK243;have NB244_245:=nl hg BK244;have NB245_244:=nr hg BK244;replace BK242:=kb BK242 hb;replace BK243:=kb BK243 hb;replace BK244:=kb BK244 hb;replace HB:=aM (below_step (by first|exact bb HB|exact bg HB GE242|exact bg HB GE243|exact bg HB GE244) hb);clear hb hbox hg)|((with_reducible refine gate_dst (N:=8) rfl ?_);refine box_event ?hg (N:=8) ?hd (cs:=#[.string ⟨#[]⟩,.string ⟨#[]⟩]) (t:=27) ?hr ?_;(case hd=>rfl);(case hg=>rfl);(case hr=>first|(go_simp;done)|(go_simp;rfl));intro gb246 hg w43 hbox hb;have BK246:=aM (hbox);have GW246:=aM ((by rw [hg];exact (below_size (by first|exact bb HB|exact bg HB GE242|exact bg HB GE243|exact bg HB GE244|exact bg HB GE245)):w.heap.size ≤ gb246));have GE246:=aM ((by rw [hg];exact (below_size (by first|exact bb HB|exact bg HB GE242|exact bg HB GE243|exact bg HB GE244|exact bg HB GE245)):w.heap.size ≤ gb246));have NB242_246:=nl hg BK242;have NB246_242:=nr hg BK242;have NB243_246:=nl hg BK243;have NB246_243:=nr hg BK243;have NB244_246:=nl hg BK244;have NB246_244:=nr hg BK244;have NB245_246:=nl hg BK245;have NB246_245:=nr hg BK245;replace BK242:=kb BK242 hb;replace BK243:=kb BK243 hb;replace BK244:=kb BK244 hb;replace BK245:=kb BK245 hb;replace HB:=aM (below_step (by first|exact bb HB|exact bg HB GE242|exact bg HB GE243|exact bg HB GE244|exact bg HB GE245) hb);clear hb hbox hg;have hnb44:=NB243_242.out;have hnc44:=NB242_243.out;have hnb45:=NB243_244.out;have hnc45:=NB244_243.out;have hnb46:=NB243_245.out;have hnc46:=NB245_243.out;have hnb47:=NB243_246.out;have hnc47:=NB246_243.out;have⟨a0,a1,b0,b1⟩:=q2f BK243;have hnb49:=NB244_242.out;have hnc49:=NB242_244.out;have hnb50:=NB244_245.out;have hnc50:=NB245_244.out;have hnb51:=NB244_246.out;have hnc51:=NB246_244.out;have⟨a0,a1,b0,b1⟩:=q2f BK244;have hnb53:=NB245_242.out;have hnc53:=NB242_245.out;have hnb54:=NB245_246.out;have hnc54:=NB246_245.out;have⟨a0,a1,b0,b1⟩:=q2f BK245)|((with_reducible refine gate_dst (N:=10) rfl ?_);refine box_event ?hg (N:=10) ?hd (cs:=#[.string ⟨#[]⟩,.string ⟨#[]⟩,.string ⟨#[]⟩,.string ⟨#[]⟩,.string ⟨#[]⟩,.string ⟨#[]⟩]) (t:=37) ?hr ?_;(case hd=>rfl);(case hg=>rfl);(case hr=>first|(go_simp;done)|(go_simp;rfl));intro gb247 hg w56 hbox hb;have BK247:=aM (hbox);have GW247:=aM ((by rw [hg];exact (below_size (by first|exact bb HB|exact bg HB GE242|exact bg HB GE243|exact bg HB GE244|exact bg HB GE245|exact bg HB GE246)):w.heap.size ≤ gb247));have GE247:=aM ((by rw [hg];exact (below_size (by first|exact bb HB|exact bg HB GE242|exact bg HB GE243|exact bg HB GE244|exact bg HB GE245|exact bg HB GE246)):w.heap.size ≤ gb247));have NB242_247:=nl hg BK242;have NB247_242:=nr hg BK242;have NB243_247:=nl hg BK243;have NB247_243:=nr hg BK243;have NB244_247:=nl hg BK244;have NB247_244:=nr hg BK244;have NB245_247:=nl hg BK245;have NB247_245:=nr hg BK245;have NB246_247:=nl hg BK246;have NB247_246:=nr hg BK246;replace BK242:=kb BK242 hb;replace BK243:=kb BK243 hb;replace BK244:=kb BK244 hb;replace BK245:=kb BK245 hb;replace BK246:=kb BK246 hb;replace HB:=aM (below_step (by first|exact bb HB|exact bg HB GE242|exact bg HB GE243|exact bg HB GE244|exact bg HB GE245|exact bg HB GE246) hb);clear hb hbox hg;have hnb57:=NB247_242.out;have hnc57:=NB242_247.out;have hnb58:=NB247_243.out;have hnc58:=NB243_247.out;have hnb59:=NB247_244.out;have hnc59:=NB244_247.out;have hnb60:=NB247_245.out;have hnc60:=NB245_247.out;have hnb61:=NB247_246.out;have hnc61:=NB246_247.out;have⟨a0,a1,a2,a3,a4,a5,b0,b1,b2,b3,b4,b5⟩:=q6f BK247;have hnb63:=NB242_246.out;have hnc63:=NB246_242.out;have⟨a0,a1,b0,b1⟩:=q2f BK242)|((with_reducible refine gate_callee (f:=14) rfl ?_);refine goesL_ (some 18) rfl rfl Try.func14 (by kernel_rfl) rfl #[.agg #[.string a0_0,.string a0_1],.agg #[.string a1_0,.string a1_1,.string a2_0,.string a2_1,.string a3_0,.string a3_1]] rfl (by (try simp only [sM,sC,sN]);first|done|rfl|(simp only [List.length_drop,List.length_take];rfl)) ?_;(with_reducible refine (impl_differentCode.calls k a0_0 a0_1 a1_0 a1_1 a2_0 a2_1 a3_0 a3_1 t248 _ A5.out).mono ?_);rintro e w65 ⟨rfl,hb⟩;refine ⟨_,rfl,?_⟩;replace BK242:=kf BK242 NB242_247 hb;replace BK243:=kf BK243 NB243_247 hb;replace BK244:=kf BK244 NB244_247 hb;replace BK245:=kf BK245 NB245_247 hb;replace BK246:=kf BK246 NB246_247 hb;replace BK247:=aM (blk_below (g:=gb247) (o:=.cells #[.string a1_0,.string a1_1,.string a2_0,.string a2_1,.string a3_0,.string a3_1] 37 (0,0)) (by (with_reducible repeat (first|apply yN|apply yD|apply yA));refine blk_put (cs:=#[.string a1_0,.string a1_1,.string a2_0,.string a2_1,.string a3_0,.string ⟨#[]⟩]) ?_ 5 _ rfl;(with_reducible repeat (first|apply yN|apply yD|apply yA));refine blk_put (cs:=#[.string a1_0,.string a1_1,.string a2_0,.string a2_1,.string ⟨#[]⟩,.string ⟨#[]⟩]) ?_ 4 _ rfl;(with_reducible repeat (first|apply yN|apply yD|apply yA));refine blk_put (cs:=#[.string a1_0,.string a1_1,.string a2_0,.string ⟨#[]⟩,.string ⟨#[]⟩,.string ⟨#[]⟩]) ?_ 3 _ rfl;(with_reducible repeat (first|apply yN|apply yD|apply yA));refine blk_put (cs:=#[.string a1_0,.string a1_1,.string ⟨#[]⟩,.string ⟨#[]⟩,.string ⟨#[]⟩,.string ⟨#[]⟩]) ?_ 2 _ rfl;(with_reducible repeat (first|apply yN|apply yD|apply yA));refine blk_put (cs:=#[.string a1_0,.string ⟨#[]⟩,.string ⟨#[]⟩,.string ⟨#[]⟩,.string ⟨#[]⟩,.string ⟨#[]⟩]) ?_ 1 _ rfl;(with_reducible repeat (first|apply yN|apply yD|apply yA));refine blk_put (cs:=#[.string ⟨#[]⟩,.string ⟨#[]⟩,.string ⟨#[]⟩,.string ⟨#[]⟩,.string ⟨#[]⟩,.string ⟨#[]⟩]) ?_ 0 _ rfl;(with_reducible repeat (first|apply yN|apply yD|apply yA));exact BK247.out) hb);replace HB:=aM (below_step (by first|exact bb HB|exact bg HB GE242|exact bg HB GE243|exact bg HB GE244|exact bg HB GE245|exact bg HB GE246|exact bg HB GE247) hb);(try clear hb);have⟨a0,a1,b0,b1⟩:=q2f BK246))
  refine bodyPost_ret (results_ct rfl _ _ gb246 27 #[.string ⟨#[]⟩,.string ⟨#[]⟩] (0,0) _ rfl (by (with_reducible repeat (first|apply yN|apply yD|apply yA));refine blk_put (cs:=#[.string ⟨#[]⟩,.string ⟨#[]⟩]) ?_ 1 _ rfl;(with_reducible repeat (first|apply yN|apply yD|apply yA));refine blk_put (cs:=#[.string ⟨#[]⟩,.string ⟨#[]⟩]) ?_ 0 _ rfl;(with_reducible repeat (first|apply yN|apply yD|apply yA));exact BK246.out) Try.underlying27 rfl (by kernel_rfl)) rfl ?_
  exact ⟨by first|rfl|(simp [errW_none,errW_some] <;> rfl)|(simp [*,errW_none,errW_some] <;> rfl),by first|exact bb HB|exact bg HB GE242|exact bg HB GE243|exact bg HB GE244|exact bg HB GE245|exact bg HB GE246|exact bg HB GE247⟩
mutual
def spec_l01Canonical.j2:Nat → ByteArray → ByteArray → Option (ByteArray × ByteArray)
 | 0,_,_=>none
 | k + 1,x0,x1=>spec_l01Canonical.l2 k x0 x1
def spec_l01Canonical.l2:Nat → ByteArray → ByteArray → Option (ByteArray × ByteArray)
 | 0,_,_=>none
 | k + 1,x0,x1=>if (x0.size:Int) > 0 then (if 0 ≤ (wrap64 ((x0.size:Int) - 1)) then (if (wrap64 ((x0.size:Int) - 1)) < (x0.size:Int) then (if 0 ≤ (wrap64 ((x1.size:Int) - 1)) then (if (wrap64 ((x1.size:Int) - 1)) < (x1.size:Int) then (if (bt x0 (wrap64 ((x0.size:Int) - 1))) = (bt x1 (wrap64 ((x1.size:Int) - 1))) then (if (wrap64 ((x1.size:Int) - 1)) ≤ (x1.size:Int) then (if (x1.extract ((wrap64 ((x1.size:Int) - 1)):Int).toNat x1.size).size + (x1.extract 0 ((wrap64 ((x1.size:Int) - 1)):Int).toNat).size ≤ 9223372036854775807 then (if (wrap64 ((x0.size:Int) - 1)) ≤ (x0.size:Int) then (spec_l01Canonical.l2 k (x0.extract 0 ((wrap64 ((x0.size:Int) - 1)):Int).toNat) ((x1.extract ((wrap64 ((x1.size:Int) - 1)):Int).toNat x1.size) ++ (x1.extract 0 ((wrap64 ((x1.size:Int) - 1)):Int).toNat))) else (none)) else (none)) else (none)) else (some (x0,x1))) else (none)) else (none)) else (none)) else (none)) else (some (x0,x1))
def spec_l01Canonical.l0:Nat → ByteArray → ByteArray → Int → Int → Option (ByteArray × ByteArray)
 | 0,_,_,_,_=>none
 | k + 1,x0,x1,x5,x6=>if x6 ≤ x5 then (if x6 = 0 then (none) else (if (Int.tmod x5 x6) = 0 then (spec_l01Canonical.l1 k x0 x1 x5 x6 true x6) else (spec_l01Canonical.l0 k x0 x1 x5 (wrap64 (x6 + 1))))) else (spec_l01Canonical.j2 k x0 x1)
def spec_l01Canonical.l1:Nat → ByteArray → ByteArray → Int → Int → Bool → Int → Option (ByteArray × ByteArray)
 | 0,_,_,_,_,_,_=>none
 | k + 1,x0,x1,x5,x6,x7,x8=>if x8 < x5 then (if x7 = true then (if 0 ≤ x8 then (if x8 < (x1.size:Int) then (if 0 ≤ (wrap64 (x8 - x6)) then (if (wrap64 (x8 - x6)) < (x1.size:Int) then (spec_l01Canonical.l1 k x0 x1 x5 x6 ((bt x1 x8) == (bt x1 (wrap64 (x8 - x6)))) (wrap64 (x8 + 1))) else (none)) else (none)) else (none)) else (none)) else (spec_l01Canonical.l1 k x0 x1 x5 x6 false (wrap64 (x8 + 1)))) else (if x7 = true then (if 0 ≤ x6 then (if x6 ≤ (x1.size:Int) then (spec_l01Canonical.j2 k x0 (x1.extract 0 (x6:Int).toNat)) else (none)) else (none)) else (spec_l01Canonical.l0 k x0 x1 x5 (wrap64 (x6 + 1))))
end
def spec_l01Canonical.f (k:Nat) (a0:ByteArray) (a1:ByteArray):Option (ByteArray × ByteArray):=spec_l01Canonical.l0 k a0 a1 (a1.size:Int) 1
theorem spec_l01Canonical.mono_l:∀ k,(∀ y0 y1,LeO (spec_l01Canonical.j2 k y0 y1) (spec_l01Canonical.j2 (k + 1) y0 y1)) ∧ (∀ y0 y1,LeO (spec_l01Canonical.l2 k y0 y1) (spec_l01Canonical.l2 (k + 1) y0 y1)) ∧ (∀ y0 y1 y2 y3,LeO (spec_l01Canonical.l0 k y0 y1 y2 y3) (spec_l01Canonical.l0 (k + 1) y0 y1 y2 y3)) ∧ (∀ y0 y1 y2 y3 y4 y5,LeO (spec_l01Canonical.l1 k y0 y1 y2 y3 y4 y5) (spec_l01Canonical.l1 (k + 1) y0 y1 y2 y3 y4 y5))
 | 0=>⟨fun _ _ r h=>by simp [spec_l01Canonical.j2] at h,fun _ _ r h=>by simp [spec_l01Canonical.l2] at h,fun _ _ _ _ r h=>by simp [spec_l01Canonical.l0] at h,fun _ _ _ _ _ _ r h=>by simp [spec_l01Canonical.l1] at h⟩
 | k + 1=>by
  obtain ⟨ih0,ih1,ih2,ih3⟩:=spec_l01Canonical.mono_l k
  refine ⟨?_,?_,?_,?_⟩
  ·intro y0 y1
   unfold spec_l01Canonical.j2
   repeat' first
   | (with_reducible exact ih0 _ _)
   | (with_reducible exact ih1 _ _)
   | (with_reducible exact ih2 _ _ _ _)
   | (with_reducible exact ih3 _ _ _ _ _ _)
   | (with_reducible exact LeO.refl _)
   | (with_reducible exact LeO.none _)
   | (with_reducible refine LeO.ite ?_ ?_)
   | (with_reducible refine LeO.bind ?_ (fun _=>?_))
   | exact ih0 _ _
   | exact ih1 _ _
   | exact ih2 _ _ _ _
   | exact ih3 _ _ _ _ _ _
   | exact LeO.none _
   | refine LeO.ite ?_ ?_
   | refine LeO.bind ?_ (fun _=>?_)
  ·intro y0 y1
   unfold spec_l01Canonical.l2
   repeat' first
   | (with_reducible exact ih0 _ _)
   | (with_reducible exact ih1 _ _)
   | (with_reducible exact ih2 _ _ _ _)
   | (with_reducible exact ih3 _ _ _ _ _ _)
   | (with_reducible exact LeO.refl _)
   | (with_reducible exact LeO.none _)
   | (with_reducible refine LeO.ite ?_ ?_)
   | (with_reducible refine LeO.bind ?_ (fun _=>?_))
   | exact ih0 _ _
   | exact ih1 _ _
   | exact ih2 _ _ _ _
   | exact ih3 _ _ _ _ _ _
   | exact LeO.none _
   | refine LeO.ite ?_ ?_
   | refine LeO.bind ?_ (fun _=>?_)
  ·intro y0 y1 y2 y3
   unfold spec_l01Canonical.l0
   repeat' first
   | (with_reducible exact ih0 _ _)
   | (with_reducible exact ih1 _ _)
   | (with_reducible exact ih2 _ _ _ _)
   | (with_reducible exact ih3 _ _ _ _ _ _)
   | (with_reducible exact LeO.refl _)
   | (with_reducible exact LeO.none _)
   | (with_reducible refine LeO.ite ?_ ?_)
   | (with_reducible refine LeO.bind ?_ (fun _=>?_))
   | exact ih0 _ _
   | exact ih1 _ _
   | exact ih2 _ _ _ _
   | exact ih3 _ _ _ _ _ _
   | exact LeO.none _
   | refine LeO.ite ?_ ?_
   | refine LeO.bind ?_ (fun _=>?_)
  ·intro y0 y1 y2 y3 y4 y5
   unfold spec_l01Canonical.l1
   repeat' first
   | (with_reducible exact ih0 _ _)
   | (with_reducible exact ih1 _ _)
   | (with_reducible exact ih2 _ _ _ _)
   | (with_reducible exact ih3 _ _ _ _ _ _)
   | (with_reducible exact LeO.refl _)
   | (with_reducible exact LeO.none _)
   | (with_reducible refine LeO.ite ?_ ?_)
   | (with_reducible refine LeO.bind ?_ (fun _=>?_))
   | exact ih0 _ _
   | exact ih1 _ _
   | exact ih2 _ _ _ _
   | exact ih3 _ _ _ _ _ _
   | exact LeO.none _
   | refine LeO.ite ?_ ?_
   | refine LeO.bind ?_ (fun _=>?_)
theorem spec_l01Canonical.mono:∀ a0 a1 k,LeO (spec_l01Canonical.f k a0 a1) (spec_l01Canonical.f (k + 1) a0 a1):=by
 intro a0 a1 k
 obtain ⟨ih0,ih1,ih2,ih3⟩:=spec_l01Canonical.mono_l k
 unfold spec_l01Canonical.f
 repeat' first
   | (with_reducible exact ih0 _ _)
   | (with_reducible exact ih1 _ _)
   | (with_reducible exact ih2 _ _ _ _)
   | (with_reducible exact ih3 _ _ _ _ _ _)
   | (with_reducible exact LeO.refl _)
   | (with_reducible exact LeO.none _)
   | (with_reducible refine LeO.ite ?_ ?_)
   | (with_reducible refine LeO.bind ?_ (fun _=>?_))
   | exact ih0 _ _
   | exact ih1 _ _
   | exact ih2 _ _ _ _
   | exact ih3 _ _ _ _ _ _
   | exact LeO.none _
   | refine LeO.ite ?_ ?_
   | refine LeO.bind ?_ (fun _=>?_)
set_option maxHeartbeats 8000000 in
set_option maxRecDepth 100000 in
theorem spec_l01Canonical.calls (k:Nat) (a0:ByteArray) (a1:ByteArray) (r1:ByteArray) (r2:ByteArray) (w:World) (h:spec_l01Canonical.f k a0 a1 = some (r1,r2)) :
  Calls Try.prog 31 #[.string a0,.string a1] w fun e w'=>e = .returned (.agg #[.string r1,.string r2]) ∧ Below w.heap.size w w':=by
 have hu27:=Try.underlying27
 have HB:=aM (Below.refl w.heap.size w)
 have H:(spec_l01Canonical.l0 k a0 a1 (a1.size:Int) 1) = some (r1,r2):=h
 clear h
 have HC3:=aM H
 clear H
 go_enter Try.func31,Try.ntmps31
 go_upto_block 0 with (first|((with_reducible refine gate_dst (N:=4) rfl ?_);(try (refine gate_guard (by rfl) ?_;dsimp only));refine box_event ?hg (N:=4) ?hd (cs:=#[.string ⟨#[]⟩,.string ⟨#[]⟩]) (t:=27) ?hr ?_;(case hd=>rfl);(case hg=>rfl);(case hr=>first|(go_simp;done)|(go_simp;rfl));intro gb102 hg w4 hbox hb;have BK102:=aM (hbox);have GW102:=wl hg HB;have GE102:=wl hg HB;replace HB:=bs HB hb;clear hb hbox hg))
 repeat (go_quiet (first|((with_reducible refine gate_dst (N:=4) rfl ?_);(try (refine gate_guard (by rfl) ?_;dsimp only));refine box_event ?hg (N:=4) ?hd (cs:=#[.string ⟨#[]⟩,.string ⟨#[]⟩]) (t:=27) ?hr ?_;(case hd=>rfl);(case hg=>rfl);(case hr=>first|(go_simp;done)|(go_simp;rfl));intro gb102 hg w4 hbox hb;have BK102:=aM (hbox);have GW102:=wl hg HB;have GE102:=wl hg HB;replace HB:=bs HB hb;clear hb hbox hg));go_upto_block 0 with (first|((with_reducible refine gate_dst (N:=4) rfl ?_);(try (refine gate_guard (by rfl) ?_;dsimp only));refine box_event ?hg (N:=4) ?hd (cs:=#[.string ⟨#[]⟩,.string ⟨#[]⟩]) (t:=27) ?hr ?_;(case hd=>rfl);(case hg=>rfl);(case hr=>first|(go_simp;done)|(go_simp;rfl));intro gb102 hg w4 hbox hb;have BK102:=aM (hbox);have GW102:=wl hg HB;have GE102:=wl hg HB;replace HB:=bs HB hb;clear hb hbox hg)))
 (try simp only [Act.put,sI,sZ,sS])
 go_cut [1] (fun v1 wc=>∃ (kq:Nat) (x1_2:ByteArray),v1 = .string x1_2 ∧ Aside0 (spec_l01Canonical.j2 kq a0 x1_2 = some (r1,r2)) ∧ Aside0 (kq ≤ k) ∧ Aside0 (wc.heap[gb102]? = some (.cells #[.string ⟨#[]⟩,.string ⟨#[]⟩] 27 (0,0))) ∧ Aside0 (Below w.heap.size w wc))
 case first =>
  have H:=HC3.out
  clear HC3
  have H':=aM H
  clear H
  go_wp2
  repeat (go_quiet (fail);try go_wp2)
  go_loopg [1,6] k (fun kq v1 v6 w'=>∃ (x1_1:ByteArray) (x6_1:Int),v1 = .string x1_1 ∧ v6 = .int .i64 x6_1 ∧ Aside0 (spec_l01Canonical.l0 kq a0 x1_1 (a1.size:Int) x6_1 = some (r1,r2)) ∧ Aside0 (kq ≤ k) ∧ Aside0 (w'.heap[gb102]? = some (.cells #[.string ⟨#[]⟩,.string ⟨#[]⟩] 27 (0,0))) ∧ Aside0 (Below w.heap.size w w'))
  case atStart=>exact ⟨(a1),(1),(by first|rfl|(simp;done)|(simp [*];done)),(by first|rfl|(simp;done)|(simp [*];done)),H',⟨Nat.le_refl _⟩,⟨bk BK102⟩,⟨bb HB⟩⟩
  case round =>
   clear H'
   try clear p2
   try clear c3
   obtain ⟨x1_1,x6_1,rfl,rfl,HA,HK1,BK102,HB⟩:=hrel
   cases gk with
   | zero=>exact absurd HA.out (by simp [spec_l01Canonical.l0])
   | succ k1 =>
    have H:=HA.out
    clear HA
    simp only [spec_l01Canonical.l0] at H
    by_cases c5:x6_1 ≤ (a1.size:Int)
    ·rw [if_pos c5] at H
     have c5b0:decide (x6_1 ≤ (a1.size:Int)) = true:=decide_eq_true c5
     clear c5
     (first|rw [c5b0]|(simp only [i64_w,i32_w];rw [c5b0])|skip)
     by_cases c6:x6_1 = 0
     ·rw [if_pos c6] at H
      exact absurd H (by simp)
     ·rw [if_neg c6] at H
      have c6b0:(x6_1 == 0) = false:=beq_eq_false_iff_ne.mpr c6
      have c6b1:(x6_1 != 0) = true:=bne_iff_ne.mpr c6
      have c7t:=Int.tmod_eq_emod_of_nonneg (a:=(a1.size:Int)) (b:=x6_1) (by omega)
      by_cases c7:(Int.tmod (a1.size:Int) x6_1) = 0
      ·rw [if_pos c7] at H
       have c7b0:((Int.tmod (a1.size:Int) x6_1) == 0) = true:=beq_iff_eq.mpr c7
       have c7b1:((Int.tmod (a1.size:Int) x6_1) != 0) = false:=bne_eq_false_iff_eq.mpr c7
       try (have c7u:=c7b0;rw [c7t] at c7u;have c7v:=c7b1;rw [c7t] at c7v)
       clear c7
       have H':=aM H
       clear H
       go_wp2
       repeat (go_quiet (fail);try go_wp2)
       go_loopg [7,8] k1 (fun kq v7 v8 w'=>∃ (x7_2:Bool) (x8_2:Int),v7 = .bool x7_2 ∧ v8 = .int .i64 x8_2 ∧ Aside0 (spec_l01Canonical.l1 kq a0 x1_1 (a1.size:Int) x6_1 x7_2 x8_2 = some (r1,r2)) ∧ Aside0 (kq ≤ k1) ∧ Aside0 (w'.heap[gb102]? = some (.cells #[.string ⟨#[]⟩,.string ⟨#[]⟩] 27 (0,0))) ∧ Aside0 (Below w.heap.size w w'))
       case atStart=>exact ⟨(true),(x6_1),(by first|rfl|(simp;done)|(simp [*];done)),(by first|rfl|(simp;done)|(simp [*];done)),H',⟨Nat.le_refl _⟩,⟨bk BK102⟩,⟨bb HB⟩⟩
       case round =>
        clear H'
        try clear p2
        try clear c3
        try clear c5
        try clear c5b0
        try clear c6
        try clear c6b0
        try clear c6b1
        try clear c7
        try clear c7b0
        try clear c7b1
        try clear p2
        obtain ⟨x7_2,x8_2,rfl,rfl,HA,HK2,BK102,HB⟩:=hrel
        cases gk with
        | zero=>exact absurd HA.out (by simp [spec_l01Canonical.l1])
        | succ k2 =>
         have H:=HA.out
         clear HA
         simp only [spec_l01Canonical.l1] at H
         by_cases c8:x8_2 < (a1.size:Int)
         ·rw [if_pos c8] at H
          have c8b0:decide (x8_2 < (a1.size:Int)) = true:=decide_eq_true c8
          clear c8
          by_cases c9:x7_2 = true
          ·subst c9
           have H1:(if 0 ≤ x8_2 then (if x8_2 < (x1_1.size:Int) then (if 0 ≤ (wrap64 (x8_2 - x6_1)) then (if (wrap64 (x8_2 - x6_1)) < (x1_1.size:Int) then (spec_l01Canonical.l1 k2 a0 x1_1 (a1.size:Int) x6_1 ((bt x1_1 x8_2) == (bt x1_1 (wrap64 (x8_2 - x6_1)))) (wrap64 (x8_2 + 1))) else (none)) else (none)) else (none)) else (none)) = some (r1,r2):=by rw [if_pos rfl] at H;exact H
           clear H
           have H:=H1
           clear H1
           by_cases c10:0 ≤ x8_2
           ·rw [if_pos c10] at H
            have c10b0:decide (0 ≤ x8_2) = true:=decide_eq_true c10
            clear c10
            by_cases c11:x8_2 < (x1_1.size:Int)
            ·rw [if_pos c11] at H
             have c11b0:decide (x8_2 < (x1_1.size:Int)) = true:=decide_eq_true c11
             clear c11
             obtain ⟨ji13,hji13⟩:∃ j_:Int,(wrap64 (x8_2 - x6_1)) = j_:=⟨_,rfl⟩
             replace H:(if 0 ≤ (ji13) then (if (ji13) < (x1_1.size:Int) then (spec_l01Canonical.l1 k2 a0 x1_1 (a1.size:Int) x6_1 ((bt x1_1 x8_2) == (bt x1_1 (ji13))) (wrap64 (x8_2 + 1))) else (none)) else (none)) = some (r1,r2):=by first|(rw [hji13] at H;exact H)|(simp only [hji13] at H ⊢;exact H)
             have hji13w:(IntKind.i64.wrap (x8_2 - x6_1)) = ji13:=(i64_w _).trans hji13
             by_cases c14:0 ≤ (ji13)
             ·rw [if_pos c14] at H
              have c14b0:decide (0 ≤ (ji13)) = true:=decide_eq_true c14
              clear c14
              by_cases c15:(ji13) < (x1_1.size:Int)
              ·rw [if_pos c15] at H
               have c15b0:decide ((ji13) < (x1_1.size:Int)) = true:=decide_eq_true c15
               clear c15
               have H':=aM H
               clear H
               have p12:0 ≤ (x8_2:Int):=of_decide_eq_true (by first|(with_reducible assumption)|assumption)
               have q12:x8_2 < (x1_1.size:Int):=of_decide_eq_true (by first|(with_reducible assumption)|assumption)
               have hx12:=bt_at x1_1 x8_2
               replace p12:=eq_true p12;replace q12:=eq_true q12
               have p16:0 ≤ ((ji13):Int):=of_decide_eq_true (by first|(with_reducible assumption)|assumption)
               have q16:(ji13) < (x1_1.size:Int):=of_decide_eq_true (by first|(with_reducible assumption)|assumption)
               have hx16:=bt_at x1_1 (ji13)
               replace p16:=eq_true p16;replace q16:=eq_true q16
               go_wp2
               repeat (go_quiet (fail);try go_wp2)
               go_roundg k2
               case measure=>have:=HK1.out;have:=HK2.out;omega
               case rel=>exact ⟨(((bt x1_1 x8_2) == (bt x1_1 (ji13)))),(wrap64 (x8_2 + 1)),(by first|rfl|(simp;done)|(simp only [← hji13] <;> (first|rfl|simp))|(simp [*];done)),(by first|rfl|(simp;done)|(simp [*];done)),H',⟨by have:=HK1.out;have:=HK2.out;omega⟩,⟨bk BK102⟩,⟨bb HB⟩⟩
              ·rw [if_neg c15] at H
               exact absurd H (by simp)
             ·rw [if_neg c14] at H
              exact absurd H (by simp)
            ·rw [if_neg c11] at H
             exact absurd H (by simp)
           ·rw [if_neg c10] at H
            exact absurd H (by simp)
          ·replace c9:=Bool.eq_false_iff.mpr c9
           subst c9
           have H1:(spec_l01Canonical.l1 k2 a0 x1_1 (a1.size:Int) x6_1 false (wrap64 (x8_2 + 1))) = some (r1,r2):=by rw [if_neg (show ¬ (false = true) by decide)] at H;exact H
           clear H
           have H:=H1
           clear H1
           have H':=aM H
           clear H
           go_wp2
           repeat (go_quiet (fail);try go_wp2)
           go_roundg k2
           case measure=>have:=HK1.out;have:=HK2.out;omega
           case rel=>exact ⟨(false),(wrap64 (x8_2 + 1)),(by first|rfl|(simp;done)|(simp [*];done)),(by first|rfl|(simp;done)|(simp [*];done)),H',⟨by have:=HK1.out;have:=HK2.out;omega⟩,⟨bk BK102⟩,⟨bb HB⟩⟩
         ·rw [if_neg c8] at H
          have c8b0:decide (x8_2 < (a1.size:Int)) = false:=decide_eq_false c8
          clear c8
          by_cases c17:x7_2 = true
          ·subst c17
           have H1:(if 0 ≤ x6_1 then (if x6_1 ≤ (x1_1.size:Int) then (spec_l01Canonical.j2 k2 a0 (x1_1.extract 0 (x6_1:Int).toNat)) else (none)) else (none)) = some (r1,r2):=by rw [if_pos rfl] at H;exact H
           clear H
           have H:=H1
           clear H1
           by_cases c18:0 ≤ x6_1
           ·rw [if_pos c18] at H
            have c18b0:=eq_true c18
            have c18b1:decide (0 ≤ x6_1) = true:=decide_eq_true c18
            clear c18
            by_cases c19:x6_1 ≤ (x1_1.size:Int)
            ·rw [if_pos c19] at H
             have c19b0:=eq_true c19
             have c19b1:decide (x6_1 ≤ (x1_1.size:Int)) = true:=decide_eq_true c19
             clear c19
             have H':=aM H
             clear H
             go_wp2
             repeat (go_quiet (fail);try go_wp2)
             go_meet
             case rel=>exact ⟨_,(x1_1.extract 0 (x6_1:Int).toNat),(by first|rfl|(simp;done)|(simp [*];done)),H',⟨by have:=HK1.out;have:=HK2.out;first|omega|exact Nat.le_refl _⟩,⟨bk BK102⟩,⟨bb HB⟩⟩
            ·rw [if_neg c19] at H
             exact absurd H (by simp)
           ·rw [if_neg c18] at H
            exact absurd H (by simp)
          ·replace c17:=Bool.eq_false_iff.mpr c17
           subst c17
           have H1:(spec_l01Canonical.l0 k2 a0 x1_1 (a1.size:Int) (wrap64 (x6_1 + 1))) = some (r1,r2):=by rw [if_neg (show ¬ (false = true) by decide)] at H;exact H
           clear H
           have H:=H1
           clear H1
           have H':=aM H
           clear H
           go_wp2
           repeat (go_quiet (fail);try go_wp2)
           go_roundg k2
           case measure=>have:=HK1.out;have:=HK2.out;omega
           case rel=>exact ⟨(x1_1),(wrap64 (x6_1 + 1)),(by first|rfl|(simp;done)|(simp [*];done)),(by first|rfl|(simp;done)|(simp [*];done)),H',⟨by have:=HK1.out;have:=HK2.out;omega⟩,⟨bk BK102⟩,⟨bb HB⟩⟩
      ·rw [if_neg c7] at H
       have c7b0:((Int.tmod (a1.size:Int) x6_1) == 0) = false:=beq_eq_false_iff_ne.mpr c7
       have c7b1:((Int.tmod (a1.size:Int) x6_1) != 0) = true:=bne_iff_ne.mpr c7
       try (have c7u:=c7b0;rw [c7t] at c7u;have c7v:=c7b1;rw [c7t] at c7v)
       have H':=aM H
       clear H
       go_wp2
       repeat (go_quiet (fail);try go_wp2)
       go_roundg k1
       case measure=>have:=HK1.out;omega
       case rel=>exact ⟨(x1_1),(wrap64 (x6_1 + 1)),(by first|rfl|(simp;done)|(simp [*];done)),(by first|rfl|(simp;done)|(simp [*];done)),H',⟨by have:=HK1.out;omega⟩,⟨bk BK102⟩,⟨bb HB⟩⟩
    ·rw [if_neg c5] at H
     have c5b0:decide (x6_1 ≤ (a1.size:Int)) = false:=decide_eq_false c5
     clear c5
     (first|rw [c5b0]|(simp only [i64_w,i32_w];rw [c5b0])|skip)
     have H':=aM H
     clear H
     go_wp2
     repeat (go_quiet (fail);try go_wp2)
     go_meet
     case rel=>exact ⟨_,(x1_1),(by first|rfl|(simp;done)|(simp [*];done)),H',⟨by have:=HK1.out;first|omega|exact Nat.le_refl _⟩,⟨bk BK102⟩,⟨bb HB⟩⟩
 case rest =>
  clear HC3
  try clear c1
  try clear p1
  try clear q1
  try clear hx1
  try clear p2
  try clear c3
  try clear c5
  try clear c5b0
  try clear c6
  try clear c6b0
  try clear c6b1
  try clear p6
  try clear c7
  try clear c7b0
  try clear c7b1
  try clear c8
  try clear c8b0
  try clear c9
  try clear c10
  try clear c10b0
  try clear c11
  try clear c11b0
  try clear p12
  try clear q12
  try clear hx12
  try clear c14
  try clear c14b0
  try clear c15
  try clear c15b0
  try clear p16
  try clear q16
  try clear hx16
  try clear c17
  try clear c18
  try clear c18b0
  try clear c18b1
  try clear c19
  try clear c19b0
  try clear c19b1
  try clear p12
  try clear p16
  try clear p2
  try clear q12
  try clear q16
  obtain ⟨kq,x1_2,rfl,HA,HJ2,BK102,HB⟩:=hcut
  cases kq with
  | zero=>exact absurd HA.out (by simp [spec_l01Canonical.j2])
  | succ kj2 =>
   have H:=HA.out
   clear HA
   simp only [spec_l01Canonical.j2] at H
   have H':=aM H
   clear H
   go_wp2
   repeat (go_quiet (fail);try go_wp2)
   go_loopg [0,1] kj2 (fun kq v0 v1 w'=>∃ (x0_2:ByteArray) (x1_2:ByteArray),v0 = .string x0_2 ∧ v1 = .string x1_2 ∧ Aside0 (spec_l01Canonical.l2 kq x0_2 x1_2 = some (r1,r2)) ∧ Aside0 (kq ≤ kj2) ∧ Aside0 (w'.heap[gb102]? = some (.cells #[.string ⟨#[]⟩,.string ⟨#[]⟩] 27 (0,0))) ∧ Aside0 (Below w.heap.size w w'))
   case atStart=>exact ⟨(a0),(x1_2),(by first|rfl|(simp;done)|(simp [*];done)),(by first|rfl|(simp;done)|(simp [*];done)),H',⟨Nat.le_refl _⟩,⟨bk BK102⟩,⟨bb HB⟩⟩
   case round =>
    clear H'
    try clear c1
    try clear p1
    try clear q1
    try clear hx1
    try clear p2
    try clear c3
    try clear c5
    try clear c5b0
    try clear c6
    try clear c6b0
    try clear c6b1
    try clear p6
    try clear c7
    try clear c7b0
    try clear c7b1
    try clear c8
    try clear c8b0
    try clear c9
    try clear c10
    try clear c10b0
    try clear c11
    try clear c11b0
    try clear p12
    try clear q12
    try clear hx12
    try clear c14
    try clear c14b0
    try clear c15
    try clear c15b0
    try clear p16
    try clear q16
    try clear hx16
    try clear c17
    try clear c18
    try clear c18b0
    try clear c18b1
    try clear c19
    try clear c19b0
    try clear c19b1
    try clear p1
    try clear p12
    try clear p16
    try clear p2
    try clear p6
    try clear q1
    try clear q12
    try clear q16
    obtain ⟨x0_2,x1_2,rfl,rfl,HA,HK2,BK102,HB⟩:=hrel
    cases gk with
    | zero=>exact absurd HA.out (by simp [spec_l01Canonical.l2])
    | succ k2 =>
     have H:=HA.out
     clear HA
     simp only [spec_l01Canonical.l2] at H
     by_cases c20:(x0_2.size:Int) > 0
     ·rw [if_pos c20] at H
      have c20b0:decide (0 < (x0_2.size:Int)) = true:=decide_eq_true c20
      have c20b1:decide (0 < x0_2.size) = true:=decide_eq_true (by omega)
      clear c20
      obtain ⟨ji21,hji21⟩:∃ j_:Int,(wrap64 ((x0_2.size:Int) - 1)) = j_:=⟨_,rfl⟩
      replace H:(if 0 ≤ (ji21) then (if (ji21) < (x0_2.size:Int) then (if 0 ≤ (wrap64 ((x1_2.size:Int) - 1)) then (if (wrap64 ((x1_2.size:Int) - 1)) < (x1_2.size:Int) then (if (bt x0_2 (ji21)) = (bt x1_2 (wrap64 ((x1_2.size:Int) - 1))) then (if (wrap64 ((x1_2.size:Int) - 1)) ≤ (x1_2.size:Int) then (if (x1_2.extract ((wrap64 ((x1_2.size:Int) - 1)):Int).toNat x1_2.size).size + (x1_2.extract 0 ((wrap64 ((x1_2.size:Int) - 1)):Int).toNat).size ≤ 9223372036854775807 then (if (ji21) ≤ (x0_2.size:Int) then (spec_l01Canonical.l2 k2 (x0_2.extract 0 ((ji21):Int).toNat) ((x1_2.extract ((wrap64 ((x1_2.size:Int) - 1)):Int).toNat x1_2.size) ++ (x1_2.extract 0 ((wrap64 ((x1_2.size:Int) - 1)):Int).toNat))) else (none)) else (none)) else (none)) else (some (x0_2,x1_2))) else (none)) else (none)) else (none)) else (none)) = some (r1,r2):=by first|(rw [hji21] at H;exact H)|(simp only [hji21] at H ⊢;exact H)
      have hji21w:(IntKind.i64.wrap ((x0_2.size:Int) - 1)) = ji21:=(i64_w _).trans hji21
      by_cases c22:0 ≤ (ji21)
      ·rw [if_pos c22] at H
       have c22b0:decide (0 ≤ (ji21)) = true:=decide_eq_true c22
       clear c22
       by_cases c23:(ji21) < (x0_2.size:Int)
       ·rw [if_pos c23] at H
        have c23b0:decide ((ji21) < (x0_2.size:Int)) = true:=decide_eq_true c23
        clear c23
        obtain ⟨ji25,hji25⟩:∃ j_:Int,(wrap64 ((x1_2.size:Int) - 1)) = j_:=⟨_,rfl⟩
        replace H:(if 0 ≤ (ji25) then (if (ji25) < (x1_2.size:Int) then (if (bt x0_2 (ji21)) = (bt x1_2 (ji25)) then (if (ji25) ≤ (x1_2.size:Int) then (if (x1_2.extract ((ji25):Int).toNat x1_2.size).size + (x1_2.extract 0 ((ji25):Int).toNat).size ≤ 9223372036854775807 then (if (ji21) ≤ (x0_2.size:Int) then (spec_l01Canonical.l2 k2 (x0_2.extract 0 ((ji21):Int).toNat) ((x1_2.extract ((ji25):Int).toNat x1_2.size) ++ (x1_2.extract 0 ((ji25):Int).toNat))) else (none)) else (none)) else (none)) else (some (x0_2,x1_2))) else (none)) else (none)) = some (r1,r2):=by first|(rw [hji25] at H;exact H)|(simp only [hji25] at H ⊢;exact H)
        have hji25w:(IntKind.i64.wrap ((x1_2.size:Int) - 1)) = ji25:=(i64_w _).trans hji25
        by_cases c26:0 ≤ (ji25)
        ·rw [if_pos c26] at H
         have c26b0:decide (0 ≤ (ji25)) = true:=decide_eq_true c26
         clear c26
         by_cases c27:(ji25) < (x1_2.size:Int)
         ·rw [if_pos c27] at H
          have c27b0:decide ((ji25) < (x1_2.size:Int)) = true:=decide_eq_true c27
          clear c27
          by_cases c29:(bt x0_2 (ji21)) = (bt x1_2 (ji25))
          ·rw [if_pos c29] at H
           have c29b0:((bt x0_2 (ji21)) == (bt x1_2 (ji25))) = true:=beq_iff_eq.mpr c29
           have c29b1:((bt x0_2 (ji21)) != (bt x1_2 (ji25))) = false:=bne_eq_false_iff_eq.mpr c29
           clear c29
           have c30b0:=eq_true (of_decide_eq_true (by first|(with_reducible assumption)|assumption):0 ≤ (ji25))
           by_cases c31:(ji25) ≤ (x1_2.size:Int)
           ·rw [if_pos c31] at H
            have c31b0:=eq_true c31
            have c31b1:decide ((ji25) ≤ (x1_2.size:Int)) = true:=decide_eq_true c31
            clear c31
            have c32b0:=eq_true (of_decide_eq_true (by first|(with_reducible assumption)|assumption):0 ≤ (ji25))
            have c33b0:=eq_true (of_decide_eq_true (by first|(with_reducible assumption)|assumption):(ji25) ≤ (x1_2.size:Int))
            by_cases c34:(x1_2.extract ((ji25):Int).toNat x1_2.size).size + (x1_2.extract 0 ((ji25):Int).toNat).size ≤ 9223372036854775807
            ·rw [if_pos c34] at H
             have c34b0:=eq_true c34
             have c34b1:decide ((x1_2.extract ((ji25):Int).toNat x1_2.size).size + (x1_2.extract 0 ((ji25):Int).toNat).size ≤ 9223372036854775807) = true:=decide_eq_true c34
             try have c34b2:(9223372036854775807 < (x1_2.extract ((ji25):Int).toNat x1_2.size).size + (x1_2.extract 0 ((ji25):Int).toNat).size) = False:=eq_false (Nat.not_lt.2 c34)
             try (have c34b3:=c34;simp at c34b3;have c34b4:=eq_false (Nat.not_lt.2 c34b3))
             have c35b0:=eq_true (of_decide_eq_true (by first|(with_reducible assumption)|assumption):0 ≤ (ji21))
             by_cases c36:(ji21) ≤ (x0_2.size:Int)
             ·rw [if_pos c36] at H
              have c36b0:=eq_true c36
              have c36b1:decide ((ji21) ≤ (x0_2.size:Int)) = true:=decide_eq_true c36
              clear c36
              have H':=aM H
              clear H
              have p24:0 ≤ ((ji21):Int):=of_decide_eq_true (by first|(with_reducible assumption)|assumption)
              have q24:(ji21) < (x0_2.size:Int):=of_decide_eq_true (by first|(with_reducible assumption)|assumption)
              have hx24:=bt_at x0_2 (ji21)
              replace p24:=eq_true p24;replace q24:=eq_true q24
              have p28:0 ≤ ((ji25):Int):=of_decide_eq_true (by first|(with_reducible assumption)|assumption)
              have q28:(ji25) < (x1_2.size:Int):=of_decide_eq_true (by first|(with_reducible assumption)|assumption)
              have hx28:=bt_at x1_2 (ji25)
              replace p28:=eq_true p28;replace q28:=eq_true q28
              go_wp2
              repeat (go_quiet (fail);try go_wp2)
              go_roundg k2
              case measure=>have:=HJ2.out;have:=HK2.out;omega
              case rel=>exact ⟨(x0_2.extract 0 ((ji21):Int).toNat),((x1_2.extract ((ji25):Int).toNat x1_2.size) ++ (x1_2.extract 0 ((ji25):Int).toNat)),(by first|rfl|(simp;done)|(simp only [← hji21] <;> (first|rfl|simp))|(simp [*];done)),(by first|rfl|(simp;done)|(simp only [← hji25] <;> (first|rfl|simp))|(simp [*];done)),H',⟨by have:=HJ2.out;have:=HK2.out;omega⟩,⟨bk BK102⟩,⟨bb HB⟩⟩
             ·rw [if_neg c36] at H
              exact absurd H (by simp)
            ·rw [if_neg c34] at H
             exact absurd H (by simp)
           ·rw [if_neg c31] at H
            exact absurd H (by simp)
          ·rw [if_neg c29] at H
           have c29b0:((bt x0_2 (ji21)) == (bt x1_2 (ji25))) = false:=beq_eq_false_iff_ne.mpr c29
           have c29b1:((bt x0_2 (ji21)) != (bt x1_2 (ji25))) = true:=bne_iff_ne.mpr c29
           simp only [Option.some.injEq,Prod.mk.injEq] at H
           obtain ⟨rfl,rfl⟩:=H
           have p24:0 ≤ ((ji21):Int):=of_decide_eq_true (by first|(with_reducible assumption)|assumption)
           have q24:(ji21) < (x0_2.size:Int):=of_decide_eq_true (by first|(with_reducible assumption)|assumption)
           have hx24:=bt_at x0_2 (ji21)
           replace p24:=eq_true p24;replace q24:=eq_true q24
           have p28:0 ≤ ((ji25):Int):=of_decide_eq_true (by first|(with_reducible assumption)|assumption)
           have q28:(ji25) < (x1_2.size:Int):=of_decide_eq_true (by first|(with_reducible assumption)|assumption)
           have hx28:=bt_at x1_2 (ji25)
           replace p28:=eq_true p28;replace q28:=eq_true q28;have⟨a0,a1,b0,b1⟩:=q2f BK102
           go_wp2
           repeat (go_quiet (fail);try go_wp2)
           refine bodyPost_ret (results_cell_row rfl _ _ gb102 27 #[.string x0_2,.string x1_2] (0,0) _ rfl (by (with_reducible repeat (first|apply yN|apply yD|apply yA));refine blk_put (cs:=#[.string x0_2,.string ⟨#[]⟩]) ?_ 1 _ rfl;(with_reducible repeat (first|apply yN|apply yD|apply yA));refine blk_put (cs:=#[.string ⟨#[]⟩,.string ⟨#[]⟩]) ?_ 0 _ rfl;(with_reducible repeat (first|apply yN|apply yD|apply yA));exact BK102.out) Try.underlying27 rfl (by kernel_rfl)) rfl ?_
           exact ⟨by first|rfl|(simp [errW_none,errW_some] <;> rfl)|(simp only [← hji21,← hji25];first|rfl|(simp [errW_none,errW_some] <;> rfl))|(simp [*,errW_none,errW_some] <;> rfl),by first|exact bb HB|exact bg HB GE102⟩
         ·rw [if_neg c27] at H
          exact absurd H (by simp)
        ·rw [if_neg c26] at H
         exact absurd H (by simp)
       ·rw [if_neg c23] at H
        exact absurd H (by simp)
      ·rw [if_neg c22] at H
       exact absurd H (by simp)
     ·rw [if_neg c20] at H
      have c20b0:decide (0 < (x0_2.size:Int)) = false:=decide_eq_false c20
      have c20b1:decide (0 < x0_2.size) = false:=decide_eq_false (by omega)
      clear c20
      simp only [Option.some.injEq,Prod.mk.injEq] at H
      obtain ⟨rfl,rfl⟩:=H
      have⟨a0,a1,b0,b1⟩:=q2f BK102
      go_wp2
      repeat (go_quiet (fail);try go_wp2)
      refine bodyPost_ret (results_cell_row rfl _ _ gb102 27 #[.string x0_2,.string x1_2] (0,0) _ rfl (by (with_reducible repeat (first|apply yN|apply yD|apply yA));refine blk_put (cs:=#[.string x0_2,.string ⟨#[]⟩]) ?_ 1 _ rfl;(with_reducible repeat (first|apply yN|apply yD|apply yA));refine blk_put (cs:=#[.string ⟨#[]⟩,.string ⟨#[]⟩]) ?_ 0 _ rfl;(with_reducible repeat (first|apply yN|apply yD|apply yA));exact BK102.out) Try.underlying27 rfl (by kernel_rfl)) rfl ?_
      exact ⟨by first|rfl|(simp [errW_none,errW_some] <;> rfl)|(simp [*,errW_none,errW_some] <;> rfl),by first|exact bb HB|exact bg HB GE102⟩
def spec_l01Letters.l0:Nat → ByteArray → Int → Option (Bool)
 | 0,_,_=>none
 | k + 1,x0,x3=>if x3 < (x0.size:Int) then (if 0 ≤ x3 then (if (bt x0 x3) = 48 then (spec_l01Letters.l0 k x0 (wrap64 (x3 + 1))) else (if (bt x0 x3) = 49 then (spec_l01Letters.l0 k x0 (wrap64 (x3 + 1))) else (if (bt x0 x3) = 42 then (spec_l01Letters.l0 k x0 (wrap64 (x3 + 1))) else (some false)))) else (none)) else (some true)
def spec_l01Letters.f (k:Nat) (a0:ByteArray):Option (Bool):=spec_l01Letters.l0 k a0 0
theorem spec_l01Letters.mono_l:∀ k,(∀ y0 y1,LeO (spec_l01Letters.l0 k y0 y1) (spec_l01Letters.l0 (k + 1) y0 y1))
 | 0=>fun _ _ r h=>by simp [spec_l01Letters.l0] at h
 | k + 1=>by
  have ih0:=spec_l01Letters.mono_l k
  ·intro y0 y1
   unfold spec_l01Letters.l0
   repeat' first
   | (with_reducible exact ih0 _ _)
   | (with_reducible exact LeO.refl _)
   | (with_reducible exact LeO.none _)
   | (with_reducible refine LeO.ite ?_ ?_)
   | (with_reducible refine LeO.bind ?_ (fun _=>?_))
   | exact ih0 _ _
   | exact LeO.none _
   | refine LeO.ite ?_ ?_
   | refine LeO.bind ?_ (fun _=>?_)
theorem spec_l01Letters.mono:∀ a0 k,LeO (spec_l01Letters.f k a0) (spec_l01Letters.f (k + 1) a0):=by
 intro a0 k
 have ih0:=spec_l01Letters.mono_l k
 unfold spec_l01Letters.f
 repeat' first
   | (with_reducible exact ih0 _ _)
   | (with_reducible exact LeO.refl _)
   | (with_reducible exact LeO.none _)
   | (with_reducible refine LeO.ite ?_ ?_)
   | (with_reducible refine LeO.bind ?_ (fun _=>?_))
   | exact ih0 _ _
   | exact LeO.none _
   | refine LeO.ite ?_ ?_
   | refine LeO.bind ?_ (fun _=>?_)
set_option maxHeartbeats 8000000 in
set_option maxRecDepth 100000 in
theorem spec_l01Letters.calls (k:Nat) (a0:ByteArray) (r:Bool) (w:World) (h:spec_l01Letters.f k a0 = some r) :
  Calls Try.prog 39 #[.string a0] w fun e w'=>e = .returned (.bool r) ∧ Drawn0 w w':=by
 have H:(spec_l01Letters.l0 k a0 0) = some r:=h
 clear h
 have H':=aM H
 clear H
 go_enter Try.func39,Try.ntmps39
 go_wp2
 go_loopg [3] k (fun kq v3 w'=>∃ (x3_1:Int),v3 = .int .i64 x3_1 ∧ Aside0 (spec_l01Letters.l0 kq a0 x3_1 = some r) ∧ Aside0 (kq ≤ k) ∧ Drawn0 w w')
 case atStart=>exact ⟨(0),(by first|rfl|(simp;done)|(simp [*];done)),H',⟨Nat.le_refl _⟩,by repeat (first|exact Drawn0.refl _|apply Drawn0.step)⟩
 case round =>
  clear H'
  obtain ⟨x3_1,rfl,HA,HK1,⟨m1,rfl⟩⟩:=hrel
  cases gk with
  | zero=>exact absurd HA.out (by simp [spec_l01Letters.l0])
  | succ k1 =>
   have H:=HA.out
   clear HA
   simp only [spec_l01Letters.l0] at H
   by_cases c2:x3_1 < (a0.size:Int)
   ·rw [if_pos c2] at H
    have c2b0:decide (x3_1 < (a0.size:Int)) = true:=decide_eq_true c2
    clear c2
    by_cases c3:0 ≤ x3_1
    ·rw [if_pos c3] at H
     have c3b0:decide (0 ≤ x3_1) = true:=decide_eq_true c3
     clear c3
     by_cases c5:(bt a0 x3_1) = 48
     ·rw [if_pos c5] at H
      have c5b0:((bt a0 x3_1) == 48) = true:=beq_iff_eq.mpr c5
      have c5b1:((bt a0 x3_1) != 48) = false:=bne_eq_false_iff_eq.mpr c5
      clear c5
      have H':=aM H
      clear H
      have p4:0 ≤ (x3_1:Int):=of_decide_eq_true (by first|(with_reducible assumption)|assumption)
      have q4:x3_1 < (a0.size:Int):=of_decide_eq_true (by first|(with_reducible assumption)|assumption)
      have hx4:=bt_at a0 x3_1
      replace p4:=eq_true p4;replace q4:=eq_true q4
      go_wp2
      go_roundg k1
      case measure=>have:=HK1.out;omega
      case rel=>exact ⟨(wrap64 (x3_1 + 1)),(by first|rfl|(simp;done)|(simp [*];done)),H',⟨by have:=HK1.out;omega⟩,by repeat (first|exact Drawn0.refl _|apply Drawn0.step)⟩
     ·rw [if_neg c5] at H
      have c5b0:((bt a0 x3_1) == 48) = false:=beq_eq_false_iff_ne.mpr c5
      have c5b1:((bt a0 x3_1) != 48) = true:=bne_iff_ne.mpr c5
      by_cases c7:(bt a0 x3_1) = 49
      ·rw [if_pos c7] at H
       have c7b0:((bt a0 x3_1) == 49) = true:=beq_iff_eq.mpr c7
       have c7b1:((bt a0 x3_1) != 49) = false:=bne_eq_false_iff_eq.mpr c7
       clear c7
       have H':=aM H
       clear H
       have p4:0 ≤ (x3_1:Int):=of_decide_eq_true (by first|(with_reducible assumption)|assumption)
       have q4:x3_1 < (a0.size:Int):=of_decide_eq_true (by first|(with_reducible assumption)|assumption)
       have hx4:=bt_at a0 x3_1
       replace p4:=eq_true p4;replace q4:=eq_true q4
       have p6:0 ≤ (x3_1:Int):=of_decide_eq_true (by first|(with_reducible assumption)|assumption)
       have q6:x3_1 < (a0.size:Int):=of_decide_eq_true (by first|(with_reducible assumption)|assumption)
       have hx6:=bt_at a0 x3_1
       replace p6:=eq_true p6;replace q6:=eq_true q6
       go_wp2
       go_roundg k1
       case measure=>have:=HK1.out;omega
       case rel=>exact ⟨(wrap64 (x3_1 + 1)),(by first|rfl|(simp;done)|(simp [*];done)),H',⟨by have:=HK1.out;omega⟩,by repeat (first|exact Drawn0.refl _|apply Drawn0.step)⟩
      ·rw [if_neg c7] at H
       have c7b0:((bt a0 x3_1) == 49) = false:=beq_eq_false_iff_ne.mpr c7
       have c7b1:((bt a0 x3_1) != 49) = true:=bne_iff_ne.mpr c7
       by_cases c9:(bt a0 x3_1) = 42
       ·rw [if_pos c9] at H
        have c9b0:((bt a0 x3_1) == 42) = true:=beq_iff_eq.mpr c9
        have c9b1:((bt a0 x3_1) != 42) = false:=bne_eq_false_iff_eq.mpr c9
        clear c9
        have H':=aM H
        clear H
        have p4:0 ≤ (x3_1:Int):=of_decide_eq_true (by first|(with_reducible assumption)|assumption)
        have q4:x3_1 < (a0.size:Int):=of_decide_eq_true (by first|(with_reducible assumption)|assumption)
        have hx4:=bt_at a0 x3_1
        replace p4:=eq_true p4;replace q4:=eq_true q4
        have p6:0 ≤ (x3_1:Int):=of_decide_eq_true (by first|(with_reducible assumption)|assumption)
        have q6:x3_1 < (a0.size:Int):=of_decide_eq_true (by first|(with_reducible assumption)|assumption)
        have hx6:=bt_at a0 x3_1
        replace p6:=eq_true p6;replace q6:=eq_true q6
        have p8:0 ≤ (x3_1:Int):=of_decide_eq_true (by first|(with_reducible assumption)|assumption)
        have q8:x3_1 < (a0.size:Int):=of_decide_eq_true (by first|(with_reducible assumption)|assumption)
        have hx8:=bt_at a0 x3_1
        replace p8:=eq_true p8;replace q8:=eq_true q8
        go_wp2
        go_roundg k1
        case measure=>have:=HK1.out;omega
        case rel=>exact ⟨(wrap64 (x3_1 + 1)),(by first|rfl|(simp;done)|(simp [*];done)),H',⟨by have:=HK1.out;omega⟩,by repeat (first|exact Drawn0.refl _|apply Drawn0.step)⟩
       ·rw [if_neg c9] at H
        have c9b0:((bt a0 x3_1) == 42) = false:=beq_eq_false_iff_ne.mpr c9
        have c9b1:((bt a0 x3_1) != 42) = true:=bne_iff_ne.mpr c9
        obtain rfl:=Option.some.inj H
        have p4:0 ≤ (x3_1:Int):=of_decide_eq_true (by first|(with_reducible assumption)|assumption)
        have q4:x3_1 < (a0.size:Int):=of_decide_eq_true (by first|(with_reducible assumption)|assumption)
        have hx4:=bt_at a0 x3_1
        replace p4:=eq_true p4;replace q4:=eq_true q4
        have p6:0 ≤ (x3_1:Int):=of_decide_eq_true (by first|(with_reducible assumption)|assumption)
        have q6:x3_1 < (a0.size:Int):=of_decide_eq_true (by first|(with_reducible assumption)|assumption)
        have hx6:=bt_at a0 x3_1
        replace p6:=eq_true p6;replace q6:=eq_true q6
        have p8:0 ≤ (x3_1:Int):=of_decide_eq_true (by first|(with_reducible assumption)|assumption)
        have q8:x3_1 < (a0.size:Int):=of_decide_eq_true (by first|(with_reducible assumption)|assumption)
        have hx8:=bt_at a0 x3_1
        replace p8:=eq_true p8;replace q8:=eq_true q8
        go_wp2
        go_ret
        exact ⟨by first|rfl|(simp;done)|(simp [*];done),by repeat (first|exact Drawn0.refl _|apply Drawn0.step)⟩
    ·rw [if_neg c3] at H
     exact absurd H (by simp)
   ·rw [if_neg c2] at H
    have c2b0:decide (x3_1 < (a0.size:Int)) = false:=decide_eq_false c2
    clear c2
    obtain rfl:=Option.some.inj H
    go_wp2
    go_ret
    exact ⟨by first|rfl|(simp;done)|(simp [*];done),by repeat (first|exact Drawn0.refl _|apply Drawn0.step)⟩
end Go.Proofs.Ytbiehbmojbmnoaa.Q
end
section
namespace Go.Proofs.Ytbiehbmojbmnoaa.Q
open Go.Proofs.YtbiehbmojbmnoaaW.Ext
open Go.RowKit Go.Proofs.YtbiehbmojbmnoaaW.PrintWords Go.Proofs.YtbiehbmojbmnoaaW.PrintLast Go.Proofs.YtbiehbmojbmnoaaW.PrintMore
attribute [local go_sem] max2_int min2_int max_two min_two max_three min_three max_four min_four   -- for this text's walks alone
set_option linter.unusedVariables false
set_option linter.unusedSimpArgs false
attribute [local go_sem high] eqA27
def spec_l01Seq.f (k:Nat) (a0_0:ByteArray) (a0_1:ByteArray):Option (Bool):=(spec_l01Letters.f k a0_0).bind fun t104=>(if t104 = true then ((spec_l01Letters.f k a0_1).bind fun t105=>(if t105 = true then (if a0_1.toList = ([]:List UInt8) then (some false) else (if (wrap64 ((a0_0.size:Int) + (a0_1.size:Int))) > 64 then (some false) else ((spec_l01Canonical.f k a0_0 a0_1).bind fun bt106=>(some (bt106.1.toList == a0_0.toList && (bt106.2.toList == a0_1.toList)))))) else (some false))) else (some false))
theorem spec_l01Seq.mono:∀ a0 a1 k,LeO (spec_l01Seq.f k a0 a1) (spec_l01Seq.f (k + 1) a0 a1):=by
 intro a0 a1 k
 unfold spec_l01Seq.f
 repeat' first
   | (with_reducible exact spec_l01Canonical.mono _ _ _)
   | (with_reducible exact spec_l01Letters.mono _ _)
   | (with_reducible exact LeO.refl _)
   | (with_reducible exact LeO.none _)
   | (with_reducible refine LeO.ite ?_ ?_)
   | (with_reducible refine LeO.bind ?_ (fun _=>?_))
   | exact spec_l01Canonical.mono _ _ _
   | exact spec_l01Letters.mono _ _
   | exact LeO.none _
   | refine LeO.ite ?_ ?_
   | refine LeO.bind ?_ (fun _=>?_)
def spec_l01Seq.T3:Bool × List (List Nat × List Nat):=(true,[([],[]),([0],[0]),([],[]),([2],[2]),([1,3],[1,3]),([],[]),([4,5],[4,5]),([6,4,0,1,2,3,4,5,6],[6])])
def spec_l01Seq.B3:List Nat:=[0,1,0,4,15,0,63,127]
theorem spec_l01Seq.tab3:rtab .any (opsOf Try.f28 3) = spec_l01Seq.T3:=by kernel_rfl
theorem spec_l01Seq.bits3:waitsOk spec_l01Seq.T3.2 spec_l01Seq.B3 = true:=by kernel_rfl
set_option maxHeartbeats 8000000 in
set_option maxRecDepth 100000 in
theorem spec_l01Seq.calls (k:Nat) (a0_0:ByteArray) (a0_1:ByteArray) (r:Bool) (w:World) (h:spec_l01Seq.f k a0_0 a0_1 = some r) :
  Calls Try.prog 28 #[.agg #[.string a0_0,.string a0_1]] w fun e w'=>e = .returned (.bool r) ∧ Below w.heap.size w w':=by
 have hu27:=Try.underlying27
 have HB:=aM (Below.refl w.heap.size w)
 have H:((spec_l01Letters.f k a0_0).bind fun t104=>(if t104 = true then ((spec_l01Letters.f k a0_1).bind fun t105=>(if t105 = true then (if a0_1.toList = ([]:List UInt8) then (some false) else (if (wrap64 ((a0_0.size:Int) + (a0_1.size:Int))) > 64 then (some false) else ((spec_l01Canonical.f k a0_0 a0_1).bind fun bt106=>(some (bt106.1.toList == a0_0.toList && (bt106.2.toList == a0_1.toList)))))) else (some false))) else (some false))) = some r:=h
 clear h
 replace H:=Option.bind_eq_some_iff.mp H
 obtain ⟨t104,A20,H⟩:=H
 replace H:(if t104 = true then ((spec_l01Letters.f k a0_1).bind fun t105=>(if t105 = true then (if a0_1.toList = ([]:List UInt8) then (some false) else (if (wrap64 ((a0_0.size:Int) + (a0_1.size:Int))) > 64 then (some false) else ((spec_l01Canonical.f k a0_0 a0_1).bind fun bt106=>(some (bt106.1.toList == a0_0.toList && (bt106.2.toList == a0_1.toList)))))) else (some false))) else (some false)) = some r:=H;have A2:=aM A20
 clear A20
 by_cases c3:t104 = true
 ·subst c3
  have H1:((spec_l01Letters.f k a0_1).bind fun t105=>(if t105 = true then (if a0_1.toList = ([]:List UInt8) then (some false) else (if (wrap64 ((a0_0.size:Int) + (a0_1.size:Int))) > 64 then (some false) else ((spec_l01Canonical.f k a0_0 a0_1).bind fun bt106=>(some (bt106.1.toList == a0_0.toList && (bt106.2.toList == a0_1.toList)))))) else (some false))) = some r:=by rw [if_pos rfl] at H;exact H
  clear H
  have H:=H1
  clear H1
  replace H:=Option.bind_eq_some_iff.mp H
  obtain ⟨t105,A40,H⟩:=H
  replace H:(if t105 = true then (if a0_1.toList = ([]:List UInt8) then (some false) else (if (wrap64 ((a0_0.size:Int) + (a0_1.size:Int))) > 64 then (some false) else ((spec_l01Canonical.f k a0_0 a0_1).bind fun bt106=>(some (bt106.1.toList == a0_0.toList && (bt106.2.toList == a0_1.toList)))))) else (some false)) = some r:=H;have A4:=aM A40
  clear A40
  by_cases c5:t105 = true
  ·subst c5
   have H1:(if a0_1.toList = ([]:List UInt8) then (some false) else (if (wrap64 ((a0_0.size:Int) + (a0_1.size:Int))) > 64 then (some false) else ((spec_l01Canonical.f k a0_0 a0_1).bind fun bt106=>(some (bt106.1.toList == a0_0.toList && (bt106.2.toList == a0_1.toList)))))) = some r:=by rw [if_pos rfl] at H;exact H
   clear H
   have H:=H1
   clear H1
   by_cases c6:a0_1.toList = ([]:List UInt8)
   ·rw [if_pos c6] at H
    have c6b0:(a0_1.toList == ([]:List UInt8)) = true:=beq_iff_eq.mpr c6
    have c6b1:(a0_1.toList != ([]:List UInt8)) = false:=bne_eq_false_iff_eq.mpr c6
    clear c6
    obtain rfl:=Option.some.inj H
    go_enter Try.func28,Try.ntmps28
    go_wp2_with (first|((with_reducible refine gate_dst (N:=1) rfl ?_);(try (refine gate_guard (by rfl) ?_;dsimp only));refine box_event ?hg (N:=1) ?hd (cs:=#[.string a0_0,.string a0_1]) (t:=27) ?hr ?_;(case hd=>rfl);(case hg=>rfl);(case hr=>first|(go_simp;done)|(go_simp;rfl));intro gb103 hg w7 hbox hb;have BK103:=aM (hbox);have GW103:=wl hg HB;have GE103:=wl hg HB;replace HB:=bs HB hb;clear hb hbox hg;have⟨a0,a1,b0,b1⟩:=q2f BK103)|((with_reducible refine gate_callee (f:=39) rfl ?_);refine goesL_ (some 5) rfl rfl Try.func39 (by kernel_rfl) rfl #[.string a0_0] rfl (by (try simp only [sM,sC,sN]);first|done|rfl|(simp only [List.length_drop,List.length_take];rfl)) ?_;(with_reducible refine (spec_l01Letters.calls k a0_0 true _ A2.out).mono ?_);rintro e w' ⟨rfl,⟨nd,rfl⟩⟩;refine ⟨_,rfl,?_⟩)|(go_at_call 39;(with_reducible refine (spec_l01Letters.calls k a0_1 true _ A4.out).mono ?_);rintro e w' ⟨rfl,⟨nd,rfl⟩⟩))
    go_ret
    exact ⟨by first|rfl|(simp [errW_none,errW_some] <;> rfl)|(simp [*,errW_none,errW_some] <;> rfl),bb HB⟩
   ·rw [if_neg c6] at H
    have c6b0:(a0_1.toList == ([]:List UInt8)) = false:=beq_eq_false_iff_ne.mpr c6
    have c6b1:(a0_1.toList != ([]:List UInt8)) = true:=bne_iff_ne.mpr c6
    by_cases c9:(wrap64 ((a0_0.size:Int) + (a0_1.size:Int))) > 64
    ·rw [if_pos c9] at H
     have c9b0:decide (64 < (wrap64 ((a0_0.size:Int) + (a0_1.size:Int)))) = true:=decide_eq_true c9
     clear c9
     obtain rfl:=Option.some.inj H
     go_enter Try.func28,Try.ntmps28
     go_wp2_with (first|((with_reducible refine gate_dst (N:=1) rfl ?_);(try (refine gate_guard (by rfl) ?_;dsimp only));refine box_event ?hg (N:=1) ?hd (cs:=#[.string a0_0,.string a0_1]) (t:=27) ?hr ?_;(case hd=>rfl);(case hg=>rfl);(case hr=>first|(go_simp;done)|(go_simp;rfl));intro gb103 hg w10 hbox hb;have BK103:=aM (hbox);have GW103:=wl hg HB;have GE103:=wl hg HB;replace HB:=bs HB hb;clear hb hbox hg;have⟨a0,a1,b0,b1⟩:=q2f BK103)|((with_reducible refine gate_callee (f:=39) rfl ?_);refine goesL_ (some 5) rfl rfl Try.func39 (by kernel_rfl) rfl #[.string a0_0] rfl (by (try simp only [sM,sC,sN]);first|done|rfl|(simp only [List.length_drop,List.length_take];rfl)) ?_;(with_reducible refine (spec_l01Letters.calls k a0_0 true _ A2.out).mono ?_);rintro e w' ⟨rfl,⟨nd,rfl⟩⟩;refine ⟨_,rfl,?_⟩)|(go_at_call 39;(with_reducible refine (spec_l01Letters.calls k a0_1 true _ A4.out).mono ?_);rintro e w' ⟨rfl,⟨nd,rfl⟩⟩))
     go_ret
     exact ⟨by first|rfl|(simp [errW_none,errW_some] <;> rfl)|(simp [*,errW_none,errW_some] <;> rfl),bb HB⟩
    ·rw [if_neg c9] at H
     have c9b0:decide (64 < (wrap64 ((a0_0.size:Int) + (a0_1.size:Int)))) = false:=decide_eq_false c9
     clear c9
     replace H:=Option.bind_eq_some_iff.mp H
     obtain ⟨⟨t106,t107⟩,A120,H⟩:=H
     replace H:(some (t106.toList == a0_0.toList && (t107.toList == a0_1.toList))) = some r:=H;have A12:=aM A120
     clear A120
     obtain rfl:=Option.some.inj H
     go_enter Try.func28,Try.ntmps28
     try go_wp2_with (first|((with_reducible refine gate_dst (N:=1) rfl ?_);(try (refine gate_guard (by rfl) ?_;dsimp only));refine box_event ?hg (N:=1) ?hd (cs:=#[.string a0_0,.string a0_1]) (t:=27) ?hr ?_;(case hd=>rfl);(case hg=>rfl);(case hr=>first|(go_simp;done)|(go_simp;rfl));intro gb103 hg w13 hbox hb;have BK103:=aM (hbox);have GW103:=wl hg HB;have GE103:=wl hg HB;replace HB:=bs HB hb;clear hb hbox hg;have⟨a0,a1,b0,b1⟩:=q2f BK103)|((with_reducible refine gate_callee (f:=39) rfl ?_);refine goesL_ (some 5) rfl rfl Try.func39 (by kernel_rfl) rfl #[.string a0_0] rfl (by (try simp only [sM,sC,sN]);first|done|rfl|(simp only [List.length_drop,List.length_take];rfl)) ?_;(with_reducible refine (spec_l01Letters.calls k a0_0 true _ A2.out).mono ?_);rintro e w' ⟨rfl,⟨nd,rfl⟩⟩;refine ⟨_,rfl,?_⟩)|(go_at_call 39;(with_reducible refine (spec_l01Letters.calls k a0_1 true _ A4.out).mono ?_);rintro e w' ⟨rfl,⟨nd,rfl⟩⟩))
     (try (rw [drewN_self w13];generalize hq_:World.drewN w13 _ = w13;have n0_:Aside0 (w13.heap[gb103]? = some (.cells #[.string a0_0,.string a0_1] 27 (0,0))):=⟨by rw [← hq_];exact (bk BK103)⟩;have n1_:Aside0 (Below w.heap.size w w13):=⟨by rw [← hq_];exact (bb HB)⟩;clear BK103 HB hq_;have BK103:=n0_;have HB:=n1_;clear n0_ n1_))
     replace BK103:=aM (yD BK103.out);replace HB:=aM (zD HB.out)
     refine start_ (n:=8) (S:=fun w'=>w'.cell? ⟨gb103,0,none⟩ = some (.string a0_0) ∧ w'.cell? ⟨gb103,1,none⟩ = some (.string a0_1)) (ds:=[]) #[fF,fF,fF,fF,fF,fF,fF,fF] (by kernel_rfl) rfl rfl ⟨(blk_cell BK103.out 0).trans rfl,(blk_cell BK103.out 1).trans rfl⟩ (fun hHeld=>?_);refine with_tabW spec_l01Seq.tab3 spec_l01Seq.bits3 (fun HT_ HW_=>?_)
     generalize w13.drew = w15 at BK103 HB hHeld ⊢
     refine pure_ (i:=0) (N:=some 28) (v:=?_) (a':=?_) #[tT,fF,fF,fF,fF,fF,fF,fF] rfl rfl (any_of HT_.out (by kernel_rfl)) (fun _ _ _ h=>h) (Or.inl ⟨by rfl,?_⟩) ?_ ?_
     rotate_left
     ·intro w'
      go_simp
      with_reducible rfl
     rotate_left
     ·simp only [Act.put,sI,sZ,sS,i64_w,i32_w]
      rfl
     refine pure_ (i:=2) (N:=some 30) (v:=?_) (a':=?_) #[tT,fF,tT,fF,fF,fF,fF,fF] rfl rfl (any_of HT_.out (by kernel_rfl)) (fun _ _ _ h=>h) (Or.inl ⟨by rfl,?_⟩) ?_ ?_
     rotate_left
     ·intro w'
      go_simp
      with_reducible rfl
     rotate_left
     ·simp only [Act.put,sI,sZ,sS,i64_w,i32_w]
      rfl
     refine take_ (i:=1) (N:=some 29) (v:=?_) (a':=?_) #[tT,tT,tT,fF,fF,fF,fF,fF] rfl rfl (take_ofW HT_.out HW_.out (by kernel_rfl)) (fun _ _ _ h=>h) (Or.inl ⟨by rfl,?_⟩) hHeld ?_ ?_
     rotate_left
     ·rintro w' ⟨s0,s1⟩
      go_simp
      with_reducible rfl
     rotate_left
     ·simp only [Act.put,sI,sZ,sS,i64_w,i32_w]
      rfl
     refine take_ (i:=3) (N:=some 31) (v:=?_) (a':=?_) #[tT,tT,tT,tT,fF,fF,fF,fF] rfl rfl (take_ofW HT_.out HW_.out (by kernel_rfl)) (fun _ _ _ h=>h) (Or.inl ⟨by rfl,?_⟩) hHeld ?_ ?_
     rotate_left
     ·rintro w' ⟨s0,s1⟩
      go_simp
      with_reducible rfl
     rotate_left
     ·simp only [Act.put,sI,sZ,sS,i64_w,i32_w]
      rfl
     refine take_ (i:=5) (N:=some 33) (v:=?_) (a':=?_) #[tT,tT,tT,tT,fF,tT,fF,fF] rfl rfl (take_ofW HT_.out HW_.out (by kernel_rfl)) (fun _ _ _ h=>h) (Or.inl ⟨by rfl,?_⟩) hHeld ?_ ?_
     rotate_left
     ·rintro w' ⟨s0,s1⟩
      go_simp
      with_reducible rfl
     rotate_left
     ·simp only [Act.put,sI,sZ,sS,i64_w,i32_w]
      rfl
     refine one_ (i:=4) (N:=some 32) #[tT,tT,tT,tT,tT,tT,fF,fF] rfl rfl (one_of HT_.out (by kernel_rfl)) (by decide) (fun K hK=>?_)
     refine goes_ Try.func31 (by kernel_rfl) rfl #[.string a0_0,.string a0_1] (by rfl) rfl rfl (by (try simp only [sM,sC,sN]);first|done|rfl|(simp only [List.length_drop,List.length_take];rfl)) ?_
     with_reducible refine (spec_l01Canonical.calls k a0_0 a0_1 t106 t107 _ A12.out).mono ?_
     rintro e w16 ⟨rfl,hb⟩
     refine ⟨_,rfl,?_⟩
     replace BK103:=kb BK103 hb;replace HB:=bs HB hb;(try clear hb)
     refine hK.out _ _ ⟨(blk_cell BK103.out 0).trans rfl,(blk_cell BK103.out 1).trans rfl⟩ (fun hHeld=>?_)
     clear hK K
     refine norm_ (a':=?_) ?_ ?_
     rotate_left
     ·show Act.put _ (some 32) _ = _
      simp only [Act.put,sI,sZ,sS,i64_w,i32_w]
      rfl
     refine pure_ (i:=6) (N:=some 34) (v:=?_) (a':=?_) #[tT,tT,tT,tT,tT,tT,tT,fF] rfl rfl (any_of HT_.out (by kernel_rfl)) (fun _ _ _ h=>h) (Or.inl ⟨by rfl,?_⟩) ?_ ?_
     rotate_left
     ·intro w'
      go_simp
      with_reducible rfl
     rotate_left
     ·simp only [Act.put,sI,sZ,sS,i64_w,i32_w]
      rfl
     refine pure_ (i:=7) (N:=some 2) (v:=?_) (a':=?_) #[tT,tT,tT,tT,tT,tT,tT,tT] rfl rfl (any_of HT_.out (by kernel_rfl)) (fun _ _ _ h=>h) (Or.inl ⟨by rfl,?_⟩) ?_ ?_
     rotate_left
     ·intro w'
      go_simp
      with_reducible rfl
     rotate_left
     ·simp only [Act.put,sI,sZ,sS,i64_w,i32_w]
      rfl
     refine done_ (done_of HT_.out (by kernel_rfl)) ?_
     try go_wp2
     go_ret
     exact ⟨by first|rfl|(simp [errW_none,errW_some] <;> rfl)|(simp [*,errW_none,errW_some] <;> rfl),bb HB⟩
  ·replace c5:=Bool.eq_false_iff.mpr c5
   subst c5
   have H1:(some false) = some r:=by rw [if_neg (show ¬ (false = true) by decide)] at H;exact H
   clear H
   have H:=H1
   clear H1
   obtain rfl:=Option.some.inj H
   go_enter Try.func28,Try.ntmps28
   go_wp2_with (first|((with_reducible refine gate_dst (N:=1) rfl ?_);(try (refine gate_guard (by rfl) ?_;dsimp only));refine box_event ?hg (N:=1) ?hd (cs:=#[.string a0_0,.string a0_1]) (t:=27) ?hr ?_;(case hd=>rfl);(case hg=>rfl);(case hr=>first|(go_simp;done)|(go_simp;rfl));intro gb103 hg w17 hbox hb;have BK103:=aM (hbox);have GW103:=wl hg HB;have GE103:=wl hg HB;replace HB:=bs HB hb;clear hb hbox hg;have⟨a0,a1,b0,b1⟩:=q2f BK103)|((with_reducible refine gate_callee (f:=39) rfl ?_);refine goesL_ (some 5) rfl rfl Try.func39 (by kernel_rfl) rfl #[.string a0_0] rfl (by (try simp only [sM,sC,sN]);first|done|rfl|(simp only [List.length_drop,List.length_take];rfl)) ?_;(with_reducible refine (spec_l01Letters.calls k a0_0 true _ A2.out).mono ?_);rintro e w' ⟨rfl,⟨nd,rfl⟩⟩;refine ⟨_,rfl,?_⟩)|(go_at_call 39;(with_reducible refine (spec_l01Letters.calls k a0_1 false _ A4.out).mono ?_);rintro e w' ⟨rfl,⟨nd,rfl⟩⟩))
   go_ret
   exact ⟨by first|rfl|(simp [errW_none,errW_some] <;> rfl)|(simp [*,errW_none,errW_some] <;> rfl),bb HB⟩
 ·replace c3:=Bool.eq_false_iff.mpr c3
  subst c3
  have H1:(some false) = some r:=by rw [if_neg (show ¬ (false = true) by decide)] at H;exact H
  clear H
  have H:=H1
  clear H1
  obtain rfl:=Option.some.inj H
  go_enter Try.func28,Try.ntmps28
  go_wp2_with (first|((with_reducible refine gate_dst (N:=1) rfl ?_);(try (refine gate_guard (by rfl) ?_;dsimp only));refine box_event ?hg (N:=1) ?hd (cs:=#[.string a0_0,.string a0_1]) (t:=27) ?hr ?_;(case hd=>rfl);(case hg=>rfl);(case hr=>first|(go_simp;done)|(go_simp;rfl));intro gb103 hg w19 hbox hb;have BK103:=aM (hbox);have GW103:=wl hg HB;have GE103:=wl hg HB;replace HB:=bs HB hb;clear hb hbox hg;have⟨a0,a1,b0,b1⟩:=q2f BK103)|((with_reducible refine gate_callee (f:=39) rfl ?_);refine goesL_ (some 5) rfl rfl Try.func39 (by kernel_rfl) rfl #[.string a0_0] rfl (by (try simp only [sM,sC,sN]);first|done|rfl|(simp only [List.length_drop,List.length_take];rfl)) ?_;(with_reducible refine (spec_l01Letters.calls k a0_0 false _ A2.out).mono ?_);rintro e w' ⟨rfl,⟨nd,rfl⟩⟩;refine ⟨_,rfl,?_⟩))
  go_ret
  exact ⟨by first|rfl|(simp [errW_none,errW_some] <;> rfl)|(simp [*,errW_none,errW_some] <;> rfl),bb HB⟩
end Go.Proofs.Ytbiehbmojbmnoaa.Q
end
section
namespace Go.Proofs.Ytbiehbmojbmnoaa.Q
open Go.Proofs.YtbiehbmojbmnoaaW.Ext
open Go.RowKit Go.Proofs.YtbiehbmojbmnoaaW.PrintWords Go.Proofs.YtbiehbmojbmnoaaW.PrintLast Go.Proofs.YtbiehbmojbmnoaaW.PrintMore
attribute [local go_sem] max2_int min2_int max_two min_two max_three min_three max_four min_four   -- for this text's walks alone
set_option linter.unusedVariables false
set_option linter.unusedSimpArgs false
mutual
def spec_l02Star.j0:Nat → Int → Bool → ByteArray → ByteArray → Option (Bool)
 | 0,_,_,_,_=>none
 | k + 1,x3,x28,x109000,x109001=>if x28 = true then (some false) else (spec_l02Star.l0 k x3 0 x109000 x109001)
def spec_l02Star.l0:Nat → Int → Int → ByteArray → ByteArray → Option (Bool)
 | 0,_,_,_,_=>none
 | k + 1,x3,x4,x109000,x109001=>if x4 < (wrap64 (x3 - 1)) then (if 0 ≤ x4 then (if x4 < (x109001.size:Int) then (if (bt x109001 x4) = 42 then (some false) else (spec_l02Star.l0 k x3 (wrap64 (x4 + 1)) x109000 x109001)) else (none)) else (none)) else (some true)
end
def spec_l02Star.f (k:Nat) (a0_0:ByteArray) (a0_1:ByteArray):Option (Bool):=if a0_0.toList = ([]:List UInt8) then (if 0 ≤ (wrap64 ((a0_1.size:Int) - 1)) then (if (wrap64 ((a0_1.size:Int) - 1)) < (a0_1.size:Int) then (if (bt a0_1 (wrap64 ((a0_1.size:Int) - 1))) = 42 then (if (a0_1.size:Int) > 1 then (if 0 < (a0_1.size:Int) then (spec_l02Star.j0 k (a0_1.size:Int) ((bt a0_1 0) != 49) a0_0 a0_1) else (none)) else (spec_l02Star.j0 k (a0_1.size:Int) false a0_0 a0_1)) else (spec_l02Star.j0 k (a0_1.size:Int) true a0_0 a0_1)) else (none)) else (none)) else (spec_l02Star.j0 k (a0_1.size:Int) true a0_0 a0_1)
theorem spec_l02Star.mono_l:∀ k,(∀ y0 y1 y2 y3,LeO (spec_l02Star.j0 k y0 y1 y2 y3) (spec_l02Star.j0 (k + 1) y0 y1 y2 y3)) ∧ (∀ y0 y1 y2 y3,LeO (spec_l02Star.l0 k y0 y1 y2 y3) (spec_l02Star.l0 (k + 1) y0 y1 y2 y3))
 | 0=>⟨fun _ _ _ _ r h=>by simp [spec_l02Star.j0] at h,fun _ _ _ _ r h=>by simp [spec_l02Star.l0] at h⟩
 | k + 1=>by
  obtain ⟨ih0,ih1⟩:=spec_l02Star.mono_l k
  refine ⟨?_,?_⟩
  ·intro y0 y1 y2 y3
   unfold spec_l02Star.j0
   repeat' first
   | (with_reducible exact ih0 _ _ _ _)
   | (with_reducible exact ih1 _ _ _ _)
   | (with_reducible exact LeO.refl _)
   | (with_reducible exact LeO.none _)
   | (with_reducible refine LeO.ite ?_ ?_)
   | (with_reducible refine LeO.bind ?_ (fun _=>?_))
   | exact ih0 _ _ _ _
   | exact ih1 _ _ _ _
   | exact LeO.none _
   | refine LeO.ite ?_ ?_
   | refine LeO.bind ?_ (fun _=>?_)
  ·intro y0 y1 y2 y3
   unfold spec_l02Star.l0
   repeat' first
   | (with_reducible exact ih0 _ _ _ _)
   | (with_reducible exact ih1 _ _ _ _)
   | (with_reducible exact LeO.refl _)
   | (with_reducible exact LeO.none _)
   | (with_reducible refine LeO.ite ?_ ?_)
   | (with_reducible refine LeO.bind ?_ (fun _=>?_))
   | exact ih0 _ _ _ _
   | exact ih1 _ _ _ _
   | exact LeO.none _
   | refine LeO.ite ?_ ?_
   | refine LeO.bind ?_ (fun _=>?_)
theorem spec_l02Star.mono:∀ a0 a1 k,LeO (spec_l02Star.f k a0 a1) (spec_l02Star.f (k + 1) a0 a1):=by
 intro a0 a1 k
 obtain ⟨ih0,ih1⟩:=spec_l02Star.mono_l k
 unfold spec_l02Star.f
 repeat' first
   | (with_reducible exact ih0 _ _ _ _)
   | (with_reducible exact ih1 _ _ _ _)
   | (with_reducible exact LeO.refl _)
   | (with_reducible exact LeO.none _)
   | (with_reducible refine LeO.ite ?_ ?_)
   | (with_reducible refine LeO.bind ?_ (fun _=>?_))
   | exact ih0 _ _ _ _
   | exact ih1 _ _ _ _
   | exact LeO.none _
   | refine LeO.ite ?_ ?_
   | refine LeO.bind ?_ (fun _=>?_)
set_option maxHeartbeats 8000000 in
set_option maxRecDepth 100000 in
theorem spec_l02Star.calls (k:Nat) (a0_0:ByteArray) (a0_1:ByteArray) (r:Bool) (w:World) (h:spec_l02Star.f k a0_0 a0_1 = some r) :
  Calls Try.prog 29 #[.agg #[.string a0_0,.string a0_1]] w fun e w'=>e = .returned (.bool r) ∧ Below w.heap.size w w':=by
 have hu27:=Try.underlying27
 have HB:=aM (Below.refl w.heap.size w)
 have H:(if a0_0.toList = ([]:List UInt8) then (if 0 ≤ (wrap64 ((a0_1.size:Int) - 1)) then (if (wrap64 ((a0_1.size:Int) - 1)) < (a0_1.size:Int) then (if (bt a0_1 (wrap64 ((a0_1.size:Int) - 1))) = 42 then (if (a0_1.size:Int) > 1 then (if 0 < (a0_1.size:Int) then (spec_l02Star.j0 k (a0_1.size:Int) ((bt a0_1 0) != 49) a0_0 a0_1) else (none)) else (spec_l02Star.j0 k (a0_1.size:Int) false a0_0 a0_1)) else (spec_l02Star.j0 k (a0_1.size:Int) true a0_0 a0_1)) else (none)) else (none)) else (spec_l02Star.j0 k (a0_1.size:Int) true a0_0 a0_1)) = some r:=h
 clear h
 have HC2:=aM H
 clear H
 go_enter Try.func29,Try.ntmps29
 go_upto_region 2 with (first|((with_reducible refine gate_dst (N:=1) rfl ?_);refine box_event ?hg (N:=1) ?hd (cs:=#[.string a0_0,.string a0_1]) (t:=27) ?hr ?_;(case hd=>rfl);(case hg=>rfl);(case hr=>first|(go_simp;done)|(go_simp;rfl));intro gb108 hg w3 hbox hb;have BK108:=aM (hbox);have GW108:=wl hg HB;have GE108:=wl hg HB;replace HB:=bs HB hb;clear hb hbox hg;have⟨a0,a1,b0,b1⟩:=q2f BK108))
 (try simp only [Act.put,sI,sZ,sS])
 go_cut [28] (fun v28 wc=>∃ (kq:Nat) (x28_1:Bool),v28 = .bool x28_1 ∧ Aside0 (spec_l02Star.j0 kq (a0_1.size:Int) x28_1 a0_0 a0_1 = some r) ∧ Aside0 (kq ≤ k) ∧ Aside0 (wc.heap[gb108]? = some (.cells #[.string a0_0,.string a0_1] 27 (0,0))) ∧ Aside0 (Below w.heap.size w wc))
 case first =>
  have H:=HC2.out
  clear HC2
  by_cases c5:a0_0.toList = ([]:List UInt8)
  ·rw [if_pos c5] at H
   have c5b0:(a0_0.toList == ([]:List UInt8)) = true:=beq_iff_eq.mpr c5
   have c5b1:(a0_0.toList != ([]:List UInt8)) = false:=bne_eq_false_iff_eq.mpr c5
   clear c5
   (first|rw [c5b0]|(simp only [i64_w,i32_w];rw [c5b0])|skip)
   obtain ⟨ji6,hji6⟩:∃ j_:Int,(wrap64 ((a0_1.size:Int) - 1)) = j_:=⟨_,rfl⟩
   replace H:(if 0 ≤ (ji6) then (if (ji6) < (a0_1.size:Int) then (if (bt a0_1 (ji6)) = 42 then (if (a0_1.size:Int) > 1 then (if 0 < (a0_1.size:Int) then (spec_l02Star.j0 k (a0_1.size:Int) ((bt a0_1 0) != 49) a0_0 a0_1) else (none)) else (spec_l02Star.j0 k (a0_1.size:Int) false a0_0 a0_1)) else (spec_l02Star.j0 k (a0_1.size:Int) true a0_0 a0_1)) else (none)) else (none)) = some r:=by first|(rw [hji6] at H;exact H)|(simp only [hji6] at H ⊢;exact H)
   have hji6w:(IntKind.i64.wrap ((a0_1.size:Int) - 1)) = ji6:=(i64_w _).trans hji6
   by_cases c7:0 ≤ (ji6)
   ·rw [if_pos c7] at H
    have c7b0:decide (0 ≤ (ji6)) = true:=decide_eq_true c7
    clear c7
    by_cases c8:(ji6) < (a0_1.size:Int)
    ·rw [if_pos c8] at H
     have c8b0:decide ((ji6) < (a0_1.size:Int)) = true:=decide_eq_true c8
     clear c8
     by_cases c10:(bt a0_1 (ji6)) = 42
     ·rw [if_pos c10] at H
      have c10b0:((bt a0_1 (ji6)) == 42) = true:=beq_iff_eq.mpr c10
      have c10b1:((bt a0_1 (ji6)) != 42) = false:=bne_eq_false_iff_eq.mpr c10
      clear c10
      by_cases c11:(a0_1.size:Int) > 1
      ·rw [if_pos c11] at H
       have c11b0:decide (1 < (a0_1.size:Int)) = true:=decide_eq_true c11
       have c11b1:decide (1 < a0_1.size) = true:=decide_eq_true (by omega)
       clear c11
       by_cases c12:0 < (a0_1.size:Int)
       ·rw [if_pos c12] at H
        have c12b0:decide (0 < (a0_1.size:Int)) = true:=decide_eq_true c12
        have c12b1:decide (0 < a0_1.size) = true:=decide_eq_true (by omega)
        clear c12
        have H':=aM H
        clear H
        have⟨a0,a1,b0,b1⟩:=q2f BK108
        have p9:0 ≤ ((ji6):Int):=of_decide_eq_true (by first|(with_reducible assumption)|assumption)
        have q9:(ji6) < (a0_1.size:Int):=of_decide_eq_true (by first|(with_reducible assumption)|assumption)
        have hx9:=bt_at a0_1 (ji6)
        replace p9:=eq_true p9;replace q9:=eq_true q9
        have p13:0 ≤ (0:Int):=(by omega)
        have q13:0 < a0_1.size:=(by have:(0:Int) < (a0_1.size:Int):=of_decide_eq_true (by first|(with_reducible assumption)|assumption);omega)
        have hx13:∀ h:0 < a0_1.size,((a0_1[0]'h).toNat:Int) = bt a0_1 0:=bt_at a0_1 0
        clear p13
        have qi13:(0 < (a0_1.size:Int)) = True:=eq_true (of_decide_eq_true (by first|(with_reducible assumption)|assumption))
        replace q13:=eq_true q13
        go_wp2
        go_meet
        case rel=>exact ⟨_,(((bt a0_1 0) != 49)),(by first|rfl|(simp;done)|(simp [*];done)),H',⟨by first|omega|exact Nat.le_refl _⟩,⟨bk BK108⟩,⟨bb HB⟩⟩
       ·rw [if_neg c12] at H
        exact absurd H (by simp)
      ·rw [if_neg c11] at H
       have c11b0:decide (1 < (a0_1.size:Int)) = false:=decide_eq_false c11
       have c11b1:decide (1 < a0_1.size) = false:=decide_eq_false (by omega)
       clear c11
       have H':=aM H
       clear H
       have⟨a0,a1,b0,b1⟩:=q2f BK108
       have p9:0 ≤ ((ji6):Int):=of_decide_eq_true (by first|(with_reducible assumption)|assumption)
       have q9:(ji6) < (a0_1.size:Int):=of_decide_eq_true (by first|(with_reducible assumption)|assumption)
       have hx9:=bt_at a0_1 (ji6)
       replace p9:=eq_true p9;replace q9:=eq_true q9
       go_wp2
       go_meet
       case rel=>exact ⟨_,(false),(by first|rfl|(simp;done)|(simp [*];done)),H',⟨by first|omega|exact Nat.le_refl _⟩,⟨bk BK108⟩,⟨bb HB⟩⟩
     ·rw [if_neg c10] at H
      have c10b0:((bt a0_1 (ji6)) == 42) = false:=beq_eq_false_iff_ne.mpr c10
      have c10b1:((bt a0_1 (ji6)) != 42) = true:=bne_iff_ne.mpr c10
      have H':=aM H
      clear H
      have⟨a0,a1,b0,b1⟩:=q2f BK108
      have p9:0 ≤ ((ji6):Int):=of_decide_eq_true (by first|(with_reducible assumption)|assumption)
      have q9:(ji6) < (a0_1.size:Int):=of_decide_eq_true (by first|(with_reducible assumption)|assumption)
      have hx9:=bt_at a0_1 (ji6)
      replace p9:=eq_true p9;replace q9:=eq_true q9
      go_wp2
      go_meet
      case rel=>exact ⟨_,(true),(by first|rfl|(simp;done)|(simp [*];done)),H',⟨by first|omega|exact Nat.le_refl _⟩,⟨bk BK108⟩,⟨bb HB⟩⟩
    ·rw [if_neg c8] at H
     exact absurd H (by simp)
   ·rw [if_neg c7] at H
    exact absurd H (by simp)
  ·rw [if_neg c5] at H
   have c5b0:(a0_0.toList == ([]:List UInt8)) = false:=beq_eq_false_iff_ne.mpr c5
   have c5b1:(a0_0.toList != ([]:List UInt8)) = true:=bne_iff_ne.mpr c5
   (first|rw [c5b0]|(simp only [i64_w,i32_w];rw [c5b0])|skip)
   have H':=aM H
   clear H
   have⟨a0,a1,b0,b1⟩:=q2f BK108
   go_wp2
   go_meet
   case rel=>exact ⟨_,(true),(by first|rfl|(simp;done)|(simp [*];done)),H',⟨by first|omega|exact Nat.le_refl _⟩,⟨bk BK108⟩,⟨bb HB⟩⟩
 case rest =>
  clear HC2
  try clear c1
  try clear p1
  try clear q1
  try clear hx1
  try clear qi1
  try clear c2
  try clear p2
  try clear c5
  try clear c5b0
  try clear c5b1
  try clear p6
  try clear c7
  try clear c7b0
  try clear c8
  try clear c8b0
  try clear p9
  try clear q9
  try clear hx9
  try clear c10
  try clear c10b0
  try clear c10b1
  try clear c11
  try clear c11b0
  try clear c11b1
  try clear c12
  try clear c12b0
  try clear c12b1
  try clear p13
  try clear q13
  try clear hx13
  try clear qi13
  try clear hcz14_0
  try clear hcz14_1
  try clear hcz15_0
  try clear hcz15_1
  try clear hcz16_0
  try clear hcz16_1
  try clear hcz17_0
  try clear hcz17_1
  try clear hcz4_0
  try clear hcz4_1
  try clear hfz14_0
  try clear hfz14_1
  try clear hfz15_0
  try clear hfz15_1
  try clear hfz16_0
  try clear hfz16_1
  try clear hfz17_0
  try clear hfz17_1
  try clear hfz4_0
  try clear hfz4_1
  try clear p13
  try clear p9
  try clear q13
  try clear q9
  obtain ⟨kq,x28_1,rfl,HA,HJ1,BK108,HB⟩:=hcut
  cases kq with
  | zero=>exact absurd HA.out (by simp [spec_l02Star.j0])
  | succ kj1 =>
   have H:=HA.out
   clear HA
   simp only [spec_l02Star.j0] at H
   by_cases c18:x28_1 = true
   ·subst c18
    have H1:(some false) = some r:=by rw [if_pos rfl] at H;exact H
    clear H
    have H:=H1
    clear H1
    obtain rfl:=Option.some.inj H
    go_wp2
    go_ret
    exact ⟨by first|rfl|(simp [errW_none,errW_some] <;> rfl)|(simp [*,errW_none,errW_some] <;> rfl),bb HB⟩
   ·replace c18:=Bool.eq_false_iff.mpr c18
    subst c18
    have H1:(spec_l02Star.l0 kj1 (a0_1.size:Int) 0 a0_0 a0_1) = some r:=by rw [if_neg (show ¬ (false = true) by decide)] at H;exact H
    clear H
    have H:=H1
    clear H1
    have H':=aM H
    clear H
    go_wp2
    go_loopg [4] kj1 (fun kq v4 w'=>∃ (x4_2:Int),v4 = .int .i64 x4_2 ∧ Aside0 (spec_l02Star.l0 kq (a0_1.size:Int) x4_2 a0_0 a0_1 = some r) ∧ Aside0 (kq ≤ kj1) ∧ Aside0 (w'.heap[gb108]? = some (.cells #[.string a0_0,.string a0_1] 27 (0,0))) ∧ Aside0 (Below w.heap.size w w'))
    case atStart=>exact ⟨(0),(by first|rfl|(simp;done)|(simp [*];done)),H',⟨Nat.le_refl _⟩,⟨bk BK108⟩,⟨bb HB⟩⟩
    case round =>
     clear H'
     try clear c1
     try clear p1
     try clear q1
     try clear hx1
     try clear qi1
     try clear c2
     try clear p2
     try clear c5
     try clear c5b0
     try clear c5b1
     try clear p6
     try clear c7
     try clear c7b0
     try clear c8
     try clear c8b0
     try clear p9
     try clear q9
     try clear hx9
     try clear c10
     try clear c10b0
     try clear c10b1
     try clear c11
     try clear c11b0
     try clear c11b1
     try clear c12
     try clear c12b0
     try clear c12b1
     try clear p13
     try clear q13
     try clear hx13
     try clear qi13
     try clear c18
     try clear hcz14_0
     try clear hcz14_1
     try clear hcz15_0
     try clear hcz15_1
     try clear hcz16_0
     try clear hcz16_1
     try clear hcz17_0
     try clear hcz17_1
     try clear hcz4_0
     try clear hcz4_1
     try clear hfz14_0
     try clear hfz14_1
     try clear hfz15_0
     try clear hfz15_1
     try clear hfz16_0
     try clear hfz16_1
     try clear hfz17_0
     try clear hfz17_1
     try clear hfz4_0
     try clear hfz4_1
     try clear p1
     try clear p13
     try clear p2
     try clear p6
     try clear p9
     try clear q1
     try clear q13
     try clear q9
     obtain ⟨x4_2,rfl,HA,HK2,BK108,HB⟩:=hrel
     cases gk with
     | zero=>exact absurd HA.out (by simp [spec_l02Star.l0])
     | succ k2 =>
      have H:=HA.out
      clear HA
      simp only [spec_l02Star.l0] at H
      by_cases c19:x4_2 < (wrap64 ((a0_1.size:Int) - 1))
      ·rw [if_pos c19] at H
       have c19b0:decide (x4_2 < (wrap64 ((a0_1.size:Int) - 1))) = true:=decide_eq_true c19
       clear c19
       by_cases c20:0 ≤ x4_2
       ·rw [if_pos c20] at H
        have c20b0:decide (0 ≤ x4_2) = true:=decide_eq_true c20
        clear c20
        by_cases c21:x4_2 < (a0_1.size:Int)
        ·rw [if_pos c21] at H
         have c21b0:decide (x4_2 < (a0_1.size:Int)) = true:=decide_eq_true c21
         clear c21
         by_cases c23:(bt a0_1 x4_2) = 42
         ·rw [if_pos c23] at H
          have c23b0:((bt a0_1 x4_2) == 42) = true:=beq_iff_eq.mpr c23
          have c23b1:((bt a0_1 x4_2) != 42) = false:=bne_eq_false_iff_eq.mpr c23
          clear c23
          obtain rfl:=Option.some.inj H
          have⟨a0,a1,b0,b1⟩:=q2f BK108
          have p22:0 ≤ (x4_2:Int):=of_decide_eq_true (by first|(with_reducible assumption)|assumption)
          have q22:x4_2 < (a0_1.size:Int):=of_decide_eq_true (by first|(with_reducible assumption)|assumption)
          have hx22:=bt_at a0_1 x4_2
          replace p22:=eq_true p22;replace q22:=eq_true q22
          go_wp2
          go_ret
          exact ⟨by first|rfl|(simp [errW_none,errW_some] <;> rfl)|(simp [*,errW_none,errW_some] <;> rfl),bb HB⟩
         ·rw [if_neg c23] at H
          have c23b0:((bt a0_1 x4_2) == 42) = false:=beq_eq_false_iff_ne.mpr c23
          have c23b1:((bt a0_1 x4_2) != 42) = true:=bne_iff_ne.mpr c23
          have H':=aM H
          clear H
          have⟨a0,a1,b0,b1⟩:=q2f BK108
          have p22:0 ≤ (x4_2:Int):=of_decide_eq_true (by first|(with_reducible assumption)|assumption)
          have q22:x4_2 < (a0_1.size:Int):=of_decide_eq_true (by first|(with_reducible assumption)|assumption)
          have hx22:=bt_at a0_1 x4_2
          replace p22:=eq_true p22;replace q22:=eq_true q22
          go_wp2
          go_roundg k2
          case measure=>have:=HJ1.out;have:=HK2.out;omega
          case rel=>exact ⟨(wrap64 (x4_2 + 1)),(by first|rfl|(simp;done)|(simp [*];done)),H',⟨by have:=HJ1.out;have:=HK2.out;omega⟩,⟨bk BK108⟩,⟨bb HB⟩⟩
        ·rw [if_neg c21] at H
         exact absurd H (by simp)
       ·rw [if_neg c20] at H
        exact absurd H (by simp)
      ·rw [if_neg c19] at H
       have c19b0:decide (x4_2 < (wrap64 ((a0_1.size:Int) - 1))) = false:=decide_eq_false c19
       clear c19
       obtain rfl:=Option.some.inj H
       go_wp2
       go_ret
       exact ⟨by first|rfl|(simp [errW_none,errW_some] <;> rfl)|(simp [*,errW_none,errW_some] <;> rfl),bb HB⟩
def spec_l01At.f (a0_0:ByteArray) (a0_1:ByteArray) (a1:Int):Option (Int):=if a1 < (a0_0.size:Int) then (if 0 ≤ a1 then (some (bt a0_0 a1)) else (none)) else (if (a0_1.size:Int) = 0 then (none) else (if 0 ≤ (Int.tmod (wrap64 (a1 - (a0_0.size:Int))) (a0_1.size:Int)) then (if (Int.tmod (wrap64 (a1 - (a0_0.size:Int))) (a0_1.size:Int)) < (a0_1.size:Int) then (some (bt a0_1 (Int.tmod (wrap64 (a1 - (a0_0.size:Int))) (a0_1.size:Int)))) else (none)) else (none)))
set_option maxHeartbeats 8000000 in
set_option maxRecDepth 100000 in
theorem spec_l01At.calls (a0_0:ByteArray) (a0_1:ByteArray) (a1:Int) (r:Int) (w:World) (h:spec_l01At.f a0_0 a0_1 a1 = some r) :
  Calls Try.prog 20 #[.agg #[.string a0_0,.string a0_1],.int .i64 a1] w fun e w'=>e = .returned (.int .u8 r) ∧ Below w.heap.size w w':=by
 have hu27:=Try.underlying27
 have HB:=aM (Below.refl w.heap.size w)
 have H:(if a1 < (a0_0.size:Int) then (if 0 ≤ a1 then (some (bt a0_0 a1)) else (none)) else (if (a0_1.size:Int) = 0 then (none) else (if 0 ≤ (Int.tmod (wrap64 (a1 - (a0_0.size:Int))) (a0_1.size:Int)) then (if (Int.tmod (wrap64 (a1 - (a0_0.size:Int))) (a0_1.size:Int)) < (a0_1.size:Int) then (some (bt a0_1 (Int.tmod (wrap64 (a1 - (a0_0.size:Int))) (a0_1.size:Int)))) else (none)) else (none)))) = some r:=h
 clear h
 by_cases c3:a1 < (a0_0.size:Int)
 ·rw [if_pos c3] at H
  have c3b0:decide (a1 < (a0_0.size:Int)) = true:=decide_eq_true c3
  clear c3
  by_cases c4:0 ≤ a1
  ·rw [if_pos c4] at H
   have c4b0:decide (0 ≤ a1) = true:=decide_eq_true c4
   clear c4
   obtain rfl:=Option.some.inj H
   go_enter Try.func20,Try.ntmps20
   go_wp2_with (first|((with_reducible refine gate_dst (N:=2) rfl ?_);refine box_event ?hg (N:=2) ?hd (cs:=#[.string a0_0,.string a0_1]) (t:=27) ?hr ?_;(case hd=>rfl);(case hg=>rfl);(case hr=>first|(go_simp;done)|(go_simp;rfl));intro gb109 hg w6 hbox hb;have BK109:=aM (hbox);have GW109:=aM ((by rw [hg];exact (below_size (by repeat (first|(with_reducible first|exact HB.out|apply zA|apply zN|apply zD)|exact HB.out))):w.heap.size ≤ gb109));have GE109:=aM ((by rw [hg];exact (below_size (by repeat (first|(with_reducible first|exact HB.out|apply zA|apply zN|apply zD)|exact HB.out))):w.heap.size ≤ gb109));replace HB:=aM (below_step (by repeat (first|(with_reducible first|exact HB.out|apply zA|apply zN|apply zD)|exact HB.out)) hb);clear hb hbox hg;have hcz7_0:w6.cell? ⟨gb109,0,none⟩ = some (.string a0_0):=(blk_cell BK109.out 0).trans rfl;have hcz7_1:w6.cell? ⟨gb109,1,none⟩ = some (.string a0_1):=(blk_cell BK109.out 1).trans rfl;have hfz7_0:=blk_frozen BK109.out 0;have hfz7_1:=blk_frozen BK109.out 1;have p5:0 ≤ (a1:Int):=of_decide_eq_true (by first|(with_reducible assumption)|assumption);have q5:a1 < (a0_0.size:Int):=of_decide_eq_true (by first|(with_reducible assumption)|assumption);have hx5:=bt_at a0_0 a1;replace p5:=eq_true p5;replace q5:=eq_true q5))
   repeat (go_quiet (first|((with_reducible refine gate_dst (N:=2) rfl ?_);refine box_event ?hg (N:=2) ?hd (cs:=#[.string a0_0,.string a0_1]) (t:=27) ?hr ?_;(case hd=>rfl);(case hg=>rfl);(case hr=>first|(go_simp;done)|(go_simp;rfl));intro gb109 hg w6 hbox hb;have BK109:=aM (hbox);have GW109:=aM ((by rw [hg];exact (below_size (by repeat (first|(with_reducible first|exact HB.out|apply zA|apply zN|apply zD)|exact HB.out))):w.heap.size ≤ gb109));have GE109:=aM ((by rw [hg];exact (below_size (by repeat (first|(with_reducible first|exact HB.out|apply zA|apply zN|apply zD)|exact HB.out))):w.heap.size ≤ gb109));replace HB:=aM (below_step (by repeat (first|(with_reducible first|exact HB.out|apply zA|apply zN|apply zD)|exact HB.out)) hb);clear hb hbox hg;have hcz7_0:w6.cell? ⟨gb109,0,none⟩ = some (.string a0_0):=(blk_cell BK109.out 0).trans rfl;have hcz7_1:w6.cell? ⟨gb109,1,none⟩ = some (.string a0_1):=(blk_cell BK109.out 1).trans rfl;have hfz7_0:=blk_frozen BK109.out 0;have hfz7_1:=blk_frozen BK109.out 1;have p5:0 ≤ (a1:Int):=of_decide_eq_true (by first|(with_reducible assumption)|assumption);have q5:a1 < (a0_0.size:Int):=of_decide_eq_true (by first|(with_reducible assumption)|assumption);have hx5:=bt_at a0_0 a1;replace p5:=eq_true p5;replace q5:=eq_true q5));try go_wp2_with (first|((with_reducible refine gate_dst (N:=2) rfl ?_);refine box_event ?hg (N:=2) ?hd (cs:=#[.string a0_0,.string a0_1]) (t:=27) ?hr ?_;(case hd=>rfl);(case hg=>rfl);(case hr=>first|(go_simp;done)|(go_simp;rfl));intro gb109 hg w6 hbox hb;have BK109:=aM (hbox);have GW109:=aM ((by rw [hg];exact (below_size (by repeat (first|(with_reducible first|exact HB.out|apply zA|apply zN|apply zD)|exact HB.out))):w.heap.size ≤ gb109));have GE109:=aM ((by rw [hg];exact (below_size (by repeat (first|(with_reducible first|exact HB.out|apply zA|apply zN|apply zD)|exact HB.out))):w.heap.size ≤ gb109));replace HB:=aM (below_step (by repeat (first|(with_reducible first|exact HB.out|apply zA|apply zN|apply zD)|exact HB.out)) hb);clear hb hbox hg;have hcz7_0:w6.cell? ⟨gb109,0,none⟩ = some (.string a0_0):=(blk_cell BK109.out 0).trans rfl;have hcz7_1:w6.cell? ⟨gb109,1,none⟩ = some (.string a0_1):=(blk_cell BK109.out 1).trans rfl;have hfz7_0:=blk_frozen BK109.out 0;have hfz7_1:=blk_frozen BK109.out 1;have p5:0 ≤ (a1:Int):=of_decide_eq_true (by first|(with_reducible assumption)|assumption);have q5:a1 < (a0_0.size:Int):=of_decide_eq_true (by first|(with_reducible assumption)|assumption);have hx5:=bt_at a0_0 a1;replace p5:=eq_true p5;replace q5:=eq_true q5)))
   go_ret
   exact ⟨by first|rfl|(simp [errW_none,errW_some] <;> rfl)|(simp [*,errW_none,errW_some] <;> rfl),by repeat (first|(with_reducible first|exact HB.out|apply zA|apply zN|apply zD|refine zS ?_ GE109.out)|exact HB.out)⟩
  ·rw [if_neg c4] at H
   exact absurd H (by simp)
 ·rw [if_neg c3] at H
  have c3b0:decide (a1 < (a0_0.size:Int)) = false:=decide_eq_false c3
  clear c3
  by_cases c8:(a0_1.size:Int) = 0
  ·rw [if_pos c8] at H
   exact absurd H (by simp)
  ·rw [if_neg c8] at H
   have c8b0:((a0_1.size:Int) == 0) = false:=beq_eq_false_iff_ne.mpr c8
   have c8b1:((a0_1.size:Int) != 0) = true:=bne_iff_ne.mpr c8
   obtain ⟨ji9,hji9⟩:∃ j_:Int,(Int.tmod (wrap64 (a1 - (a0_0.size:Int))) (a0_1.size:Int)) = j_:=⟨_,rfl⟩
   replace H:(if 0 ≤ (ji9) then (if (ji9) < (a0_1.size:Int) then (some (bt a0_1 (ji9))) else (none)) else (none)) = some r:=by first|(rw [hji9] at H;exact H)|(simp only [hji9] at H ⊢;exact H)
   by_cases c10:0 ≤ (ji9)
   ·rw [if_pos c10] at H
    have c10b0:decide (0 ≤ (ji9)) = true:=decide_eq_true c10
    clear c10
    by_cases c11:(ji9) < (a0_1.size:Int)
    ·rw [if_pos c11] at H
     have c11b0:decide ((ji9) < (a0_1.size:Int)) = true:=decide_eq_true c11
     clear c11
     obtain rfl:=Option.some.inj H
     go_enter Try.func20,Try.ntmps20
     go_wp2_with (first|((with_reducible refine gate_dst (N:=2) rfl ?_);refine box_event ?hg (N:=2) ?hd (cs:=#[.string a0_0,.string a0_1]) (t:=27) ?hr ?_;(case hd=>rfl);(case hg=>rfl);(case hr=>first|(go_simp;done)|(go_simp;rfl));intro gb109 hg w13 hbox hb;have BK109:=aM (hbox);have GW109:=wl hg HB;have GE109:=wl hg HB;replace HB:=bs HB hb;clear hb hbox hg;have⟨a0,a1,b0,b1⟩:=q2f BK109;have p12:0 ≤ ((ji9):Int):=of_decide_eq_true (by first|(with_reducible assumption)|assumption);have q12:(ji9) < (a0_1.size:Int):=of_decide_eq_true (by first|(with_reducible assumption)|assumption);have hx12:=bt_at a0_1 (ji9);replace p12:=eq_true p12;replace q12:=eq_true q12))
     repeat (go_quiet (first|((with_reducible refine gate_dst (N:=2) rfl ?_);refine box_event ?hg (N:=2) ?hd (cs:=#[.string a0_0,.string a0_1]) (t:=27) ?hr ?_;(case hd=>rfl);(case hg=>rfl);(case hr=>first|(go_simp;done)|(go_simp;rfl));intro gb109 hg w13 hbox hb;have BK109:=aM (hbox);have GW109:=wl hg HB;have GE109:=wl hg HB;replace HB:=bs HB hb;clear hb hbox hg;have⟨a0,a1,b0,b1⟩:=q2f BK109;have p12:0 ≤ ((ji9):Int):=of_decide_eq_true (by first|(with_reducible assumption)|assumption);have q12:(ji9) < (a0_1.size:Int):=of_decide_eq_true (by first|(with_reducible assumption)|assumption);have hx12:=bt_at a0_1 (ji9);replace p12:=eq_true p12;replace q12:=eq_true q12));try go_wp2_with (first|((with_reducible refine gate_dst (N:=2) rfl ?_);refine box_event ?hg (N:=2) ?hd (cs:=#[.string a0_0,.string a0_1]) (t:=27) ?hr ?_;(case hd=>rfl);(case hg=>rfl);(case hr=>first|(go_simp;done)|(go_simp;rfl));intro gb109 hg w13 hbox hb;have BK109:=aM (hbox);have GW109:=wl hg HB;have GE109:=wl hg HB;replace HB:=bs HB hb;clear hb hbox hg;have⟨a0,a1,b0,b1⟩:=q2f BK109;have p12:0 ≤ ((ji9):Int):=of_decide_eq_true (by first|(with_reducible assumption)|assumption);have q12:(ji9) < (a0_1.size:Int):=of_decide_eq_true (by first|(with_reducible assumption)|assumption);have hx12:=bt_at a0_1 (ji9);replace p12:=eq_true p12;replace q12:=eq_true q12)))
     go_ret
     exact ⟨by first|rfl|(simp [errW_none,errW_some] <;> rfl)|(simp only [← hji9];first|rfl|(simp [errW_none,errW_some] <;> rfl))|(simp [*,errW_none,errW_some] <;> rfl),bb HB⟩
    ·rw [if_neg c11] at H
     exact absurd H (by simp)
   ·rw [if_neg c10] at H
    exact absurd H (by simp)
def spec_l01Shift.f (a0_0:ByteArray) (a0_1:ByteArray):Option (ByteArray × ByteArray):=if a0_0.toList = ([]:List UInt8) then (if 1 ≤ (a0_1.size:Int) then (if 0 ≤ 1 then (if (a0_1.extract 1 a0_1.size).size + (a0_1.extract 0 1).size ≤ 9223372036854775807 then (some ((⟨#[]⟩:ByteArray),(a0_1.extract 1 a0_1.size) ++ (a0_1.extract 0 1))) else (none)) else (none)) else (none)) else (if 1 ≤ (a0_0.size:Int) then (some (a0_0.extract 1 a0_0.size,a0_1)) else (none))
def spec_l01Shift.T3:Bool × List (List Nat × List Nat):=(true,[([],[]),([0],[0]),([1],[1]),([],[]),([3],[3]),([4],[4]),([2,5],[2,5]),([6],[6]),([7,0,1,2,3,4,5,6,7],[7])])
def spec_l01Shift.B3:List Nat:=[0,1,3,0,8,24,63,127,255]
theorem spec_l01Shift.tab3:rtab .any (opsOf Try.f21 3) = spec_l01Shift.T3:=by kernel_rfl
theorem spec_l01Shift.bits3:waitsOk spec_l01Shift.T3.2 spec_l01Shift.B3 = true:=by kernel_rfl
set_option maxHeartbeats 8000000 in
set_option maxRecDepth 100000 in
theorem spec_l01Shift.calls (a0_0:ByteArray) (a0_1:ByteArray) (r1:ByteArray) (r2:ByteArray) (w:World) (h:spec_l01Shift.f a0_0 a0_1 = some (r1,r2)) :
  Calls Try.prog 21 #[.agg #[.string a0_0,.string a0_1]] w fun e w'=>e = .returned (.agg #[.string r1,.string r2]) ∧ Below w.heap.size w w':=by
 have hu27:=Try.underlying27
 have HB:=aM (Below.refl w.heap.size w)
 have H:(if a0_0.toList = ([]:List UInt8) then (if 1 ≤ (a0_1.size:Int) then (if 0 ≤ 1 then (if (a0_1.extract 1 a0_1.size).size + (a0_1.extract 0 1).size ≤ 9223372036854775807 then (some ((⟨#[]⟩:ByteArray),(a0_1.extract 1 a0_1.size) ++ (a0_1.extract 0 1))) else (none)) else (none)) else (none)) else (if 1 ≤ (a0_0.size:Int) then (some (a0_0.extract 1 a0_0.size,a0_1)) else (none))) = some (r1,r2):=h
 clear h
 by_cases c2:a0_0.toList = ([]:List UInt8)
 ·rw [if_pos c2] at H
  have c2b0:(a0_0.toList == ([]:List UInt8)) = true:=beq_iff_eq.mpr c2
  have c2b1:(a0_0.toList != ([]:List UInt8)) = false:=bne_eq_false_iff_eq.mpr c2
  clear c2
  by_cases c3:1 ≤ (a0_1.size:Int)
  ·rw [if_pos c3] at H
   have c3b0:=eq_true c3
   have c3b1:decide (1 ≤ (a0_1.size:Int)) = true:=decide_eq_true c3
   clear c3
   by_cases c4:0 ≤ 1
   ·rw [if_pos c4] at H
    have c4b0:=eq_true c4
    have c4b1:decide (0 ≤ 1) = true:=decide_eq_true c4
    clear c4
    have c5b0:=eq_true (of_decide_eq_true (by first|(with_reducible assumption)|assumption):1 ≤ (a0_1.size:Int))
    by_cases c6:(a0_1.extract 1 a0_1.size).size + (a0_1.extract 0 1).size ≤ 9223372036854775807
    ·rw [if_pos c6] at H
     have c6b0:=eq_true c6
     have c6b1:decide ((a0_1.extract 1 a0_1.size).size + (a0_1.extract 0 1).size ≤ 9223372036854775807) = true:=decide_eq_true c6
     try have c6b2:(9223372036854775807 < (a0_1.extract 1 a0_1.size).size + (a0_1.extract 0 1).size) = False:=eq_false (Nat.not_lt.2 c6)
     try (have c6b3:=c6;simp at c6b3;have c6b4:=eq_false (Nat.not_lt.2 c6b3))
     simp only [Option.some.injEq,Prod.mk.injEq] at H
     obtain ⟨rfl,rfl⟩:=H
     go_enter Try.func21,Try.ntmps21
     try go_wp2_with (first|((with_reducible refine gate_dst (N:=1) rfl ?_);refine box_event ?hg (N:=1) ?hd (cs:=#[.string a0_0,.string a0_1]) (t:=27) ?hr ?_;(case hd=>rfl);(case hg=>rfl);(case hr=>first|(go_simp;done)|(go_simp;rfl));intro gb110 hg w7 hbox hb;have BK110:=aM (hbox);have GW110:=wl hg HB;have GE110:=wl hg HB;replace HB:=bs HB hb;clear hb hbox hg)|((with_reducible refine gate_dst (N:=2) rfl ?_);refine box_event ?hg (N:=2) ?hd (cs:=#[.string ⟨#[]⟩,.string ⟨#[]⟩]) (t:=27) ?hr ?_;(case hd=>rfl);(case hg=>rfl);(case hr=>first|(go_simp;done)|(go_simp;rfl));intro gb111 hg w8 hbox hb;have BK111:=aM (hbox);have GW111:=wl hg HB;have GE111:=wl hg HB;have NB110_111:=nl hg BK110;have NB111_110:=nr hg BK110;replace BK110:=kb BK110 hb;replace HB:=bs HB hb;clear hb hbox hg;have hnb9:=NB110_111.out;have hnc9:=NB111_110.out;have⟨a0,a1,b0,b1⟩:=q2f BK110))
     replace BK110:=aM (yD BK110.out);replace BK111:=aM (yD BK111.out);replace HB:=aM (zD HB.out)
     refine start_ (n:=9) (S:=fun w'=>w'.cell? ⟨gb110,0,none⟩ = some (.string a0_0) ∧ w'.cell? ⟨gb110,1,none⟩ = some (.string a0_1)) (ds:=[]) #[fF,fF,fF,fF,fF,fF,fF,fF,fF] (by kernel_rfl) rfl rfl ⟨(blk_cell BK110.out 0).trans rfl,(blk_cell BK110.out 1).trans rfl⟩ (fun hHeld=>?_);refine with_tabW spec_l01Shift.tab3 spec_l01Shift.bits3 (fun HT_ HW_=>?_)
     generalize w8.drew = w11 at BK110 BK111 HB hHeld ⊢
     refine pure_ (i:=0) (N:=some 12) (v:=?_) (a':=?_) #[tT,fF,fF,fF,fF,fF,fF,fF,fF] rfl rfl (any_of HT_.out (by kernel_rfl)) (fun _ _ _ h=>h) (Or.inl ⟨by rfl,?_⟩) ?_ ?_
     rotate_left
     ·intro w'
      go_simp
      with_reducible rfl
     rotate_left
     ·simp only [Act.put,sI,sZ,sS,i64_w,i32_w]
      rfl
     refine pure_ (i:=3) (N:=some 15) (v:=?_) (a':=?_) #[tT,fF,fF,tT,fF,fF,fF,fF,fF] rfl rfl (any_of HT_.out (by kernel_rfl)) (fun _ _ _ h=>h) (Or.inl ⟨by rfl,?_⟩) ?_ ?_
     rotate_left
     ·intro w'
      go_simp
      with_reducible rfl
     rotate_left
     ·simp only [Act.put,sI,sZ,sS,i64_w,i32_w]
      rfl
     refine take_ (i:=1) (N:=some 13) (v:=?_) (a':=?_) #[tT,tT,fF,tT,fF,fF,fF,fF,fF] rfl rfl (take_ofW HT_.out HW_.out (by kernel_rfl)) (fun _ _ _ h=>h) (Or.inl ⟨by rfl,?_⟩) hHeld ?_ ?_
     rotate_left
     ·rintro w' ⟨s0,s1⟩
      go_simp
      with_reducible rfl
     rotate_left
     ·simp only [Act.put,sI,sZ,sS,i64_w,i32_w]
      rfl
     refine pure_ (i:=2) (N:=some 14) (v:=?_) (a':=?_) #[tT,tT,tT,tT,fF,fF,fF,fF,fF] rfl rfl (any_of HT_.out (by kernel_rfl)) (fun _ _ _ h=>h) (Or.inl ⟨by rfl,?_⟩) ?_ ?_
     rotate_left
     ·intro w'
      go_simp
      with_reducible rfl
     rotate_left
     ·simp only [Act.put,sI,sZ,sS,i64_w,i32_w]
      rfl
     refine take_ (i:=4) (N:=some 16) (v:=?_) (a':=?_) #[tT,tT,tT,tT,tT,fF,fF,fF,fF] rfl rfl (take_ofW HT_.out HW_.out (by kernel_rfl)) (fun _ _ _ h=>h) (Or.inl ⟨by rfl,?_⟩) hHeld ?_ ?_
     rotate_left
     ·rintro w' ⟨s0,s1⟩
      go_simp
      with_reducible rfl
     rotate_left
     ·simp only [Act.put,sI,sZ,sS,i64_w,i32_w]
      rfl
     refine pure_ (i:=5) (N:=some 17) (v:=?_) (a':=?_) #[tT,tT,tT,tT,tT,tT,fF,fF,fF] rfl rfl (any_of HT_.out (by kernel_rfl)) (fun _ _ _ h=>h) (Or.inl ⟨by rfl,?_⟩) ?_ ?_
     rotate_left
     ·intro w'
      go_simp
      with_reducible rfl
     rotate_left
     ·simp only [Act.put,sI,sZ,sS,i64_w,i32_w]
      rfl
     refine pure_ (i:=6) (N:=some 18) (v:=?_) (a':=?_) #[tT,tT,tT,tT,tT,tT,tT,fF,fF] rfl rfl (any_of HT_.out (by kernel_rfl)) (fun _ _ _ h=>h) (Or.inl ⟨by rfl,?_⟩) ?_ ?_
     rotate_left
     ·intro w'
      go_simp
      with_reducible rfl
     rotate_left
     ·simp only [Act.put,sI,sZ,sS,i64_w,i32_w]
      rfl
     refine pure_ (i:=7) (N:=some 19) (v:=?_) (a':=?_) #[tT,tT,tT,tT,tT,tT,tT,tT,fF] rfl rfl (any_of HT_.out (by kernel_rfl)) (fun _ _ _ h=>h) (Or.inl ⟨by rfl,?_⟩) ?_ ?_
     rotate_left
     ·intro w'
      go_simp
      with_reducible rfl
     rotate_left
     ·simp only [Act.put,sI,sZ,sS,i64_w,i32_w]
      rfl
     refine one_ (i:=8) (N:=none) #[tT,tT,tT,tT,tT,tT,tT,tT,tT] rfl rfl (one_of HT_.out (by kernel_rfl)) (by decide) (fun K hK=>?_)
     have hs12:w11.cell? ⟨gb111,0,none⟩ = some (.string ⟨#[]⟩):=(blk_cell BK111.out 0).trans rfl
     have hfs12:=blk_frozen BK111.out 0
     have hns12_0:=NB110_111.out
     have hms12_0:=NB111_110.out
     have hs13:w11.cell? ⟨gb111,1,none⟩ = some (.string ⟨#[]⟩):=(blk_cell BK111.out 1).trans rfl
     have hfs13:=blk_frozen BK111.out 1
     have hns13_0:=NB110_111.out
     have hms13_0:=NB111_110.out
     refine skip_ (w1:=?_) (by rfl) rfl ?_ ?_
     rotate_left
     ·go_simp
      rfl
     refine hK.out _ _ ⟨((cell_far (p:=⟨gb111,_,none⟩) NB110_111.out _).trans (((cell_far (p:=⟨gb111,_,none⟩) NB110_111.out _).trans (hHeld.1)))),((cell_far (p:=⟨gb111,_,none⟩) NB110_111.out _).trans (((cell_far (p:=⟨gb111,_,none⟩) NB110_111.out _).trans (hHeld.2))))⟩ (fun hHeld=>?_)
     clear hK K
     refine done_ (done_of HT_.out (by kernel_rfl)) ?_
     try go_wp2
     refine bodyPost_ret (results_cell_row rfl _ _ gb111 27 #[.string ⟨#[]⟩,.string ((a0_1.extract 1 a0_1.size) ++ (a0_1.extract 0 1))] (0,0) _ rfl (by (with_reducible repeat (first|apply yN|apply yD|apply yA));refine blk_put (cs:=#[.string ⟨#[]⟩,.string ⟨#[]⟩]) ?_ 1 _ rfl;(with_reducible repeat (first|apply yN|apply yD|apply yA));refine blk_put (cs:=#[.string ⟨#[]⟩,.string ⟨#[]⟩]) ?_ 0 _ rfl;(with_reducible repeat (first|apply yN|apply yD|apply yA));exact BK111.out) Try.underlying27 rfl (by kernel_rfl)) rfl ?_
     exact ⟨by first|rfl|(simp [errW_none,errW_some] <;> rfl)|(simp [*,errW_none,errW_some] <;> rfl),by first|exact bb HB|exact bg HB GE110|exact bg HB GE111⟩
    ·rw [if_neg c6] at H
     exact absurd H (by simp)
   ·rw [if_neg c4] at H
    exact absurd H (by simp)
  ·rw [if_neg c3] at H
   exact absurd H (by simp)
 ·rw [if_neg c2] at H
  have c2b0:(a0_0.toList == ([]:List UInt8)) = false:=beq_eq_false_iff_ne.mpr c2
  have c2b1:(a0_0.toList != ([]:List UInt8)) = true:=bne_iff_ne.mpr c2
  by_cases c14:1 ≤ (a0_0.size:Int)
  ·rw [if_pos c14] at H
   have c14b0:=eq_true c14
   have c14b1:decide (1 ≤ (a0_0.size:Int)) = true:=decide_eq_true c14
   clear c14
   simp only [Option.some.injEq,Prod.mk.injEq] at H
   obtain ⟨rfl,rfl⟩:=H
   go_enter Try.func21,Try.ntmps21
   try go_wp2_with (first|((with_reducible refine gate_dst (N:=1) rfl ?_);refine box_event ?hg (N:=1) ?hd (cs:=#[.string a0_0,.string a0_1]) (t:=27) ?hr ?_;(case hd=>rfl);(case hg=>rfl);(case hr=>first|(go_simp;done)|(go_simp;rfl));intro gb110 hg w15 hbox hb;have BK110:=aM (hbox);have GW110:=wl hg HB;have GE110:=wl hg HB;replace HB:=bs HB hb;clear hb hbox hg)|((with_reducible refine gate_dst (N:=2) rfl ?_);refine box_event ?hg (N:=2) ?hd (cs:=#[.string ⟨#[]⟩,.string ⟨#[]⟩]) (t:=27) ?hr ?_;(case hd=>rfl);(case hg=>rfl);(case hr=>first|(go_simp;done)|(go_simp;rfl));intro gb111 hg w16 hbox hb;have BK111:=aM (hbox);have GW111:=wl hg HB;have GE111:=wl hg HB;have NB110_111:=nl hg BK110;have NB111_110:=nr hg BK110;replace BK110:=kb BK110 hb;replace HB:=bs HB hb;clear hb hbox hg;have hnb17:=NB110_111.out;have hnc17:=NB111_110.out;have⟨a0,a1,b0,b1⟩:=q2f BK110))
   replace BK110:=aM (yD BK110.out);replace BK111:=aM (yD BK111.out);replace HB:=aM (zD HB.out)
   refine start_ (n:=7) (S:=fun w'=>w'.cell? ⟨gb110,0,none⟩ = some (.string a0_0) ∧ w'.cell? ⟨gb110,1,none⟩ = some (.string a0_1)) (ds:=[]) #[fF,fF,fF,fF,fF,fF,fF] (by kernel_rfl) rfl rfl ⟨(blk_cell BK110.out 0).trans rfl,(blk_cell BK110.out 1).trans rfl⟩ (fun hHeld=>?_)
   generalize w16.drew = w19 at BK110 BK111 HB hHeld ⊢
   refine pure_ (i:=0) (N:=some 6) (v:=?_) (a':=?_) #[tT,fF,fF,fF,fF,fF,fF] rfl rfl (by kernel_rfl) (fun _ _ _ h=>h) (Or.inl ⟨by rfl,?_⟩) ?_ ?_
   rotate_left
   ·intro w'
    go_simp
    with_reducible rfl
   rotate_left
   ·simp only [Act.put,sI,sZ,sS,i64_w,i32_w]
    rfl
   refine pure_ (i:=3) (N:=some 9) (v:=?_) (a':=?_) #[tT,fF,fF,tT,fF,fF,fF] rfl rfl (by kernel_rfl) (fun _ _ _ h=>h) (Or.inl ⟨by rfl,?_⟩) ?_ ?_
   rotate_left
   ·intro w'
    go_simp
    with_reducible rfl
   rotate_left
   ·simp only [Act.put,sI,sZ,sS,i64_w,i32_w]
    rfl
   refine take_ (i:=1) (N:=some 7) (v:=?_) (a':=?_) #[tT,tT,fF,tT,fF,fF,fF] rfl rfl (by kernel_rfl) (fun _ _ _ h=>h) (Or.inl ⟨by rfl,?_⟩) hHeld ?_ ?_
   rotate_left
   ·rintro w' ⟨s0,s1⟩
    go_simp
    with_reducible rfl
   rotate_left
   ·simp only [Act.put,sI,sZ,sS,i64_w,i32_w]
    rfl
   refine pure_ (i:=2) (N:=some 8) (v:=?_) (a':=?_) #[tT,tT,tT,tT,fF,fF,fF] rfl rfl (by kernel_rfl) (fun _ _ _ h=>h) (Or.inl ⟨by rfl,?_⟩) ?_ ?_
   rotate_left
   ·intro w'
    go_simp
    with_reducible rfl
   rotate_left
   ·simp only [Act.put,sI,sZ,sS,i64_w,i32_w]
    rfl
   refine take_ (i:=4) (N:=some 10) (v:=?_) (a':=?_) #[tT,tT,tT,tT,tT,fF,fF] rfl rfl (by kernel_rfl) (fun _ _ _ h=>h) (Or.inl ⟨by rfl,?_⟩) hHeld ?_ ?_
   rotate_left
   ·rintro w' ⟨s0,s1⟩
    go_simp
    with_reducible rfl
   rotate_left
   ·simp only [Act.put,sI,sZ,sS,i64_w,i32_w]
    rfl
   refine pure_ (i:=5) (N:=some 11) (v:=?_) (a':=?_) #[tT,tT,tT,tT,tT,tT,fF] rfl rfl (by kernel_rfl) (fun _ _ _ h=>h) (Or.inl ⟨by rfl,?_⟩) ?_ ?_
   rotate_left
   ·intro w'
    go_simp
    with_reducible rfl
   rotate_left
   ·simp only [Act.put,sI,sZ,sS,i64_w,i32_w]
    rfl
   refine one_ (i:=6) (N:=none) #[tT,tT,tT,tT,tT,tT,tT] rfl rfl (by kernel_rfl) (by decide) (fun K hK=>?_)
   have hs20:w19.cell? ⟨gb111,0,none⟩ = some (.string ⟨#[]⟩):=(blk_cell BK111.out 0).trans rfl
   have hfs20:=blk_frozen BK111.out 0
   have hns20_0:=NB110_111.out
   have hms20_0:=NB111_110.out
   have hs21:w19.cell? ⟨gb111,1,none⟩ = some (.string ⟨#[]⟩):=(blk_cell BK111.out 1).trans rfl
   have hfs21:=blk_frozen BK111.out 1
   have hns21_0:=NB110_111.out
   have hms21_0:=NB111_110.out
   refine skip_ (w1:=?_) (by rfl) rfl ?_ ?_
   rotate_left
   ·go_simp
    rfl
   refine hK.out _ _ ⟨((cell_far (p:=⟨gb111,_,none⟩) NB110_111.out _).trans (((cell_far (p:=⟨gb111,_,none⟩) NB110_111.out _).trans (hHeld.1)))),((cell_far (p:=⟨gb111,_,none⟩) NB110_111.out _).trans (((cell_far (p:=⟨gb111,_,none⟩) NB110_111.out _).trans (hHeld.2))))⟩ (fun hHeld=>?_)
   clear hK K
   refine done_ (by kernel_rfl) ?_
   try go_wp2
   refine bodyPost_ret (results_cell_row rfl _ _ gb111 27 #[.string (a0_0.extract 1 a0_0.size),.string a0_1] (0,0) _ rfl (by (with_reducible repeat (first|apply yN|apply yD|apply yA));refine blk_put (cs:=#[.string (a0_0.extract 1 a0_0.size),.string ⟨#[]⟩]) ?_ 1 _ rfl;(with_reducible repeat (first|apply yN|apply yD|apply yA));refine blk_put (cs:=#[.string ⟨#[]⟩,.string ⟨#[]⟩]) ?_ 0 _ rfl;(with_reducible repeat (first|apply yN|apply yD|apply yA));exact BK111.out) Try.underlying27 rfl (by kernel_rfl)) rfl ?_
   exact ⟨by first|rfl|(simp [errW_none,errW_some] <;> rfl)|(simp [*,errW_none,errW_some] <;> rfl),by first|exact bb HB|exact bg HB GE110|exact bg HB GE111⟩
  ·rw [if_neg c14] at H
   exact absurd H (by simp)
end Go.Proofs.Ytbiehbmojbmnoaa.Q
end
section
namespace Go.Proofs.Ytbiehbmojbmnoaa.Q
open Go.Proofs.YtbiehbmojbmnoaaW.Ext
open Go.RowKit Go.Proofs.YtbiehbmojbmnoaaW.PrintWords Go.Proofs.YtbiehbmojbmnoaaW.PrintLast Go.Proofs.YtbiehbmojbmnoaaW.PrintMore
attribute [local go_sem] max2_int min2_int max_two min_two max_three min_three max_four min_four   -- for this text's walks alone
set_option linter.unusedVariables false
set_option linter.unusedSimpArgs false
attribute [local go_sem high] eqA27
def spec_l06Point.l0:Nat → Int → ByteArray → ByteArray → ByteArray → ByteArray → ByteArray → ByteArray → Option (Bool)
 | 0,_,_,_,_,_,_,_=>none
 | k + 1,x6,x113000,x113001,x114000,x114001,x115000,x115001=>if x6 < (wrap64 ((x114000.size:Int) + (x114001.size:Int))) then ((spec_l01Shift.f x115000 x115001).bind fun bt115=>((spec_l01At.f x115000 x115001 0).bind fun t118=>(if t118 = 42 then (if (!(bt115.1.toList == x113000.toList) || (!(bt115.2.toList == x113001.toList))) = true then (some false) else (spec_l06Point.l0 k (wrap64 (x6 + 1)) x113000 x113001 x114000 x114001 bt115.1 bt115.2)) else (spec_l06Point.l0 k (wrap64 (x6 + 1)) x113000 x113001 x114000 x114001 bt115.1 bt115.2)))) else (some true)
def spec_l06Point.f (k:Nat) (a0_0:ByteArray) (a0_1:ByteArray) (a1_0:ByteArray) (a1_1:ByteArray):Option (Bool):=spec_l06Point.l0 k 0 a0_0 a0_1 a1_0 a1_1 a1_0 a1_1
theorem spec_l06Point.mono_l:∀ k,(∀ y0 y1 y2 y3 y4 y5 y6,LeO (spec_l06Point.l0 k y0 y1 y2 y3 y4 y5 y6) (spec_l06Point.l0 (k + 1) y0 y1 y2 y3 y4 y5 y6))
 | 0=>fun _ _ _ _ _ _ _ r h=>by simp [spec_l06Point.l0] at h
 | k + 1=>by
  have ih0:=spec_l06Point.mono_l k
  ·intro y0 y1 y2 y3 y4 y5 y6
   unfold spec_l06Point.l0
   repeat' first
   | (with_reducible exact ih0 _ _ _ _ _ _ _)
   | (with_reducible exact LeO.refl _)
   | (with_reducible exact LeO.none _)
   | (with_reducible refine LeO.ite ?_ ?_)
   | (with_reducible refine LeO.bind ?_ (fun _=>?_))
   | exact ih0 _ _ _ _ _ _ _
   | exact LeO.none _
   | refine LeO.ite ?_ ?_
   | refine LeO.bind ?_ (fun _=>?_)
theorem spec_l06Point.mono:∀ a0 a1 a2 a3 k,LeO (spec_l06Point.f k a0 a1 a2 a3) (spec_l06Point.f (k + 1) a0 a1 a2 a3):=by
 intro a0 a1 a2 a3 k
 have ih0:=spec_l06Point.mono_l k
 unfold spec_l06Point.f
 repeat' first
   | (with_reducible exact ih0 _ _ _ _ _ _ _)
   | (with_reducible exact LeO.refl _)
   | (with_reducible exact LeO.none _)
   | (with_reducible refine LeO.ite ?_ ?_)
   | (with_reducible refine LeO.bind ?_ (fun _=>?_))
   | exact ih0 _ _ _ _ _ _ _
   | exact LeO.none _
   | refine LeO.ite ?_ ?_
   | refine LeO.bind ?_ (fun _=>?_)
set_option maxHeartbeats 8000000 in
set_option maxRecDepth 100000 in
theorem spec_l06Point.calls (k:Nat) (a0_0:ByteArray) (a0_1:ByteArray) (a1_0:ByteArray) (a1_1:ByteArray) (r:Bool) (w:World) (h:spec_l06Point.f k a0_0 a0_1 a1_0 a1_1 = some r) :
  Calls Try.prog 30 #[.agg #[.string a0_0,.string a0_1],.agg #[.string a1_0,.string a1_1]] w fun e w'=>e = .returned (.bool r) ∧ Below w.heap.size w w':=by
 have hu27:=Try.underlying27
 have HB:=aM (Below.refl w.heap.size w)
 have H:(spec_l06Point.l0 k 0 a0_0 a0_1 a1_0 a1_1 a1_0 a1_1) = some r:=h
 clear h
 have H':=aM H
 clear H
 go_enter Try.func30,Try.ntmps30
 go_wp2_with (first|((with_reducible refine gate_dst (N:=2) rfl ?_);refine box_event ?hg (N:=2) ?hd (cs:=#[.string a0_0,.string a0_1]) (t:=27) ?hr ?_;(case hd=>rfl);(case hg=>rfl);(case hr=>first|(go_simp;done)|(go_simp;rfl));intro gb112 hg w3 hbox hb;have BK112:=aM (hbox);have GW112:=wl hg HB;have GE112:=wl hg HB;replace HB:=bs HB hb;clear hb hbox hg)|((with_reducible refine gate_dst (N:=3) rfl ?_);refine box_event ?hg (N:=3) ?hd (cs:=#[.string a1_0,.string a1_1]) (t:=27) ?hr ?_;(case hd=>rfl);(case hg=>rfl);(case hr=>first|(go_simp;done)|(go_simp;rfl));intro gb113 hg w4 hbox hb;have BK113:=aM (hbox);have GW113:=wl hg HB;have GE113:=wl hg HB;have NB112_113:=nl hg BK112;have NB113_112:=nr hg BK112;replace BK112:=kb BK112 hb;replace HB:=bs HB hb;clear hb hbox hg;have hnb5:=NB113_112.out;have hnc5:=NB112_113.out;have⟨a0,a1,b0,b1⟩:=q2f BK113)|((with_reducible refine gate_dst (N:=5) rfl ?_);refine box_event ?hg (N:=5) ?hd (cs:=#[.string ⟨#[]⟩,.string ⟨#[]⟩]) (t:=27) ?hr ?_;(case hd=>rfl);(case hg=>rfl);(case hr=>first|(go_simp;done)|(go_simp;rfl));intro gb114 hg w7 hbox hb;have BK114:=aM (hbox);have GW114:=wl hg HB;have GE114:=wl hg HB;have NB112_114:=nl hg BK112;have NB114_112:=nr hg BK112;have NB113_114:=nl hg BK113;have NB114_113:=nr hg BK113;replace BK112:=kb BK112 hb;replace BK113:=kb BK113 hb;replace HB:=bs HB hb;clear hb hbox hg;have hnb8:=NB114_112.out;have hnc8:=NB112_114.out;have hnb9:=NB114_113.out;have hnc9:=NB113_114.out;have⟨a0,a1,b0,b1⟩:=q2f BK114))
 go_loopg [6] k (fun kq v6 w'=>∃ (x6_1:Int) (x115000_1:ByteArray) (x115001_1:ByteArray),v6 = .int .i64 x6_1 ∧ Aside0 (spec_l06Point.l0 kq x6_1 a0_0 a0_1 a1_0 a1_1 x115000_1 x115001_1 = some r) ∧ Aside0 (kq ≤ k) ∧ Aside0 (w'.heap[gb112]? = some (.cells #[.string a0_0,.string a0_1] 27 (0,0))) ∧ Aside0 (w'.heap[gb113]? = some (.cells #[.string a1_0,.string a1_1] 27 (0,0))) ∧ Aside0 (w'.heap[gb114]? = some (.cells #[.string x115000_1,.string x115001_1] 27 (0,0))) ∧ Aside0 (Below w.heap.size w w'))
 case atStart=>exact ⟨(0),(a1_0),(a1_1),(by first|rfl|(simp;done)|(simp [*];done)),H',⟨Nat.le_refl _⟩,⟨bf BK112 NB112_114⟩,⟨bf BK113 NB113_114⟩,⟨by (with_reducible repeat (first|apply yN|apply yD|apply yA));refine blk_put (cs:=#[.string a1_0,.string ⟨#[]⟩]) ?_ 1 _ rfl;(with_reducible repeat (first|apply yN|apply yD|apply yA));refine blk_put (cs:=#[.string ⟨#[]⟩,.string ⟨#[]⟩]) ?_ 0 _ rfl;(with_reducible repeat (first|apply yN|apply yD|apply yA));exact BK114.out⟩,⟨by first|exact bb HB|exact bg HB GE112|exact bg HB GE113|exact bg HB GE114⟩⟩
 case round =>
  clear H'
  try clear p2
  try clear c3
  try clear c5
  try clear c8
  try clear c9
  try clear hcz10_0
  try clear hcz10_1
  try clear hcz6_0
  try clear hcz6_1
  try clear hfz10_0
  try clear hfz10_1
  try clear hfz6_0
  try clear hfz6_1
  obtain ⟨x6_1,x115000_1,x115001_1,rfl,HA,HK1,BK112,BK113,BK114,HB⟩:=hrel
  cases gk with
  | zero=>exact absurd HA.out (by simp [spec_l06Point.l0])
  | succ k1 =>
   have H:=HA.out
   clear HA
   simp only [spec_l06Point.l0] at H
   by_cases c11:x6_1 < (wrap64 ((a1_0.size:Int) + (a1_1.size:Int)))
   ·rw [if_pos c11] at H
    have c11b0:decide (x6_1 < (wrap64 ((a1_0.size:Int) + (a1_1.size:Int)))) = true:=decide_eq_true c11
    clear c11
    replace H:=Option.bind_eq_some_iff.mp H
    obtain ⟨⟨t115,t116⟩,A120,H⟩:=H
    replace H:((spec_l01At.f x115000_1 x115001_1 0).bind fun t118=>(if t118 = 42 then (if (!(t115.toList == a0_0.toList) || (!(t116.toList == a0_1.toList))) = true then (some false) else (spec_l06Point.l0 k1 (wrap64 (x6_1 + 1)) a0_0 a0_1 a1_0 a1_1 t115 t116)) else (spec_l06Point.l0 k1 (wrap64 (x6_1 + 1)) a0_0 a0_1 a1_0 a1_1 t115 t116))) = some r:=H;have A12:=aM A120
    clear A120
    replace H:=Option.bind_eq_some_iff.mp H
    obtain ⟨t118,A130,H⟩:=H
    replace H:(if t118 = 42 then (if (!(t115.toList == a0_0.toList) || (!(t116.toList == a0_1.toList))) = true then (some false) else (spec_l06Point.l0 k1 (wrap64 (x6_1 + 1)) a0_0 a0_1 a1_0 a1_1 t115 t116)) else (spec_l06Point.l0 k1 (wrap64 (x6_1 + 1)) a0_0 a0_1 a1_0 a1_1 t115 t116)) = some r:=H;have A13:=aM A130
    clear A130
    by_cases c14:t118 = 42
    ·rw [if_pos c14] at H
     have c14b0:(t118 == 42) = true:=beq_iff_eq.mpr c14
     have c14b1:(t118 != 42) = false:=bne_eq_false_iff_eq.mpr c14
     clear c14
     by_cases c15:(!(t115.toList == a0_0.toList) || (!(t116.toList == a0_1.toList))) = true
     ·rw [if_pos c15] at H
      have c15b0:(!(t115.toList == a0_0.toList) || (!(t116.toList == a0_1.toList))) = true:=c15
      clear c15
      obtain rfl:=Option.some.inj H
      have hnb16:=NB113_112.out
      have hnc16:=NB112_113.out
      have hnb17:=NB113_114.out
      have hnc17:=NB114_113.out
      have⟨a0,a1,b0,b1⟩:=q2f BK113
      have hnb19:=NB114_112.out
      have hnc19:=NB112_114.out
      have⟨a0,a1,b0,b1⟩:=q2f BK114
      go_wp2_with (first|((with_reducible refine gate_callee (f:=21) rfl ?_);refine goesL_ (some 21) rfl rfl Try.func21 (by kernel_rfl) rfl #[.agg #[.string x115000_1,.string x115001_1]] rfl (by (try simp only [sM,sC,sN]);first|done|rfl|(simp only [List.length_drop,List.length_take];rfl)) ?_;(with_reducible refine (spec_l01Shift.calls x115000_1 x115001_1 t115 t116 _ A12.out).mono ?_);rintro e w21 ⟨rfl,hb⟩;refine ⟨_,rfl,?_⟩;replace BK112:=kb BK112 hb;replace BK113:=kb BK113 hb;replace BK114:=kb BK114 hb;replace HB:=aM (below_step (by first|exact bb HB|exact bg HB GE112|exact bg HB GE113|exact bg HB GE114) hb);(try clear hb))|((with_reducible refine gate_dst (N:=7) rfl ?_);refine box_event ?hg (N:=7) ?hd (cs:=#[.string ⟨#[]⟩,.string ⟨#[]⟩]) (t:=27) ?hr ?_;(case hd=>rfl);(case hg=>rfl);(case hr=>first|(go_simp;done)|(go_simp;rfl));intro gb117 hg w22 hbox hb;have BK117:=aM (hbox);have GW117:=aM ((by rw [hg];exact (below_size (by first|exact bb HB|exact bg HB GE112|exact bg HB GE113|exact bg HB GE114)):w.heap.size ≤ gb117));have GE117:=aM ((by rw [hg];exact (below_size (by first|exact bb HB|exact bg HB GE112|exact bg HB GE113|exact bg HB GE114)):w.heap.size ≤ gb117));have NB112_117:=nl hg BK112;have NB117_112:=nr hg BK112;have NB113_117:=nl hg BK113;have NB117_113:=nr hg BK113;have NB114_117:=nl hg BK114;have NB117_114:=nr hg BK114;replace BK112:=kb BK112 hb;replace BK113:=kb BK113 hb;replace BK114:=kb BK114 hb;replace HB:=aM (below_step (by first|exact bb HB|exact bg HB GE112|exact bg HB GE113|exact bg HB GE114) hb);clear hb hbox hg;have hnb23:=NB117_112.out;have hnc23:=NB112_117.out;have hnb24:=NB117_113.out;have hnc24:=NB113_117.out;have hnb25:=NB117_114.out;have hnc25:=NB114_117.out;have⟨a0,a1,b0,b1⟩:=q2f BK117;have⟨a0,a1,b0,b1⟩:=q2f BK114)|((with_reducible refine gate_callee (f:=20) rfl ?_);refine goesL_ (some 23) rfl rfl Try.func20 (by kernel_rfl) rfl #[.agg #[.string x115000_1,.string x115001_1],.int .i64 0] rfl (by (try simp only [sM,sC,sN]);first|done|rfl|(simp only [List.length_drop,List.length_take];rfl)) ?_;(with_reducible refine (spec_l01At.calls x115000_1 x115001_1 0 t118 _ A13.out).mono ?_);rintro e w28 ⟨rfl,hb⟩;refine ⟨_,rfl,?_⟩;replace BK112:=kf BK112 NB112_117 hb;replace BK113:=kf BK113 NB113_117 hb;replace BK114:=kf BK114 NB114_117 hb;replace BK117:=aM (blk_below (g:=gb117) (o:=.cells #[.string t115,.string t116] 27 (0,0)) (by (with_reducible repeat (first|apply yN|apply yD|apply yA));refine blk_put (cs:=#[.string t115,.string ⟨#[]⟩]) ?_ 1 _ rfl;(with_reducible repeat (first|apply yN|apply yD|apply yA));refine blk_put (cs:=#[.string ⟨#[]⟩,.string ⟨#[]⟩]) ?_ 0 _ rfl;(with_reducible repeat (first|apply yN|apply yD|apply yA));exact BK117.out) hb);replace HB:=aM (below_step (by first|exact bb HB|exact bg HB GE112|exact bg HB GE113|exact bg HB GE114|exact bg HB GE117) hb);(try clear hb);have⟨a0,a1,b0,b1⟩:=q2f BK117;have⟨a0,a1,b0,b1⟩:=q2f BK112))
      go_ret
      exact ⟨by first|rfl|(simp [errW_none,errW_some] <;> rfl)|(simp [*,errW_none,errW_some] <;> rfl),bb HB⟩
     ·rw [if_neg c15] at H
      have c15b0:(!(t115.toList == a0_0.toList) || (!(t116.toList == a0_1.toList))) = false:=by simpa using c15
      clear c15
      have H':=aM H
      clear H
      have hnb31:=NB113_112.out
      have hnc31:=NB112_113.out
      have hnb32:=NB113_114.out
      have hnc32:=NB114_113.out
      have⟨a0,a1,b0,b1⟩:=q2f BK113
      have hnb34:=NB114_112.out
      have hnc34:=NB112_114.out
      have⟨a0,a1,b0,b1⟩:=q2f BK114
      go_wp2_with (first|((with_reducible refine gate_callee (f:=21) rfl ?_);refine goesL_ (some 21) rfl rfl Try.func21 (by kernel_rfl) rfl #[.agg #[.string x115000_1,.string x115001_1]] rfl (by (try simp only [sM,sC,sN]);first|done|rfl|(simp only [List.length_drop,List.length_take];rfl)) ?_;(with_reducible refine (spec_l01Shift.calls x115000_1 x115001_1 t115 t116 _ A12.out).mono ?_);rintro e w36 ⟨rfl,hb⟩;refine ⟨_,rfl,?_⟩;replace BK112:=kb BK112 hb;replace BK113:=kb BK113 hb;replace BK114:=kb BK114 hb;replace HB:=aM (below_step (by first|exact bb HB|exact bg HB GE112|exact bg HB GE113|exact bg HB GE114) hb);(try clear hb))|((with_reducible refine gate_dst (N:=7) rfl ?_);refine box_event ?hg (N:=7) ?hd (cs:=#[.string ⟨#[]⟩,.string ⟨#[]⟩]) (t:=27) ?hr ?_;(case hd=>rfl);(case hg=>rfl);(case hr=>first|(go_simp;done)|(go_simp;rfl));intro gb117 hg w37 hbox hb;have BK117:=aM (hbox);have GW117:=aM ((by rw [hg];exact (below_size (by first|exact bb HB|exact bg HB GE112|exact bg HB GE113|exact bg HB GE114)):w.heap.size ≤ gb117));have GE117:=aM ((by rw [hg];exact (below_size (by first|exact bb HB|exact bg HB GE112|exact bg HB GE113|exact bg HB GE114)):w.heap.size ≤ gb117));have NB112_117:=nl hg BK112;have NB117_112:=nr hg BK112;have NB113_117:=nl hg BK113;have NB117_113:=nr hg BK113;have NB114_117:=nl hg BK114;have NB117_114:=nr hg BK114;replace BK112:=kb BK112 hb;replace BK113:=kb BK113 hb;replace BK114:=kb BK114 hb;replace HB:=aM (below_step (by first|exact bb HB|exact bg HB GE112|exact bg HB GE113|exact bg HB GE114) hb);clear hb hbox hg;have hnb38:=NB117_112.out;have hnc38:=NB112_117.out;have hnb39:=NB117_113.out;have hnc39:=NB113_117.out;have hnb40:=NB117_114.out;have hnc40:=NB114_117.out;have⟨a0,a1,b0,b1⟩:=q2f BK117;have⟨a0,a1,b0,b1⟩:=q2f BK114)|((with_reducible refine gate_callee (f:=20) rfl ?_);refine goesL_ (some 23) rfl rfl Try.func20 (by kernel_rfl) rfl #[.agg #[.string x115000_1,.string x115001_1],.int .i64 0] rfl (by (try simp only [sM,sC,sN]);first|done|rfl|(simp only [List.length_drop,List.length_take];rfl)) ?_;(with_reducible refine (spec_l01At.calls x115000_1 x115001_1 0 t118 _ A13.out).mono ?_);rintro e w43 ⟨rfl,hb⟩;refine ⟨_,rfl,?_⟩;replace BK112:=kf BK112 NB112_117 hb;replace BK113:=kf BK113 NB113_117 hb;replace BK114:=kf BK114 NB114_117 hb;replace BK117:=aM (blk_below (g:=gb117) (o:=.cells #[.string t115,.string t116] 27 (0,0)) (by (with_reducible repeat (first|apply yN|apply yD|apply yA));refine blk_put (cs:=#[.string t115,.string ⟨#[]⟩]) ?_ 1 _ rfl;(with_reducible repeat (first|apply yN|apply yD|apply yA));refine blk_put (cs:=#[.string ⟨#[]⟩,.string ⟨#[]⟩]) ?_ 0 _ rfl;(with_reducible repeat (first|apply yN|apply yD|apply yA));exact BK117.out) hb);replace HB:=aM (below_step (by first|exact bb HB|exact bg HB GE112|exact bg HB GE113|exact bg HB GE114|exact bg HB GE117) hb);(try clear hb);have⟨a0,a1,b0,b1⟩:=q2f BK117;have⟨a0,a1,b0,b1⟩:=q2f BK112;have⟨a0,a1,b0,b1⟩:=q2f BK114))
      go_roundg k1
      case measure=>have:=HK1.out;omega
      case rel=>exact ⟨(wrap64 (x6_1 + 1)),(t115),(t116),(by first|rfl|(simp;done)|(simp [*];done)),H',⟨by have:=HK1.out;omega⟩,⟨bf BK112 NB112_114⟩,⟨bf BK113 NB113_114⟩,⟨by (with_reducible repeat (first|apply yN|apply yD|apply yA));refine blk_put (cs:=#[.string t115,.string x115001_1]) ?_ 1 _ rfl;(with_reducible repeat (first|apply yN|apply yD|apply yA));refine blk_put (cs:=#[.string x115000_1,.string x115001_1]) ?_ 0 _ rfl;(with_reducible repeat (first|apply yN|apply yD|apply yA));exact BK114.out⟩,⟨by first|exact bb HB|exact bg HB GE112|exact bg HB GE113|exact bg HB GE114|exact bg HB GE117⟩⟩
    ·rw [if_neg c14] at H
     have c14b0:(t118 == 42) = false:=beq_eq_false_iff_ne.mpr c14
     have c14b1:(t118 != 42) = true:=bne_iff_ne.mpr c14
     have H':=aM H
     clear H
     have hnb47:=NB113_112.out
     have hnc47:=NB112_113.out
     have hnb48:=NB113_114.out
     have hnc48:=NB114_113.out
     have⟨a0,a1,b0,b1⟩:=q2f BK113
     have hnb50:=NB114_112.out
     have hnc50:=NB112_114.out
     have⟨a0,a1,b0,b1⟩:=q2f BK114
     go_wp2_with (first|((with_reducible refine gate_callee (f:=21) rfl ?_);refine goesL_ (some 21) rfl rfl Try.func21 (by kernel_rfl) rfl #[.agg #[.string x115000_1,.string x115001_1]] rfl (by (try simp only [sM,sC,sN]);first|done|rfl|(simp only [List.length_drop,List.length_take];rfl)) ?_;(with_reducible refine (spec_l01Shift.calls x115000_1 x115001_1 t115 t116 _ A12.out).mono ?_);rintro e w52 ⟨rfl,hb⟩;refine ⟨_,rfl,?_⟩;replace BK112:=kb BK112 hb;replace BK113:=kb BK113 hb;replace BK114:=kb BK114 hb;replace HB:=aM (below_step (by first|exact bb HB|exact bg HB GE112|exact bg HB GE113|exact bg HB GE114) hb);(try clear hb))|((with_reducible refine gate_dst (N:=7) rfl ?_);refine box_event ?hg (N:=7) ?hd (cs:=#[.string ⟨#[]⟩,.string ⟨#[]⟩]) (t:=27) ?hr ?_;(case hd=>rfl);(case hg=>rfl);(case hr=>first|(go_simp;done)|(go_simp;rfl));intro gb117 hg w53 hbox hb;have BK117:=aM (hbox);have GW117:=aM ((by rw [hg];exact (below_size (by first|exact bb HB|exact bg HB GE112|exact bg HB GE113|exact bg HB GE114)):w.heap.size ≤ gb117));have GE117:=aM ((by rw [hg];exact (below_size (by first|exact bb HB|exact bg HB GE112|exact bg HB GE113|exact bg HB GE114)):w.heap.size ≤ gb117));have NB112_117:=nl hg BK112;have NB117_112:=nr hg BK112;have NB113_117:=nl hg BK113;have NB117_113:=nr hg BK113;have NB114_117:=nl hg BK114;have NB117_114:=nr hg BK114;replace BK112:=kb BK112 hb;replace BK113:=kb BK113 hb;replace BK114:=kb BK114 hb;replace HB:=aM (below_step (by first|exact bb HB|exact bg HB GE112|exact bg HB GE113|exact bg HB GE114) hb);clear hb hbox hg;have hnb54:=NB117_112.out;have hnc54:=NB112_117.out;have hnb55:=NB117_113.out;have hnc55:=NB113_117.out;have hnb56:=NB117_114.out;have hnc56:=NB114_117.out;have⟨a0,a1,b0,b1⟩:=q2f BK117;have⟨a0,a1,b0,b1⟩:=q2f BK114)|((with_reducible refine gate_callee (f:=20) rfl ?_);refine goesL_ (some 23) rfl rfl Try.func20 (by kernel_rfl) rfl #[.agg #[.string x115000_1,.string x115001_1],.int .i64 0] rfl (by (try simp only [sM,sC,sN]);first|done|rfl|(simp only [List.length_drop,List.length_take];rfl)) ?_;(with_reducible refine (spec_l01At.calls x115000_1 x115001_1 0 t118 _ A13.out).mono ?_);rintro e w59 ⟨rfl,hb⟩;refine ⟨_,rfl,?_⟩;replace BK112:=kf BK112 NB112_117 hb;replace BK113:=kf BK113 NB113_117 hb;replace BK114:=kf BK114 NB114_117 hb;replace BK117:=aM (blk_below (g:=gb117) (o:=.cells #[.string t115,.string t116] 27 (0,0)) (by (with_reducible repeat (first|apply yN|apply yD|apply yA));refine blk_put (cs:=#[.string t115,.string ⟨#[]⟩]) ?_ 1 _ rfl;(with_reducible repeat (first|apply yN|apply yD|apply yA));refine blk_put (cs:=#[.string ⟨#[]⟩,.string ⟨#[]⟩]) ?_ 0 _ rfl;(with_reducible repeat (first|apply yN|apply yD|apply yA));exact BK117.out) hb);replace HB:=aM (below_step (by first|exact bb HB|exact bg HB GE112|exact bg HB GE113|exact bg HB GE114|exact bg HB GE117) hb);(try clear hb);have⟨a0,a1,b0,b1⟩:=q2f BK117;have⟨a0,a1,b0,b1⟩:=q2f BK114))
     go_roundg k1
     case measure=>have:=HK1.out;omega
     case rel=>exact ⟨(wrap64 (x6_1 + 1)),(t115),(t116),(by first|rfl|(simp;done)|(simp [*];done)),H',⟨by have:=HK1.out;omega⟩,⟨bf BK112 NB112_114⟩,⟨bf BK113 NB113_114⟩,⟨by (with_reducible repeat (first|apply yN|apply yD|apply yA));refine blk_put (cs:=#[.string t115,.string x115001_1]) ?_ 1 _ rfl;(with_reducible repeat (first|apply yN|apply yD|apply yA));refine blk_put (cs:=#[.string x115000_1,.string x115001_1]) ?_ 0 _ rfl;(with_reducible repeat (first|apply yN|apply yD|apply yA));exact BK114.out⟩,⟨by first|exact bb HB|exact bg HB GE112|exact bg HB GE113|exact bg HB GE114|exact bg HB GE117⟩⟩
   ·rw [if_neg c11] at H
    have c11b0:decide (x6_1 < (wrap64 ((a1_0.size:Int) + (a1_1.size:Int)))) = false:=decide_eq_false c11
    clear c11
    obtain rfl:=Option.some.inj H
    have hnb62:=NB113_112.out
    have hnc62:=NB112_113.out
    have hnb63:=NB113_114.out
    have hnc63:=NB114_113.out
    have⟨a0,a1,b0,b1⟩:=q2f BK113
    go_wp2
    go_ret
    exact ⟨by first|rfl|(simp [errW_none,errW_some] <;> rfl)|(simp [*,errW_none,errW_some] <;> rfl),bb HB⟩
end Go.Proofs.Ytbiehbmojbmnoaa.Q
end
section
namespace Go.Proofs.Ytbiehbmojbmnoaa.Q
open Go.Proofs.YtbiehbmojbmnoaaW.Ext
open Go.RowKit Go.Proofs.YtbiehbmojbmnoaaW.PrintWords Go.Proofs.YtbiehbmojbmnoaaW.PrintLast Go.Proofs.YtbiehbmojbmnoaaW.PrintMore
attribute [local go_sem] max2_int min2_int max_two min_two max_three min_three max_four min_four   -- for this text's walks alone
set_option linter.unusedVariables false
set_option linter.unusedSimpArgs false
mutual
def spec_l06Code.l0:Nat → List (S27) → Int → ByteArray → ByteArray → Option (Int)
 | 0,_,_,_,_=>none
 | k + 1,x1,x5,x120000,x120001=>if x5 < (x1.length:Int) then (if 0 ≤ x5 then ((spec_l01Seq.f k ((rd_T27 x1 x5).f0) ((rd_T27 x1 x5).f1)).bind fun t122=>(if t122 = true then (spec_l06Code.l0 k x1 (wrap64 (x5 + 1)) x120000 x120001) else (some 1))) else (none)) else ((spec_l02Star.f k x120000 x120001).bind fun t123=>(if t123 = true then (spec_l06Code.l1 k x1 0 x120000 x120001) else (some 5)))
def spec_l06Code.l1:Nat → List (S27) → Int → ByteArray → ByteArray → Option (Int)
 | 0,_,_,_,_=>none
 | k + 1,x1,x6,x120000,x120001=>if x6 < (x1.length:Int) then (if 0 ≤ x6 then ((spec_l06Point.f k x120000 x120001 ((rd_T27 x1 x6).f0) ((rd_T27 x1 x6).f1)).bind fun t125=>(if t125 = true then (spec_l06Code.l1 k x1 (wrap64 (x6 + 1)) x120000 x120001) else (some 5))) else (none)) else (some 0)
end
def spec_l06Code.f (k:Nat) (a0_0:ByteArray) (a0_1:ByteArray) (l1:List (S27)):Option (Int):=(spec_l01Seq.f k a0_0 a0_1).bind fun t120=>(if t120 = true then (spec_l06Code.l0 k l1 0 a0_0 a0_1) else (some 1))
theorem spec_l06Code.mono_l:∀ k,(∀ y0 y1 y2 y3,LeO (spec_l06Code.l0 k y0 y1 y2 y3) (spec_l06Code.l0 (k + 1) y0 y1 y2 y3)) ∧ (∀ y0 y1 y2 y3,LeO (spec_l06Code.l1 k y0 y1 y2 y3) (spec_l06Code.l1 (k + 1) y0 y1 y2 y3))
 | 0=>⟨fun _ _ _ _ r h=>by simp [spec_l06Code.l0] at h,fun _ _ _ _ r h=>by simp [spec_l06Code.l1] at h⟩
 | k + 1=>by
  obtain ⟨ih0,ih1⟩:=spec_l06Code.mono_l k
  refine ⟨?_,?_⟩
  ·intro y0 y1 y2 y3
   unfold spec_l06Code.l0
   repeat' first
   | (with_reducible exact ih0 _ _ _ _)
   | (with_reducible exact ih1 _ _ _ _)
   | (with_reducible exact spec_l01Seq.mono _ _ _)
   | (with_reducible exact spec_l02Star.mono _ _ _)
   | (with_reducible exact spec_l06Point.mono _ _ _ _ _)
   | (with_reducible exact LeO.refl _)
   | (with_reducible exact LeO.none _)
   | (with_reducible refine LeO.ite ?_ ?_)
   | (with_reducible refine LeO.bind ?_ (fun _=>?_))
   | exact ih0 _ _ _ _
   | exact ih1 _ _ _ _
   | exact spec_l01Seq.mono _ _ _
   | exact spec_l02Star.mono _ _ _
   | exact spec_l06Point.mono _ _ _ _ _
   | exact LeO.none _
   | refine LeO.ite ?_ ?_
   | refine LeO.bind ?_ (fun _=>?_)
  ·intro y0 y1 y2 y3
   unfold spec_l06Code.l1
   repeat' first
   | (with_reducible exact ih0 _ _ _ _)
   | (with_reducible exact ih1 _ _ _ _)
   | (with_reducible exact spec_l01Seq.mono _ _ _)
   | (with_reducible exact spec_l02Star.mono _ _ _)
   | (with_reducible exact spec_l06Point.mono _ _ _ _ _)
   | (with_reducible exact LeO.refl _)
   | (with_reducible exact LeO.none _)
   | (with_reducible refine LeO.ite ?_ ?_)
   | (with_reducible refine LeO.bind ?_ (fun _=>?_))
   | exact ih0 _ _ _ _
   | exact ih1 _ _ _ _
   | exact spec_l01Seq.mono _ _ _
   | exact spec_l02Star.mono _ _ _
   | exact spec_l06Point.mono _ _ _ _ _
   | exact LeO.none _
   | refine LeO.ite ?_ ?_
   | refine LeO.bind ?_ (fun _=>?_)
theorem spec_l06Code.mono:∀ a0 a1 a2 k,LeO (spec_l06Code.f k a0 a1 a2) (spec_l06Code.f (k + 1) a0 a1 a2):=by
 intro a0 a1 a2 k
 obtain ⟨ih0,ih1⟩:=spec_l06Code.mono_l k
 unfold spec_l06Code.f
 repeat' first
   | (with_reducible exact ih0 _ _ _ _)
   | (with_reducible exact ih1 _ _ _ _)
   | (with_reducible exact spec_l01Seq.mono _ _ _)
   | (with_reducible exact spec_l02Star.mono _ _ _)
   | (with_reducible exact spec_l06Point.mono _ _ _ _ _)
   | (with_reducible exact LeO.refl _)
   | (with_reducible exact LeO.none _)
   | (with_reducible refine LeO.ite ?_ ?_)
   | (with_reducible refine LeO.bind ?_ (fun _=>?_))
   | exact ih0 _ _ _ _
   | exact ih1 _ _ _ _
   | exact spec_l01Seq.mono _ _ _
   | exact spec_l02Star.mono _ _ _
   | exact spec_l06Point.mono _ _ _ _ _
   | exact LeO.none _
   | refine LeO.ite ?_ ?_
   | refine LeO.bind ?_ (fun _=>?_)
set_option maxHeartbeats 8000000 in
set_option maxRecDepth 100000 in
theorem spec_l06Code.calls (k:Nat) (a0_0:ByteArray) (a0_1:ByteArray) (A1:Option Addr) (c1:Nat) (l1:List (S27)) (r:Int) (w:World) (hr1:Kd.C k27 w A1 l1.length l1) (hc1:l1.length ≤ c1) (h:spec_l06Code.f k a0_0 a0_1 l1 = some r) :
  Calls Try.prog 16 #[.agg #[.string a0_0,.string a0_1],.slice A1 l1.length c1] w fun e w'=>e = .returned (.int .i64 r) ∧ Below w.heap.size w w':=by
 have hu27:=Try.underlying27
 have HR1:=aM hr1;have HC1:=aM hc1
 clear hr1 hc1
 have HB:=aM (Below.refl w.heap.size w)
 have H:((spec_l01Seq.f k a0_0 a0_1).bind fun t120=>(if t120 = true then (spec_l06Code.l0 k l1 0 a0_0 a0_1) else (some 1))) = some r:=h
 clear h
 replace H:=Option.bind_eq_some_iff.mp H
 obtain ⟨t120,A30,H⟩:=H
 replace H:(if t120 = true then (spec_l06Code.l0 k l1 0 a0_0 a0_1) else (some 1)) = some r:=H;have A3:=aM A30
 clear A30
 by_cases c4:t120 = true
 ·subst c4
  have H1:(spec_l06Code.l0 k l1 0 a0_0 a0_1) = some r:=by rw [if_pos rfl] at H;exact H
  clear H
  have H:=H1
  clear H1
  have H':=aM H
  clear H
  go_enter Try.func16,Try.ntmps16
  go_wp2_with (first|((with_reducible refine gate_dst (N:=2) rfl ?_);refine box_event ?hg (N:=2) ?hd (cs:=#[.string a0_0,.string a0_1]) (t:=27) ?hr ?_;(case hd=>rfl);(case hg=>rfl);(case hr=>first|(go_simp;done)|(go_simp;rfl));intro gb119 hg w5 hbox hb;have BK119:=aM (hbox);have GW119:=wl hg HB;have GE119:=wl hg HB;replace HB:=bs HB hb;clear hb hbox hg;have⟨a0,a1,b0,b1⟩:=q2f BK119)|((with_reducible refine gate_callee (f:=28) rfl ?_);refine goesL_ (some 8) rfl rfl Try.func28 (by kernel_rfl) rfl #[.agg #[.string a0_0,.string a0_1]] rfl (by (try simp only [sM,sC,sN]);first|done|rfl|(simp only [List.length_drop,List.length_take];rfl)) ?_;(with_reducible refine (spec_l01Seq.calls k a0_0 a0_1 true _ A3.out).mono ?_);rintro e w7 ⟨rfl,hb⟩;refine ⟨_,rfl,?_⟩;replace BK119:=kb BK119 hb;replace HB:=bs HB hb;(try clear hb)))
  go_loopg [5] k (fun kq v5 w'=>∃ (x5_1:Int),v5 = .int .i64 x5_1 ∧ Aside0 (spec_l06Code.l0 kq l1 x5_1 a0_0 a0_1 = some r) ∧ Aside0 (kq ≤ k) ∧ Aside0 (w'.heap[gb119]? = some (.cells #[.string a0_0,.string a0_1] 27 (0,0))) ∧ Aside0 (Below w.heap.size w w'))
  case atStart=>exact ⟨(0),(by first|rfl|(simp;done)|(simp [*];done)),H',⟨Nat.le_refl _⟩,⟨bk BK119⟩,⟨bb HB⟩⟩
  case round =>
   clear H'
   try clear c1
   try clear c2
   try clear p2
   try clear c4
   try clear hcz6_0
   try clear hcz6_1
   try clear hfz6_0
   try clear hfz6_1
   obtain ⟨x5_1,rfl,HA,HK1,BK119,HB⟩:=hrel
   cases gk with
   | zero=>exact absurd HA.out (by simp [spec_l06Code.l0])
   | succ k1 =>
    have H:=HA.out
    clear HA
    simp only [spec_l06Code.l0] at H
    by_cases c8:x5_1 < (l1.length:Int)
    ·rw [if_pos c8] at H
     have c8b0:decide (x5_1 < (l1.length:Int)) = true:=decide_eq_true c8
     clear c8
     by_cases c9:0 ≤ x5_1
     ·rw [if_pos c9] at H
      have c9b0:decide (0 ≤ x5_1) = true:=decide_eq_true c9
      clear c9
      replace H:=Option.bind_eq_some_iff.mp H
      obtain ⟨t122,A100,H⟩:=H
      replace H:(if t122 = true then (spec_l06Code.l0 k1 l1 (wrap64 (x5_1 + 1)) a0_0 a0_1) else (some 1)) = some r:=H;have A10:=aM A100
      clear A100
      by_cases c11:t122 = true
      ·subst c11
       have H1:(spec_l06Code.l0 k1 l1 (wrap64 (x5_1 + 1)) a0_0 a0_1) = some r:=by rw [if_pos rfl] at H;exact H
       clear H
       have H:=H1
       clear H1
       have H':=aM H
       clear H
       have p121:0 ≤ (x5_1:Int):=of_decide_eq_true (by first|(with_reducible assumption)|assumption)
       have q121:x5_1 < (l1.length:Int):=of_decide_eq_true (by first|(with_reducible assumption)|assumption)
       obtain ⟨ad121,e121,hx121_0,hx121_1⟩:=at_T27 HR1.out x5_1 p121 q121
       cases e121
       replace hx121_0:=(HB.out.cell (World.block_lt_of_cell? w _ hx121_0)).trans hx121_0;replace hx121_1:=(HB.out.cell (World.block_lt_of_cell? w _ hx121_1)).trans hx121_1;replace p121:=eq_true p121;replace q121:=eq_true q121
       go_wp2_with (first|((with_reducible refine gate_callee (f:=28) rfl ?_);refine goesL_ (some 20) rfl rfl Try.func28 (by kernel_rfl) rfl #[.agg #[.string ((rd_T27 l1 x5_1).f0),.string ((rd_T27 l1 x5_1).f1)]] rfl (by (try simp only [sM,sC,sN]);first|done|rfl|(simp only [List.length_drop,List.length_take];rfl)) ?_;(with_reducible refine (spec_l01Seq.calls k1 ((rd_T27 l1 x5_1).f0) ((rd_T27 l1 x5_1).f1) true _ A10.out).mono ?_);rintro e w12 ⟨rfl,hb⟩;refine ⟨_,rfl,?_⟩;replace BK119:=kb BK119 hb;replace HB:=bs HB hb;(try clear hb)))
       go_roundg k1
       case measure=>have:=HK1.out;omega
       case rel=>exact ⟨(wrap64 (x5_1 + 1)),(by first|rfl|(simp;done)|(simp [*];done)),H',⟨by have:=HK1.out;omega⟩,⟨bk BK119⟩,⟨bb HB⟩⟩
      ·replace c11:=Bool.eq_false_iff.mpr c11
       subst c11
       have H1:(some 1) = some r:=by rw [if_neg (show ¬ (false = true) by decide)] at H;exact H
       clear H
       have H:=H1
       clear H1
       obtain rfl:=Option.some.inj H
       have p121:0 ≤ (x5_1:Int):=of_decide_eq_true (by first|(with_reducible assumption)|assumption)
       have q121:x5_1 < (l1.length:Int):=of_decide_eq_true (by first|(with_reducible assumption)|assumption)
       obtain ⟨ad121,e121,hx121_0,hx121_1⟩:=at_T27 HR1.out x5_1 p121 q121
       cases e121
       replace hx121_0:=(HB.out.cell (World.block_lt_of_cell? w _ hx121_0)).trans hx121_0;replace hx121_1:=(HB.out.cell (World.block_lt_of_cell? w _ hx121_1)).trans hx121_1;replace p121:=eq_true p121;replace q121:=eq_true q121
       go_wp2_with (first|((with_reducible refine gate_callee (f:=28) rfl ?_);refine goesL_ (some 20) rfl rfl Try.func28 (by kernel_rfl) rfl #[.agg #[.string ((rd_T27 l1 x5_1).f0),.string ((rd_T27 l1 x5_1).f1)]] rfl (by (try simp only [sM,sC,sN]);first|done|rfl|(simp only [List.length_drop,List.length_take];rfl)) ?_;(with_reducible refine (spec_l01Seq.calls k1 ((rd_T27 l1 x5_1).f0) ((rd_T27 l1 x5_1).f1) false _ A10.out).mono ?_);rintro e w13 ⟨rfl,hb⟩;refine ⟨_,rfl,?_⟩;replace BK119:=kb BK119 hb;replace HB:=bs HB hb;(try clear hb)))
       go_ret
       exact ⟨by first|rfl|(simp [errW_none,errW_some] <;> rfl)|(simp [*,errW_none,errW_some] <;> rfl),bb HB⟩
     ·rw [if_neg c9] at H
      exact absurd H (by simp)
    ·rw [if_neg c8] at H
     have c8b0:decide (x5_1 < (l1.length:Int)) = false:=decide_eq_false c8
     clear c8
     replace H:=Option.bind_eq_some_iff.mp H
     obtain ⟨t123,A140,H⟩:=H
     replace H:(if t123 = true then (spec_l06Code.l1 k1 l1 0 a0_0 a0_1) else (some 5)) = some r:=H;have A14:=aM A140
     clear A140
     by_cases c15:t123 = true
     ·subst c15
      have H1:(spec_l06Code.l1 k1 l1 0 a0_0 a0_1) = some r:=by rw [if_pos rfl] at H;exact H
      clear H
      have H:=H1
      clear H1
      have H':=aM H
      clear H
      have⟨a0,a1,b0,b1⟩:=q2f BK119
      go_wp2_with (first|((with_reducible refine gate_callee (f:=29) rfl ?_);refine goesL_ (some 23) rfl rfl Try.func29 (by kernel_rfl) rfl #[.agg #[.string a0_0,.string a0_1]] rfl (by (try simp only [sM,sC,sN]);first|done|rfl|(simp only [List.length_drop,List.length_take];rfl)) ?_;(with_reducible refine (spec_l02Star.calls k1 a0_0 a0_1 true _ A14.out).mono ?_);rintro e w17 ⟨rfl,hb⟩;refine ⟨_,rfl,?_⟩;replace BK119:=kb BK119 hb;replace HB:=bs HB hb;(try clear hb)))
      go_loopg [6] k1 (fun kq v6 w'=>∃ (x6_2:Int),v6 = .int .i64 x6_2 ∧ Aside0 (spec_l06Code.l1 kq l1 x6_2 a0_0 a0_1 = some r) ∧ Aside0 (kq ≤ k1) ∧ Aside0 (w'.heap[gb119]? = some (.cells #[.string a0_0,.string a0_1] 27 (0,0))) ∧ Aside0 (Below w.heap.size w w'))
      case atStart=>exact ⟨(0),(by first|rfl|(simp;done)|(simp [*];done)),H',⟨Nat.le_refl _⟩,⟨bk BK119⟩,⟨bb HB⟩⟩
      case round =>
       clear H'
       try clear c1
       try clear p1
       try clear q1
       try clear hx1
       try clear c2
       try clear p2
       try clear c4
       try clear p6
       try clear c8
       try clear c8b0
       try clear c9
       try clear c9b0
       try clear c11
       try clear p12
       try clear q12
       try clear hx12
       try clear c15
       try clear c16
       try clear hcz16_0
       try clear hcz16_1
       try clear hcz6_0
       try clear hcz6_1
       try clear hfz16_0
       try clear hfz16_1
       try clear hfz6_0
       try clear hfz6_1
       try clear hx121_0
       try clear hx121_1
       try clear p121
       try clear p2
       try clear q121
       obtain ⟨x6_2,rfl,HA,HK2,BK119,HB⟩:=hrel
       cases gk with
       | zero=>exact absurd HA.out (by simp [spec_l06Code.l1])
       | succ k2 =>
        have H:=HA.out
        clear HA
        simp only [spec_l06Code.l1] at H
        by_cases c18:x6_2 < (l1.length:Int)
        ·rw [if_pos c18] at H
         have c18b0:decide (x6_2 < (l1.length:Int)) = true:=decide_eq_true c18
         clear c18
         by_cases c19:0 ≤ x6_2
         ·rw [if_pos c19] at H
          have c19b0:decide (0 ≤ x6_2) = true:=decide_eq_true c19
          clear c19
          replace H:=Option.bind_eq_some_iff.mp H
          obtain ⟨t125,A200,H⟩:=H
          replace H:(if t125 = true then (spec_l06Code.l1 k2 l1 (wrap64 (x6_2 + 1)) a0_0 a0_1) else (some 5)) = some r:=H;have A20:=aM A200
          clear A200
          by_cases c21:t125 = true
          ·subst c21
           have H1:(spec_l06Code.l1 k2 l1 (wrap64 (x6_2 + 1)) a0_0 a0_1) = some r:=by rw [if_pos rfl] at H;exact H
           clear H
           have H:=H1
           clear H1
           have H':=aM H
           clear H
           try go_wp2
           replace BK119:=aM (yD BK119.out);replace HB:=aM (zD HB.out)
           have p124:0 ≤ (x6_2:Int):=of_decide_eq_true (by first|(with_reducible assumption)|assumption)
           have q124:x6_2 < (l1.length:Int):=of_decide_eq_true (by first|(with_reducible assumption)|assumption)
           obtain ⟨ad124,e124,hx124_0,hx124_1⟩:=at_T27 HR1.out x6_2 p124 q124
           have hw124_1:=hx124_1
           have hw124_0:=hx124_0
           cases e124
           replace hx124_0:=(HB.out.cell (World.block_lt_of_cell? w _ hx124_0)).trans hx124_0;replace hx124_1:=(HB.out.cell (World.block_lt_of_cell? w _ hx124_1)).trans hx124_1;replace p124:=eq_true p124;replace q124:=eq_true q124
           refine start_ (n:=7) (S:=fun w'=>w'.cell? ⟨gb119,0,none⟩ = some (.string a0_0) ∧ w'.cell? ⟨gb119,1,none⟩ = some (.string a0_1) ∧ w'.cell? (ad124.add ((x6_2).toNat * 2)) = some (.string ((rd_T27 l1 x6_2).f0)) ∧ w'.cell? ⟨(ad124.add ((x6_2).toNat * 2)).block,(ad124.add ((x6_2).toNat * 2)).off + 1,none⟩ = some (.string ((rd_T27 l1 x6_2).f1))) (ds:=[]) #[fF,fF,fF,fF,fF,fF,fF] (by kernel_rfl) rfl rfl ⟨(blk_cell BK119.out 0).trans rfl,(blk_cell BK119.out 1).trans rfl,((HB.out.cell (World.block_lt_of_cell? w _ hw124_0)).trans hw124_0),((HB.out.cell (World.block_lt_of_cell? w _ hw124_1)).trans hw124_1)⟩ (fun hHeld=>?_)
           generalize wr.drew = w22 at BK119 HB hx124_0 hx124_1 hHeld ⊢
           refine pure_ (i:=1) (N:=some 32) (v:=?_) (a':=?_) #[fF,tT,fF,fF,fF,fF,fF] rfl rfl (by kernel_rfl) (fun _ _ _ h=>h) (Or.inl ⟨by rfl,?_⟩) ?_ ?_
           rotate_left
           ·intro w'
            go_simp
            with_reducible rfl
           rotate_left
           ·simp only [Act.put,sI,sZ,sS,i64_w,i32_w]
            rfl
           refine pure_ (i:=2) (N:=some 33) (v:=?_) (a':=?_) #[fF,tT,tT,fF,fF,fF,fF] rfl rfl (by kernel_rfl) (fun _ _ _ h=>h) (Or.inl ⟨by rfl,?_⟩) ?_ ?_
           rotate_left
           ·intro w'
            go_simp
            with_reducible rfl
           rotate_left
           ·simp only [Act.put,sI,sZ,sS,i64_w,i32_w]
            rfl
           refine pure_ (i:=3) (N:=some 34) (v:=?_) (a':=?_) #[fF,tT,tT,tT,fF,fF,fF] rfl rfl (by kernel_rfl) (fun _ _ _ h=>h) (Or.inl ⟨by rfl,?_⟩) ?_ ?_
           rotate_left
           ·intro w'
            go_simp
            with_reducible rfl
           rotate_left
           ·simp only [Act.put,sI,sZ,sS,i64_w,i32_w]
            rfl
           refine take_ (i:=0) (N:=some 31) (v:=?_) (a':=?_) #[tT,tT,tT,tT,fF,fF,fF] rfl rfl (by kernel_rfl) (fun _ _ _ h=>h) (Or.inl ⟨by rfl,?_⟩) hHeld ?_ ?_
           rotate_left
           ·rintro w' ⟨s0,s1,s2,s3⟩
            go_simp
            with_reducible rfl
           rotate_left
           ·simp only [Act.put,sI,sZ,sS,i64_w,i32_w]
            rfl
           refine take_ (i:=4) (N:=some 35) (v:=?_) (a':=?_) #[tT,tT,tT,tT,tT,fF,fF] rfl rfl (by kernel_rfl) (fun _ _ _ h=>h) (Or.inl ⟨by rfl,?_⟩) hHeld ?_ ?_
           rotate_left
           ·rintro w' ⟨s0,s1,s2,s3⟩
            go_simp
            with_reducible rfl
           rotate_left
           ·simp only [Act.put,sI,sZ,sS,i64_w,i32_w]
            rfl
           refine one_ (i:=5) (N:=some 36) #[tT,tT,tT,tT,tT,tT,fF] rfl rfl (by kernel_rfl) (by decide) (fun K hK=>?_)
           refine goes_ Try.func30 (by kernel_rfl) rfl #[.agg #[.string a0_0,.string a0_1],.agg #[.string ((rd_T27 l1 x6_2).f0),.string ((rd_T27 l1 x6_2).f1)]] (by rfl) rfl rfl (by (try simp only [sM,sC,sN]);first|done|rfl|(simp only [List.length_drop,List.length_take];rfl)) ?_
           with_reducible refine (spec_l06Point.calls k2 a0_0 a0_1 ((rd_T27 l1 x6_2).f0) ((rd_T27 l1 x6_2).f1) true _ A20.out).mono ?_
           rintro e w23 ⟨rfl,hb⟩
           refine ⟨_,rfl,?_⟩
           replace BK119:=kb BK119 hb;replace HB:=bs HB hb;(try clear hb)
           refine hK.out _ _ ⟨(blk_cell BK119.out 0).trans rfl,(blk_cell BK119.out 1).trans rfl,((HB.out.cell (World.block_lt_of_cell? w _ hw124_0)).trans hw124_0),((HB.out.cell (World.block_lt_of_cell? w _ hw124_1)).trans hw124_1)⟩ (fun hHeld=>?_)
           clear hK K
           refine norm_ (a':=?_) ?_ ?_
           rotate_left
           ·show Act.put _ (some 36) _ = _
            simp only [Act.put,sI,sZ,sS,i64_w,i32_w]
            rfl
           refine pure_ (i:=6) (N:=some 37) (v:=?_) (a':=?_) #[tT,tT,tT,tT,tT,tT,tT] rfl rfl (by kernel_rfl) (fun _ _ _ h=>h) (Or.inl ⟨by rfl,?_⟩) ?_ ?_
           rotate_left
           ·intro w'
            go_simp
            with_reducible rfl
           rotate_left
           ·simp only [Act.put,sI,sZ,sS,i64_w,i32_w]
            rfl
           refine done_ (by kernel_rfl) ?_
           try go_wp2
           go_roundg k2
           case measure=>have:=HK1.out;have:=HK2.out;omega
           case rel=>exact ⟨(wrap64 (x6_2 + 1)),(by first|rfl|(simp;done)|(simp [*];done)),H',⟨by have:=HK1.out;have:=HK2.out;omega⟩,⟨bk BK119⟩,⟨bb HB⟩⟩
          ·replace c21:=Bool.eq_false_iff.mpr c21
           subst c21
           have H1:(some 5) = some r:=by rw [if_neg (show ¬ (false = true) by decide)] at H;exact H
           clear H
           have H:=H1
           clear H1
           obtain rfl:=Option.some.inj H
           try go_wp2
           replace BK119:=aM (yD BK119.out);replace HB:=aM (zD HB.out)
           have p124:0 ≤ (x6_2:Int):=of_decide_eq_true (by first|(with_reducible assumption)|assumption)
           have q124:x6_2 < (l1.length:Int):=of_decide_eq_true (by first|(with_reducible assumption)|assumption)
           obtain ⟨ad124,e124,hx124_0,hx124_1⟩:=at_T27 HR1.out x6_2 p124 q124
           have hw124_1:=hx124_1
           have hw124_0:=hx124_0
           cases e124
           replace hx124_0:=(HB.out.cell (World.block_lt_of_cell? w _ hx124_0)).trans hx124_0;replace hx124_1:=(HB.out.cell (World.block_lt_of_cell? w _ hx124_1)).trans hx124_1;replace p124:=eq_true p124;replace q124:=eq_true q124
           refine start_ (n:=7) (S:=fun w'=>w'.cell? ⟨gb119,0,none⟩ = some (.string a0_0) ∧ w'.cell? ⟨gb119,1,none⟩ = some (.string a0_1) ∧ w'.cell? (ad124.add ((x6_2).toNat * 2)) = some (.string ((rd_T27 l1 x6_2).f0)) ∧ w'.cell? ⟨(ad124.add ((x6_2).toNat * 2)).block,(ad124.add ((x6_2).toNat * 2)).off + 1,none⟩ = some (.string ((rd_T27 l1 x6_2).f1))) (ds:=[]) #[fF,fF,fF,fF,fF,fF,fF] (by kernel_rfl) rfl rfl ⟨(blk_cell BK119.out 0).trans rfl,(blk_cell BK119.out 1).trans rfl,((HB.out.cell (World.block_lt_of_cell? w _ hw124_0)).trans hw124_0),((HB.out.cell (World.block_lt_of_cell? w _ hw124_1)).trans hw124_1)⟩ (fun hHeld=>?_)
           generalize wr.drew = w24 at BK119 HB hx124_0 hx124_1 hHeld ⊢
           refine pure_ (i:=1) (N:=some 32) (v:=?_) (a':=?_) #[fF,tT,fF,fF,fF,fF,fF] rfl rfl (by kernel_rfl) (fun _ _ _ h=>h) (Or.inl ⟨by rfl,?_⟩) ?_ ?_
           rotate_left
           ·intro w'
            go_simp
            with_reducible rfl
           rotate_left
           ·simp only [Act.put,sI,sZ,sS,i64_w,i32_w]
            rfl
           refine pure_ (i:=2) (N:=some 33) (v:=?_) (a':=?_) #[fF,tT,tT,fF,fF,fF,fF] rfl rfl (by kernel_rfl) (fun _ _ _ h=>h) (Or.inl ⟨by rfl,?_⟩) ?_ ?_
           rotate_left
           ·intro w'
            go_simp
            with_reducible rfl
           rotate_left
           ·simp only [Act.put,sI,sZ,sS,i64_w,i32_w]
            rfl
           refine pure_ (i:=3) (N:=some 34) (v:=?_) (a':=?_) #[fF,tT,tT,tT,fF,fF,fF] rfl rfl (by kernel_rfl) (fun _ _ _ h=>h) (Or.inl ⟨by rfl,?_⟩) ?_ ?_
           rotate_left
           ·intro w'
            go_simp
            with_reducible rfl
           rotate_left
           ·simp only [Act.put,sI,sZ,sS,i64_w,i32_w]
            rfl
           refine take_ (i:=0) (N:=some 31) (v:=?_) (a':=?_) #[tT,tT,tT,tT,fF,fF,fF] rfl rfl (by kernel_rfl) (fun _ _ _ h=>h) (Or.inl ⟨by rfl,?_⟩) hHeld ?_ ?_
           rotate_left
           ·rintro w' ⟨s0,s1,s2,s3⟩
            go_simp
            with_reducible rfl
           rotate_left
           ·simp only [Act.put,sI,sZ,sS,i64_w,i32_w]
            rfl
           refine take_ (i:=4) (N:=some 35) (v:=?_) (a':=?_) #[tT,tT,tT,tT,tT,fF,fF] rfl rfl (by kernel_rfl) (fun _ _ _ h=>h) (Or.inl ⟨by rfl,?_⟩) hHeld ?_ ?_
           rotate_left
           ·rintro w' ⟨s0,s1,s2,s3⟩
            go_simp
            with_reducible rfl
           rotate_left
           ·simp only [Act.put,sI,sZ,sS,i64_w,i32_w]
            rfl
           refine one_ (i:=5) (N:=some 36) #[tT,tT,tT,tT,tT,tT,fF] rfl rfl (by kernel_rfl) (by decide) (fun K hK=>?_)
           refine goes_ Try.func30 (by kernel_rfl) rfl #[.agg #[.string a0_0,.string a0_1],.agg #[.string ((rd_T27 l1 x6_2).f0),.string ((rd_T27 l1 x6_2).f1)]] (by rfl) rfl rfl (by (try simp only [sM,sC,sN]);first|done|rfl|(simp only [List.length_drop,List.length_take];rfl)) ?_
           with_reducible refine (spec_l06Point.calls k2 a0_0 a0_1 ((rd_T27 l1 x6_2).f0) ((rd_T27 l1 x6_2).f1) false _ A20.out).mono ?_
           rintro e w25 ⟨rfl,hb⟩
           refine ⟨_,rfl,?_⟩
           replace BK119:=kb BK119 hb;replace HB:=bs HB hb;(try clear hb)
           refine hK.out _ _ ⟨(blk_cell BK119.out 0).trans rfl,(blk_cell BK119.out 1).trans rfl,((HB.out.cell (World.block_lt_of_cell? w _ hw124_0)).trans hw124_0),((HB.out.cell (World.block_lt_of_cell? w _ hw124_1)).trans hw124_1)⟩ (fun hHeld=>?_)
           clear hK K
           refine norm_ (a':=?_) ?_ ?_
           rotate_left
           ·show Act.put _ (some 36) _ = _
            simp only [Act.put,sI,sZ,sS,i64_w,i32_w]
            rfl
           refine pure_ (i:=6) (N:=some 37) (v:=?_) (a':=?_) #[tT,tT,tT,tT,tT,tT,tT] rfl rfl (by kernel_rfl) (fun _ _ _ h=>h) (Or.inl ⟨by rfl,?_⟩) ?_ ?_
           rotate_left
           ·intro w'
            go_simp
            with_reducible rfl
           rotate_left
           ·simp only [Act.put,sI,sZ,sS,i64_w,i32_w]
            rfl
           refine done_ (by kernel_rfl) ?_
           try go_wp2
           go_ret
           exact ⟨by first|rfl|(simp [errW_none,errW_some] <;> rfl)|(simp [*,errW_none,errW_some] <;> rfl),bb HB⟩
         ·rw [if_neg c19] at H
          exact absurd H (by simp)
        ·rw [if_neg c18] at H
         have c18b0:decide (x6_2 < (l1.length:Int)) = false:=decide_eq_false c18
         clear c18
         obtain rfl:=Option.some.inj H
         go_wp2
         go_ret
         exact ⟨by first|rfl|(simp [errW_none,errW_some] <;> rfl)|(simp [*,errW_none,errW_some] <;> rfl),bb HB⟩
     ·replace c15:=Bool.eq_false_iff.mpr c15
      subst c15
      have H1:(some 5) = some r:=by rw [if_neg (show ¬ (false = true) by decide)] at H;exact H
      clear H
      have H:=H1
      clear H1
      obtain rfl:=Option.some.inj H
      have⟨a0,a1,b0,b1⟩:=q2f BK119
      go_wp2_with (first|((with_reducible refine gate_callee (f:=29) rfl ?_);refine goesL_ (some 23) rfl rfl Try.func29 (by kernel_rfl) rfl #[.agg #[.string a0_0,.string a0_1]] rfl (by (try simp only [sM,sC,sN]);first|done|rfl|(simp only [List.length_drop,List.length_take];rfl)) ?_;(with_reducible refine (spec_l02Star.calls k1 a0_0 a0_1 false _ A14.out).mono ?_);rintro e w27 ⟨rfl,hb⟩;refine ⟨_,rfl,?_⟩;replace BK119:=kb BK119 hb;replace HB:=bs HB hb;(try clear hb)))
      go_ret
      exact ⟨by first|rfl|(simp [errW_none,errW_some] <;> rfl)|(simp [*,errW_none,errW_some] <;> rfl),bb HB⟩
 ·replace c4:=Bool.eq_false_iff.mpr c4
  subst c4
  have H1:(some 1) = some r:=by rw [if_neg (show ¬ (false = true) by decide)] at H;exact H
  clear H
  have H:=H1
  clear H1
  obtain rfl:=Option.some.inj H
  go_enter Try.func16,Try.ntmps16
  go_wp2_with (first|((with_reducible refine gate_dst (N:=2) rfl ?_);refine box_event ?hg (N:=2) ?hd (cs:=#[.string a0_0,.string a0_1]) (t:=27) ?hr ?_;(case hd=>rfl);(case hg=>rfl);(case hr=>first|(go_simp;done)|(go_simp;rfl));intro gb119 hg w28 hbox hb;have BK119:=aM (hbox);have GW119:=wl hg HB;have GE119:=wl hg HB;replace HB:=bs HB hb;clear hb hbox hg;have⟨a0,a1,b0,b1⟩:=q2f BK119)|((with_reducible refine gate_callee (f:=28) rfl ?_);refine goesL_ (some 8) rfl rfl Try.func28 (by kernel_rfl) rfl #[.agg #[.string a0_0,.string a0_1]] rfl (by (try simp only [sM,sC,sN]);first|done|rfl|(simp only [List.length_drop,List.length_take];rfl)) ?_;(with_reducible refine (spec_l01Seq.calls k a0_0 a0_1 false _ A3.out).mono ?_);rintro e w30 ⟨rfl,hb⟩;refine ⟨_,rfl,?_⟩;replace BK119:=kb BK119 hb;replace HB:=bs HB hb;(try clear hb)))
  go_ret
  exact ⟨by first|rfl|(simp [errW_none,errW_some] <;> rfl)|(simp [*,errW_none,errW_some] <;> rfl),bb HB⟩
end Go.Proofs.Ytbiehbmojbmnoaa.Q
end
