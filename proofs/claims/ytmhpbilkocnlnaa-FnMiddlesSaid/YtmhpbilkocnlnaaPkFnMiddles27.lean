/- Joined texts: DrawL -/
import Derived.Test.YtmhpbilkocnlnaaPkFnMiddles26
section
namespace Go.Proofs.Ytmhpbilkocnlnaa.Q
open Go.Proofs.YtmhpbilkocnlnaaW.Ext Go.Proofs.Ytmhpbilkocnlnaa.Ang
open Go.RowKit Go.Proofs.YtmhpbilkocnlnaaW.PrintWords Go.Proofs.YtmhpbilkocnlnaaW.PrintLast Go.Proofs.YtmhpbilkocnlnaaW.PrintMore
attribute [local go_sem] max2_int min2_int max_two min_two max_three min_three max_four min_four
set_option linter.unusedVariables false
set_option linter.unusedSimpArgs false
section
variable {w0 w:World} {g:Nat} {c:List Int}
end
theorem hs {w W V V2:World} [s:Sw w.heap.size W V] (HB:Aside0 (Below w.heap.size w W)) (hb:Below V.heap.size V V2):Aside0 (Below w.heap.size w V2):=⟨below_step (swB HB.out) hb⟩
theorem bytes_of {l:List Int} (h:laws_big.f l = some false) (hw:∀ x ∈ l,(Lit.int .u8 x).wf = true):bytesL l:=by
 unfold laws_big.f at h
 injection h with h
 have h:=of_decide_eq_false h
 refine ⟨by omega,fun x hx=>?_⟩
 have:=hw x hx
 simp [Lit.wf,IntKind.min,IntKind.max,IntKind.bits,IntKind.signed] at this
 omega
section
variable {w:World} {A:Option Addr} {n:Nat} {l:List Int}
def dT25:Bool × List (List Nat × List Nat):=(true,[([],[]),([],[]),([],[]),([1,2],[1,2]),([3],[3]),([0,4],[0,4]),([5],[5]),([6],[6]),([6],[6]),([7,5,0,1,2,3,4,5,6,7],[7]),([8,9,0,1,2,3,4,5,6,7,8,9],[8])])
theorem dtab25:rtab .any (opsOf Try.f3 25) = dT25:=by kernel_rfl
theorem dbits25:waitsOk dT25.2 [0,0,0,6,14,31,63,127,127,255,1023] = true:=by kernel_rfl
set_option maxHeartbeats 16000000 in
set_option maxRecDepth 100000 in
theorem lawM (hr:Kd.C (Kd.int .u8) w A l.length l) (hn:l.length ≤ n) (hw:∀ x ∈ l,(Lit.int .u8 x).wf = true):Calls Try.prog 3 #[.slice A l.length n] w fun e w'=>e = .returned (.bool true) ∧ Below w.heap.size w w':=by
 have hu25:=Try.underlying25
 have HB:=aM (Below.refl w.heap.size w)
 obtain ⟨b,hbig⟩:∃ b,laws_big.f l = some b:=⟨_,rfl⟩
 go_enter Try.func3,Try.ntmps3
 cases b
 rotate_left
 ·go_wp2_with ((with_reducible refine gate_callee (f:=4) rfl ?_);refine goesL_ (some 36) rfl rfl Try.func4 (by kernel_rfl) rfl #[.slice A l.length n] rfl (by (try simp only [sM,sC,sN]);first|done|rfl) ?_;refine Calls.mono (laws_big.calls A n l true _ (Kd.C_below hr (bb HB)) hn hbig) ?_;(try (case sS=>exact (st S).re));rintro e w4 ⟨rfl,⟨nd,rfl⟩⟩;refine ⟨_,rfl,?_⟩;skip)
  go_ret
  exact ⟨rfl,bb HB⟩
 have Hc:=bytes_of hbig hw
 go_upto_region 13 with (first
  | ((with_reducible refine gate_callee (f:=4) rfl ?_);refine goesL_ (some 36) rfl rfl Try.func4 (by kernel_rfl) rfl #[.slice A l.length n] rfl (by (try simp only [sM,sC,sN]);first|done|rfl) ?_;refine Calls.mono (laws_big.calls A n l false _ (Kd.C_below hr (bb HB)) hn hbig) ?_;(try (case sS=>exact (st S).re));rintro e w4 ⟨rfl,⟨nd,rfl⟩⟩;refine ⟨_,rfl,?_⟩;skip)
  | ((with_reducible refine gate_callee (f:=5) rfl ?_);refine goesL_ (some 39) rfl rfl Try.func5 (by kernel_rfl) rfl #[.slice A l.length n] rfl (by (try simp only [sM,sC,sN]);first|done|rfl) ?_;refine Calls.mono (draw5 (Kd.C_below hr (bb HB)) hn Hc) ?_;(try (case sS=>exact (st S).re));rintro e w4 ⟨p,q,p1,q1,rfl,z0,z1,hb⟩;refine ⟨_,rfl,?_⟩;replace HB:=hs HB hb;clear hb;obtain ⟨y1,e1,⟨K2,h2⟩,⟨K1,h1⟩⟩:=both_ispoint (p,q) (p1,q1) (show p.size + q.size ≤ _ by omega) (show p1.size + q1.size ≤ _ by omega);dsimp only at h1 h2)
  | ((with_reducible refine gate_dst (N:=3) rfl ?_);refine box_event rfl (N:=3) rfl (cs:=#[.string ⟨#[]⟩,.string ⟨#[]⟩]) (t:=25) (by first|(go_simp;done)|(go_simp;rfl)) ?_;intro k3 hg w1 hbox hb;have G3:Ge w.heap.size k3:=⟨hg ▸ (swB HB.out).size⟩;replace HB:=hs HB hb;have BK3:=aM hbox;have ⟨x3,y3,r3,d3⟩:=q2f BK3;clear hb hbox hg)
  | ((with_reducible refine gate_dst (N:=4) rfl ?_);refine box_event rfl (N:=4) rfl (cs:=#[.string ⟨#[]⟩,.string ⟨#[]⟩]) (t:=25) (by first|(go_simp;done)|(go_simp;rfl)) ?_;intro k4 hg w1 hbox hb;have G4:Ge w.heap.size k4:=⟨hg ▸ (swB HB.out).size⟩;have N3_4:=neN BK3 hg;have N4_3:=neN' BK3 hg;have n3_4:=N3_4.h;have n4_3:=N4_3.h;replace HB:=hs HB hb;replace BK3:=bnB BK3 hb;have BK4:=aM hbox;have ⟨x4,y4,r4,d4⟩:=q2f BK4;have ⟨x3,y3,r3,d3⟩:=q2f BK3;clear hb hbox hg)
  | ((with_reducible refine gate_callee (f:=6) rfl ?_);refine goesL_ (some 45) rfl rfl Try.func6 (by kernel_rfl) rfl #[.agg #[.string p,.string q],.agg #[.string p1,.string q1]] rfl (by (try simp only [sM,sC,sN]);first|done|rfl) ?_;refine Calls.mono (impl_IsPointOf.calls K1 p q p1 q1 y1 e1 _ (h1 K1 (Nat.le_refl _))) ?_;(try (case sS=>exact (st S).re));rintro e w4 ⟨rfl,hb⟩;refine ⟨_,rfl,?_⟩;have F3:=aM (far2 (x:=.string p1) (y:=.string q1) (b2 (V:=w1) (p:=.string p) (q:=.string q) BK3) n3_4);have F4:=aM (b2 (V:=((w1.setCell ⟨k3,0,none⟩ (.string p)).setCell ⟨k3,1,none⟩ (.string q))) (p:=.string p1) (q:=.string q1) BK4);replace BK3:=bnB F3 hb;clear F3;replace BK4:=bnB F4 hb;clear F4;replace HB:=hs HB hb;clear hb;have ⟨x3,y3,r3,d3⟩:=q2f BK3;have ⟨x4,y4,r4,d4⟩:=q2f BK4)
  | ((with_reducible refine gate_callee (f:=7) rfl ?_);refine goesL_ (some 51) rfl rfl Try.func7 (by kernel_rfl) rfl #[.agg #[.string p,.string q],.agg #[.string p1,.string q1]] rfl (by (try simp only [sM,sC,sN]);first|done|rfl) ?_;refine Calls.mono (spec_IsPointOf.calls K2 p q p1 q1 y1 e1 _ (h2 K2 (Nat.le_refl _))) ?_;(try (case sS=>exact (st S).re));rintro e w4 ⟨rfl,hb⟩;refine ⟨_,rfl,?_⟩;replace HB:=hs HB hb;clear hb;clear BK3 BK4 x3 y3 r3 d3 x4 y4 r4 d4)
  | ((with_reducible refine gate_callee (f:=8) rfl ?_);refine goesL_ (some 63) rfl rfl Try.func8 (by kernel_rfl) rfl #[.slice A l.length n] rfl (by (try simp only [sM,sC,sN]);first|done|rfl) ?_;refine Calls.mono (draw8 (Kd.C_below hr (bb HB)) hn Hc) ?_;(try (case sS=>exact (st S).re));rintro e w4 ⟨op,oq,rfl,z0,hb⟩;refine ⟨_,rfl,?_⟩;replace HB:=hs HB hb;clear hb;obtain ⟨L,e2,hL,⟨K4,h4⟩,⟨K3,h3⟩,hpt⟩:=orbit_law (op,oq) (show op.size + oq.size ≤ _ by omega);dsimp only at h3 h4 hpt;obtain ⟨K5,h5⟩:=words9_self L hL)
  | ((with_reducible refine gate_dst (N:=9) rfl ?_);refine box_event rfl (N:=9) rfl (cs:=#[.string ⟨#[]⟩,.string ⟨#[]⟩]) (t:=25) (by first|(go_simp;done)|(go_simp;rfl)) ?_;intro k9 hg w1 hbox hb;have G9:Ge w.heap.size k9:=⟨hg ▸ (swB HB.out).size⟩;replace HB:=hs HB hb;have BK9:=aM hbox;have ⟨x9,y9,r9,d9⟩:=q2f BK9;clear hb hbox hg)
  | ((with_reducible refine gate_callee (f:=9) rfl ?_);refine goesL_ (some 66) rfl rfl Try.func9 (by kernel_rfl) rfl #[.agg #[.string op,.string oq]] rfl (by (try simp only [sM,sC,sN]);first|done|rfl) ?_;refine Calls.mono (impl_OrbitPoints.calls K3 op oq L e2 _ (h3 K3 (Nat.le_refl _))) ?_;(try (case sS=>exact (st S).re));rintro e w4 ⟨v1,rfl,R1,hb⟩;refine ⟨_,rfl,?_⟩;have F9:=aM (b2 (V:=w1) (p:=.string op) (q:=.string oq) BK9);replace BK9:=bnB F9 hb;clear F9;replace HB:=hs HB hb;clear hb;have ⟨x9,y9,r9,d9⟩:=q2f BK9;obtain ⟨A1,n1,rfl⟩:=Kd.R_slice R1;replace R1:=aM R1)
  | ((with_reducible refine gate_callee (f:=10) rfl ?_);refine goesL_ (some 71) rfl rfl Try.func10 (by kernel_rfl) rfl #[.agg #[.string op,.string oq]] rfl (by (try simp only [sM,sC,sN]);first|done|rfl) ?_;refine Calls.mono (spec_OrbitPoints.calls K4 op oq L e2 _ (h4 K4 (Nat.le_refl _))) ?_;(try (case sS=>exact (st S).re));rintro e w4 ⟨v1,rfl,R2,hb⟩;refine ⟨_,rfl,?_⟩;replace BK9:=bnB BK9 hb;have HB0:=hb;replace HB:=hs HB hb;clear hb;replace R1:=ko R1 HB0;obtain ⟨A2,n2,rfl⟩:=Kd.R_slice R2;replace R2:=aM R2)
  | (go_at_call 11;refine Calls.mono (laws_words9.calls K5 A1 n1 L A2 n2 L true _ (Kd.R_reads' (rk R1)).2.2 (Kd.R_reads' R1.out).2.1 (Kd.R_reads' (rk R2)).2.2 (Kd.R_reads' R2.out).2.1 (h5 K5 (Nat.le_refl _))) ?_;rintro e w4 ⟨rfl,⟨nd,rfl⟩⟩))
 have HW:=bb HB (V:=w4.drewN nd)
 have C1:=(Kd.R_reads' (rk R1 (V:=w4.drewN nd))).2.2
 have hn1:=(Kd.R_reads' R1.out).2.1
 have B9:=bn BK9 (V:=w4.drewN nd)
 replace hr:=Kd.C_below hr HW
 clear HB R1 R2 BK9 x9 y9 r9 d9 G9
 generalize w4.drewN nd = v at HW C1 B9 hr ⊢
 have HB:=aM (Below.refl v.heap.size v)
 go_upto_region 22 with (first
  | ((with_reducible refine gate_callee (f:=12) rfl ?_);refine goesL_ (some 85) rfl rfl Try.func12 (by kernel_rfl) rfl #[.slice A l.length n] rfl (by (try simp only [sM,sC,sN]);first|done|rfl) ?_;refine Calls.mono (draw12 (Kd.C_below hr (bb HB)) hn Hc) ?_;(try (case sS=>exact (st S).re));rintro e w4 ⟨wp,wq,sp,sq,tp,tq,up,uq,rfl,z1,z2,z3,z4,hb⟩;refine ⟨_,rfl,?_⟩;replace HB:=hs HB hb;clear hb;obtain ⟨a,b,e3,y2,⟨K6,h6⟩,⟨K7,h7⟩,⟨K8,h8⟩,⟨K9,h9⟩,hor⟩:=mid_law (wp,wq) (sp,sq) (tp,tq) (up,uq) (show wp.size + wq.size ≤ _ by omega) (show sp.size + sq.size ≤ _ by omega) (show tp.size + tq.size ≤ _ by omega) (show up.size + uq.size ≤ _ by omega);dsimp only at h6 h7 h8 h9 hor)
  | ((with_reducible refine gate_dst (N:=14) rfl ?_);refine box_event rfl (N:=14) rfl (cs:=#[.string ⟨#[]⟩,.string ⟨#[]⟩]) (t:=25) (by first|(go_simp;done)|(go_simp;rfl)) ?_;intro k14 hg w1 hbox hb;have G14:Ge v.heap.size k14:=⟨hg ▸ (swB HB.out).size⟩;replace HB:=hs HB hb;have BK14:=aM hbox;have ⟨x14,y14,r14,d14⟩:=q2f BK14;clear hb hbox hg)
  | ((with_reducible refine gate_dst (N:=15) rfl ?_);refine box_event rfl (N:=15) rfl (cs:=#[.string ⟨#[]⟩,.string ⟨#[]⟩]) (t:=25) (by first|(go_simp;done)|(go_simp;rfl)) ?_;intro k15 hg w1 hbox hb;have G15:Ge v.heap.size k15:=⟨hg ▸ (swB HB.out).size⟩;have N14_15:=neN BK14 hg;have N15_14:=neN' BK14 hg;have n14_15:=N14_15.h;have n15_14:=N15_14.h;replace HB:=hs HB hb;replace BK14:=bnB BK14 hb;have BK15:=aM hbox;have ⟨x15,y15,r15,d15⟩:=q2f BK15;clear hb hbox hg)
  | ((with_reducible refine gate_dst (N:=16) rfl ?_);refine box_event rfl (N:=16) rfl (cs:=#[.string ⟨#[]⟩,.string ⟨#[]⟩]) (t:=25) (by first|(go_simp;done)|(go_simp;rfl)) ?_;intro k16 hg w1 hbox hb;have G16:Ge v.heap.size k16:=⟨hg ▸ (swB HB.out).size⟩;have N14_16:=neN BK14 hg;have N16_14:=neN' BK14 hg;have n14_16:=N14_16.h;have n16_14:=N16_14.h;have N15_16:=neN BK15 hg;have N16_15:=neN' BK15 hg;have n15_16:=N15_16.h;have n16_15:=N16_15.h;replace HB:=hs HB hb;replace BK14:=bnB BK14 hb;replace BK15:=bnB BK15 hb;have BK16:=aM hbox;have ⟨x16,y16,r16,d16⟩:=q2f BK16;clear hb hbox hg)
  | ((with_reducible refine gate_dst (N:=17) rfl ?_);refine box_event rfl (N:=17) rfl (cs:=#[.string ⟨#[]⟩,.string ⟨#[]⟩]) (t:=25) (by first|(go_simp;done)|(go_simp;rfl)) ?_;intro k17 hg w1 hbox hb;have G17:Ge v.heap.size k17:=⟨hg ▸ (swB HB.out).size⟩;have N14_17:=neN BK14 hg;have N17_14:=neN' BK14 hg;have n14_17:=N14_17.h;have n17_14:=N17_14.h;have N15_17:=neN BK15 hg;have N17_15:=neN' BK15 hg;have n15_17:=N15_17.h;have n17_15:=N17_15.h;have N16_17:=neN BK16 hg;have N17_16:=neN' BK16 hg;have n16_17:=N16_17.h;have n17_16:=N17_16.h;replace HB:=hs HB hb;replace BK14:=bnB BK14 hb;replace BK15:=bnB BK15 hb;replace BK16:=bnB BK16 hb;have BK17:=aM hbox;have ⟨x17,y17,r17,d17⟩:=q2f BK17;have ⟨x14,y14,r14,d14⟩:=q2f BK14;have ⟨x15,y15,r15,d15⟩:=q2f BK15;have ⟨x16,y16,r16,d16⟩:=q2f BK16;clear hb hbox hg)
  | ((with_reducible refine gate_callee (f:=13) rfl ?_);refine goesL_ (some 95) rfl rfl Try.func13 (by kernel_rfl) rfl #[.agg #[.string wp,.string wq],.agg #[.string sp,.string sq],.agg #[.string tp,.string tq],.agg #[.string up,.string uq]] rfl (by (try simp only [sM,sC,sN]);first|done|rfl) ?_;refine Calls.mono (impl_MiddleOf.calls K6 wp wq sp sq tp tq up uq a b e3 _ (h6 K6 (Nat.le_refl _))) ?_;(try (case sS=>exact (st S).re));rintro e w4 ⟨rfl,hb⟩;refine ⟨_,rfl,?_⟩;have F14:=aM (far2 (x:=.string up) (y:=.string uq) (far2 (x:=.string tp) (y:=.string tq) (far2 (x:=.string sp) (y:=.string sq) (b2 (V:=w1) (p:=.string wp) (q:=.string wq) BK14) n14_15) n14_16) n14_17);have F15:=aM (far2 (x:=.string up) (y:=.string uq) (far2 (x:=.string tp) (y:=.string tq) (b2 (V:=((w1.setCell ⟨k14,0,none⟩ (.string wp)).setCell ⟨k14,1,none⟩ (.string wq))) (p:=.string sp) (q:=.string sq) BK15) n15_16) n15_17);have F16:=aM (far2 (x:=.string up) (y:=.string uq) (b2 (V:=((((w1.setCell ⟨k14,0,none⟩ (.string wp)).setCell ⟨k14,1,none⟩ (.string wq)).setCell ⟨k15,0,none⟩ (.string sp)).setCell ⟨k15,1,none⟩ (.string sq))) (p:=.string tp) (q:=.string tq) BK16) n16_17);have F17:=aM (b2 (V:=((((((w1.setCell ⟨k14,0,none⟩ (.string wp)).setCell ⟨k14,1,none⟩ (.string wq)).setCell ⟨k15,0,none⟩ (.string sp)).setCell ⟨k15,1,none⟩ (.string sq)).setCell ⟨k16,0,none⟩ (.string tp)).setCell ⟨k16,1,none⟩ (.string tq))) (p:=.string up) (q:=.string uq) BK17);replace BK14:=bnB F14 hb;clear F14;replace BK15:=bnB F15 hb;clear F15;replace BK16:=bnB F16 hb;clear F16;replace BK17:=bnB F17 hb;clear F17;replace HB:=hs HB hb;clear hb)
  | ((with_reducible refine gate_dst (N:=18) rfl ?_);refine box_event rfl (N:=18) rfl (cs:=#[.string ⟨#[]⟩,.string ⟨#[]⟩]) (t:=25) (by first|(go_simp;done)|(go_simp;rfl)) ?_;intro k18 hg w1 hbox hb;have G18:Ge v.heap.size k18:=⟨hg ▸ (swB HB.out).size⟩;have N14_18:=neN BK14 hg;have N18_14:=neN' BK14 hg;have n14_18:=N14_18.h;have n18_14:=N18_14.h;have N15_18:=neN BK15 hg;have N18_15:=neN' BK15 hg;have n15_18:=N15_18.h;have n18_15:=N18_15.h;have N16_18:=neN BK16 hg;have N18_16:=neN' BK16 hg;have n16_18:=N16_18.h;have n18_16:=N18_16.h;have N17_18:=neN BK17 hg;have N18_17:=neN' BK17 hg;have n17_18:=N17_18.h;have n18_17:=N18_17.h;replace HB:=hs HB hb;replace BK14:=bnB BK14 hb;replace BK15:=bnB BK15 hb;replace BK16:=bnB BK16 hb;replace BK17:=bnB BK17 hb;have BK18:=aM hbox;have ⟨x18,y18,r18,d18⟩:=q2f BK18;have ⟨x14,y14,r14,d14⟩:=q2f BK14;have ⟨x15,y15,r15,d15⟩:=q2f BK15;have ⟨x16,y16,r16,d16⟩:=q2f BK16;have ⟨x17,y17,r17,d17⟩:=q2f BK17;clear hb hbox hg)
  | ((with_reducible refine gate_callee (f:=14) rfl ?_);refine goesL_ (some 103) rfl rfl Try.func14 (by kernel_rfl) rfl #[.agg #[.string wp,.string wq],.agg #[.string sp,.string sq],.agg #[.string tp,.string tq],.agg #[.string up,.string uq]] rfl (by (try simp only [sM,sC,sN]);first|done|rfl) ?_;refine Calls.mono (spec_MiddleOf.calls K7 wp wq sp sq tp tq up uq a b e3 _ (h7 K7 (Nat.le_refl _))) ?_;(try (case sS=>exact (st S).re));rintro e w4 ⟨rfl,hb⟩;refine ⟨_,rfl,?_⟩;have F18:=aM (b2 (V:=w1) (p:=.string a) (q:=.string b) BK18);replace BK18:=bnB F18 hb;clear F18;replace BK14:=bnB BK14 hb;replace BK15:=bnB BK15 hb;replace BK16:=bnB BK16 hb;replace BK17:=bnB BK17 hb;replace HB:=hs HB hb;clear hb)
  | ((with_reducible refine gate_dst (N:=20) rfl ?_);refine box_event rfl (N:=20) rfl (cs:=#[.string ⟨#[]⟩,.string ⟨#[]⟩]) (t:=25) (by first|(go_simp;done)|(go_simp;rfl)) ?_;intro k20 hg w1 hbox hb;have G20:Ge v.heap.size k20:=⟨hg ▸ (swB HB.out).size⟩;have N14_20:=neN BK14 hg;have N20_14:=neN' BK14 hg;have n14_20:=N14_20.h;have n20_14:=N20_14.h;have N15_20:=neN BK15 hg;have N20_15:=neN' BK15 hg;have n15_20:=N15_20.h;have n20_15:=N20_15.h;have N16_20:=neN BK16 hg;have N20_16:=neN' BK16 hg;have n16_20:=N16_20.h;have n20_16:=N20_16.h;have N17_20:=neN BK17 hg;have N20_17:=neN' BK17 hg;have n17_20:=N17_20.h;have n20_17:=N20_17.h;have N18_20:=neN BK18 hg;have N20_18:=neN' BK18 hg;have n18_20:=N18_20.h;have n20_18:=N20_18.h;replace HB:=hs HB hb;replace BK14:=bnB BK14 hb;replace BK15:=bnB BK15 hb;replace BK16:=bnB BK16 hb;replace BK17:=bnB BK17 hb;replace BK18:=bnB BK18 hb;have BK20:=aM hbox;have ⟨x20,y20,r20,d20⟩:=q2f BK20;have ⟨x14,y14,r14,d14⟩:=q2f BK14;have ⟨x15,y15,r15,d15⟩:=q2f BK15;have ⟨x16,y16,r16,d16⟩:=q2f BK16;have ⟨x17,y17,r17,d17⟩:=q2f BK17;have ⟨x18,y18,r18,d18⟩:=q2f BK18;clear hb hbox hg)
  | ((with_reducible refine gate_callee (f:=15) rfl ?_);refine goesL_ (some 119) rfl rfl Try.func15 (by kernel_rfl) rfl #[.agg #[.string wp,.string wq],.agg #[.string sp,.string sq],.agg #[.string tp,.string tq],.agg #[.string up,.string uq]] rfl (by (try simp only [sM,sC,sN]);first|done|rfl) ?_;refine Calls.mono (impl_IsBetween.calls K8 wp wq sp sq tp tq up uq y2 e3 _ (h8 K8 (Nat.le_refl _))) ?_;(try (case sS=>exact (st S).re));rintro e w4 ⟨rfl,hb⟩;refine ⟨_,rfl,?_⟩;have F20:=aM (b2 (V:=w1) (p:=.string a) (q:=.string b) BK20);replace BK20:=bnB F20 hb;clear F20;replace BK14:=bnB BK14 hb;replace BK15:=bnB BK15 hb;replace BK16:=bnB BK16 hb;replace BK17:=bnB BK17 hb;replace BK18:=bnB BK18 hb;replace HB:=hs HB hb;clear hb;have ⟨x14,y14,r14,d14⟩:=q2f BK14;have ⟨x15,y15,r15,d15⟩:=q2f BK15;have ⟨x16,y16,r16,d16⟩:=q2f BK16;have ⟨x17,y17,r17,d17⟩:=q2f BK17)
  | ((with_reducible refine gate_callee (f:=16) rfl ?_);refine goesL_ (some 127) rfl rfl Try.func16 (by kernel_rfl) rfl #[.agg #[.string wp,.string wq],.agg #[.string sp,.string sq],.agg #[.string tp,.string tq],.agg #[.string up,.string uq]] rfl (by (try simp only [sM,sC,sN]);first|done|rfl) ?_;refine Calls.mono (spec_IsBetween.calls K9 wp wq sp sq tp tq up uq y2 e3 _ (h9 K9 (Nat.le_refl _))) ?_;(try (case sS=>exact (st S).re));rintro e w4 ⟨rfl,hb⟩;refine ⟨_,rfl,?_⟩;replace BK14:=bnB BK14 hb;replace BK15:=bnB BK15 hb;replace BK16:=bnB BK16 hb;replace BK17:=bnB BK17 hb;replace BK18:=bnB BK18 hb;replace HB:=hs HB hb;clear hb))
 go_wp2
 go_loopg [26] L.length (fun kq v26 wc=>∃ x:Int,v26 = .int .i64 x ∧ 0 ≤ x ∧ (kq:Int) + x = L.length ∧ Aside0 (Below v.heap.size v wc) ∧ Aside0 (wc.heap[k14]? = some (.cells #[.string wp,.string wq] 25 (0,0))) ∧ Aside0 (wc.heap[k15]? = some (.cells #[.string sp,.string sq] 25 (0,0))) ∧ Aside0 (wc.heap[k16]? = some (.cells #[.string tp,.string tq] 25 (0,0))) ∧ Aside0 (wc.heap[k17]? = some (.cells #[.string up,.string uq] 25 (0,0))) ∧ Aside0 (wc.heap[k18]? = some (.cells #[.string a,.string b] 25 (0,0))))
 case atStart=>exact ⟨0,rfl,by omega,by omega,HB,BK14,BK15,BK16,BK17,BK18⟩
 case round =>
  clear HB BK14 BK15 BK16 BK17 BK18
  obtain ⟨x,rfl,hx0,hk,HB,BK14,BK15,BK16,BK17,BK18⟩:=hrel
  by_cases ci:x < (L.length:Int)
  ·have d1:decide (x < (L.length:Int)) = true:=decide_eq_true ci
   go_wp2
   have CL:=Kd.C_below C1 HB.out
   have B9':=blk_below B9 HB.out
   obtain ⟨ad,e0,s2,s3⟩:=at_T25 CL x hx0 ci
   have hm:rd_T25 L x ∈ L:=by
    obtain ⟨j,rfl⟩:=Int.eq_ofNat_of_zero_le hx0
    rw [rd_sp L j (by omega)]
    exact List.getElem_mem _
   obtain ⟨K,hK'⟩:=hpt _ hm
   subst e0
   have p1:(0 ≤ x) = True:=eq_true hx0
   have p2:(x < (L.length:Int)) = True:=eq_true ci
   refine start_ (n:=11) (S:=fun w'=>w'.cell? ⟨k9,0,none⟩ = some (.string op) ∧ w'.cell? ⟨k9,1,none⟩ = some (.string oq) ∧ w'.cell? (ad.add (x.toNat * 2)) = some (.string (rd_T25 L x).f0) ∧ w'.cell? ⟨(ad.add (x.toNat * 2)).block,(ad.add (x.toNat * 2)).off + 1,none⟩ = some (.string (rd_T25 L x).f1)) (ds:=[]) #[fF,fF,fF,fF,fF,fF,fF,fF,fF,fF,fF] (by kernel_rfl) rfl rfl ⟨(blk_cell (yD B9') 0).trans rfl,(blk_cell (yD B9') 1).trans rfl,s2,s3⟩ (fun hHeld=>?_);refine with_tabW dtab25 dbits25 (fun HT_ HW_=>?_)
   replace HB:=aM (swB (V:=wr.drew) HB.out)
   replace BK14:=aM (bn (V:=wr.drew) BK14)
   replace BK15:=aM (bn (V:=wr.drew) BK15)
   replace BK16:=aM (bn (V:=wr.drew) BK16)
   replace BK17:=aM (bn (V:=wr.drew) BK17)
   replace BK18:=aM (bn (V:=wr.drew) BK18)
   generalize wr.drew = w5 at HB BK14 BK15 BK16 BK17 BK18 hHeld ⊢
   clear s2 s3 CL B9'
   refine pz 146 1 #[fF,tT,fF,fF,fF,fF,fF,fF,fF,fF,fF] HT_ rfl rfl (by kernel_rfl) (fun _ _ _ h=>h) (by rfl) (by intro w';go_simp;with_reducible rfl) (by simp only [Act.put,sI,sZ,sS,i64_w,i32_w];rfl) ?_
   refine pz 147 2 #[fF,tT,tT,fF,fF,fF,fF,fF,fF,fF,fF] HT_ rfl rfl (by kernel_rfl) (fun _ _ _ h=>h) (by rfl) (by intro w';go_simp;with_reducible rfl) (by simp only [Act.put,sI,sZ,sS,i64_w,i32_w];rfl) ?_
   refine pz 148 3 #[fF,tT,tT,tT,fF,fF,fF,fF,fF,fF,fF] HT_ rfl rfl (by kernel_rfl) (fun _ _ _ h=>h) (by rfl) (by intro w';go_simp;with_reducible rfl) (by simp only [Act.put,sI,sZ,sS,i64_w,i32_w];rfl) ?_
   refine tz 145 0 #[tT,tT,tT,tT,fF,fF,fF,fF,fF,fF,fF] HT_ HW_ hHeld rfl rfl (by kernel_rfl) (fun _ _ _ h=>h) (by rfl) (by rintro w' ⟨s0,s1,s2,s3⟩;go_simp;with_reducible rfl) (by simp only [Act.put,sI,sZ,sS,i64_w,i32_w];rfl) ?_
   refine tz 149 4 #[tT,tT,tT,tT,tT,fF,fF,fF,fF,fF,fF] HT_ HW_ hHeld rfl rfl (by kernel_rfl) (fun _ _ _ h=>h) (by rfl) (by rintro w' ⟨s0,s1,s2,s3⟩;go_simp;with_reducible rfl) (by simp only [Act.put,sI,sZ,sS,i64_w,i32_w];rfl) ?_
   refine one_ (i:=5) (N:=some 150) #[tT,tT,tT,tT,tT,tT,fF,fF,fF,fF,fF] rfl rfl (one_of HT_.out (by kernel_rfl)) (by decide) (fun K hK=>?_)
   refine stepD hK Try.func6 (by kernel_rfl) rfl #[.agg #[.string op,.string oq],.agg #[.string (rd_T25 L x).f0,.string (rd_T25 L x).f1]] (by rfl) rfl rfl (by (try simp only [sM,sC,sN]);first|done|rfl) (impl_IsPointOf.calls _ op oq (rd_T25 L x).f0 (rd_T25 L x).f1 true 0 _ (hK' _ (Nat.le_refl _))) ?_
   rintro e w6 ⟨rfl,hb⟩
   refine ⟨_,rfl,⟨(hb.cell (World.block_lt_of_cell? _ _ hHeld.1)).trans hHeld.1,(hb.cell (World.block_lt_of_cell? _ _ hHeld.2.1)).trans hHeld.2.1,(hb.cell (World.block_lt_of_cell? _ _ hHeld.2.2.1)).trans hHeld.2.2.1,(hb.cell (World.block_lt_of_cell? _ _ hHeld.2.2.2)).trans hHeld.2.2.2⟩,fun hHeld=>norm_ (a':=_) (by show Act.put _ _ _=_;simp only [Act.put,sI,sZ,sS,i64_w,i32_w];rfl) ?_⟩
   replace HB:=hs HB hb
   replace BK14:=bnB BK14 hb
   replace BK15:=bnB BK15 hb
   replace BK16:=bnB BK16 hb
   replace BK17:=bnB BK17 hb
   replace BK18:=bnB BK18 hb
   clear hK K hb
   refine pz 144 6 #[tT,tT,tT,tT,tT,tT,tT,fF,fF,fF,fF] HT_ rfl rfl (by kernel_rfl) (fun _ _ _ h=>h) (by rfl) (by intro w';go_simp;with_reducible rfl) (by simp only [Act.put,sI,sZ,sS,i64_w,i32_w];rfl) ?_
   refine pz 151 7 #[tT,tT,tT,tT,tT,tT,tT,tT,fF,fF,fF] HT_ rfl rfl (by kernel_rfl) (fun _ _ _ h=>h) (by rfl) (by intro w';go_simp;with_reducible rfl) (by simp only [Act.put,sI,sZ,sS,i64_w,i32_w];rfl) ?_
   refine pz 152 8 #[tT,tT,tT,tT,tT,tT,tT,tT,tT,fF,fF] HT_ rfl rfl (by kernel_rfl) (fun _ _ _ h=>h) (by rfl) (by intro w';go_simp;with_reducible rfl) (by simp only [Act.put,sI,sZ,sS,i64_w,i32_w];rfl) ?_
   refine pz 27 9 #[tT,tT,tT,tT,tT,tT,tT,tT,tT,tT,fF] HT_ rfl rfl (by kernel_rfl) (fun _ _ _ h=>h) (by rfl) (by intro w';go_simp;with_reducible rfl) (by simp only [Act.put,sI,sZ,sS,i64_w,i32_w];rfl) ?_
   refine pz 28 10 #[tT,tT,tT,tT,tT,tT,tT,tT,tT,tT,tT] HT_ rfl rfl (by kernel_rfl) (fun _ _ _ h=>h) (by rfl) (by intro w';go_simp;with_reducible rfl) (by simp only [Act.put,sI,sZ,sS,i64_w,i32_w];rfl) ?_
   refine done_ (done_of HT_.out (by kernel_rfl)) ?_
   (try go_wp2)
   go_roundg (gk - 1)
   case measure=>omega
   case rel=>exact ⟨x + 1,by first|rfl|(rw [wrS (by omega) (by omega)]),by omega,by omega,HB,BK14,BK15,BK16,BK17,BK18⟩
  ·have d1:decide (x < (L.length:Int)) = false:=decide_eq_false ci
   have ⟨x14,y14,r14,d14⟩:=q2f BK14
   have ⟨x15,y15,r15,d15⟩:=q2f BK15
   have ⟨x16,y16,r16,d16⟩:=q2f BK16
   have ⟨x17,y17,r17,d17⟩:=q2f BK17
   have ⟨x18,y18,r18,d18⟩:=q2f BK18
   rcases hor with ⟨c0,rfl,rfl⟩|⟨rfl,⟨K10,g1⟩,⟨K11,g2⟩,⟨K12,g3⟩,hy⟩
   ·have d2:(e3 != 0) = true:=bne_iff_ne.mpr c0
    go_wp2
    go_ret
    exact ⟨rfl,below_step HW HB.out⟩
   ·go_wp2_with (first
     | ((with_reducible refine gate_callee (f:=13) rfl ?_);refine goesL_ (some 174) rfl rfl Try.func13 (by kernel_rfl) rfl #[.agg #[.string wp,.string wq],.agg #[.string tp,.string tq],.agg #[.string sp,.string sq],.agg #[.string up,.string uq]] rfl (by (try simp only [sM,sC,sN]);first|done|rfl) ?_;refine Calls.mono (impl_MiddleOf.calls K10 wp wq tp tq sp sq up uq a b 0 _ (g1 K10 (Nat.le_refl _))) ?_;(try (case sS=>exact (st S).re));rintro e w4 ⟨rfl,hb⟩;refine ⟨_,rfl,?_⟩;replace BK14:=bnB BK14 hb;replace BK15:=bnB BK15 hb;replace BK16:=bnB BK16 hb;replace BK17:=bnB BK17 hb;replace BK18:=bnB BK18 hb;replace HB:=hs HB hb;clear hb)
     | ((with_reducible refine gate_dst (N:=29) rfl ?_);refine box_event rfl (N:=29) rfl (cs:=#[.string ⟨#[]⟩,.string ⟨#[]⟩]) (t:=25) (by first|(go_simp;done)|(go_simp;rfl)) ?_;intro k29 hg w1 hbox hb;have G29:Ge v.heap.size k29:=⟨hg ▸ (swB HB.out).size⟩;have N14_29:=neN BK14 hg;have N29_14:=neN' BK14 hg;have n14_29:=N14_29.h;have n29_14:=N29_14.h;have N15_29:=neN BK15 hg;have N29_15:=neN' BK15 hg;have n15_29:=N15_29.h;have n29_15:=N29_15.h;have N16_29:=neN BK16 hg;have N29_16:=neN' BK16 hg;have n16_29:=N16_29.h;have n29_16:=N29_16.h;have N17_29:=neN BK17 hg;have N29_17:=neN' BK17 hg;have n17_29:=N17_29.h;have n29_17:=N29_17.h;have N18_29:=neN BK18 hg;have N29_18:=neN' BK18 hg;have n18_29:=N18_29.h;have n29_18:=N29_18.h;replace HB:=hs HB hb;replace BK14:=bnB BK14 hb;replace BK15:=bnB BK15 hb;replace BK16:=bnB BK16 hb;replace BK17:=bnB BK17 hb;replace BK18:=bnB BK18 hb;have BK29:=aM hbox;have ⟨x29,y29,r29,d29⟩:=q2f BK29;have ⟨x14,y14,r14,d14⟩:=q2f BK14;have ⟨x15,y15,r15,d15⟩:=q2f BK15;have ⟨x16,y16,r16,d16⟩:=q2f BK16;have ⟨x17,y17,r17,d17⟩:=q2f BK17;have ⟨x18,y18,r18,d18⟩:=q2f BK18;clear hb hbox hg)
     | ((with_reducible refine gate_callee (f:=13) rfl ?_);refine goesL_ (some 182) rfl rfl Try.func13 (by kernel_rfl) rfl #[.agg #[.string wp,.string wq],.agg #[.string up,.string uq],.agg #[.string tp,.string tq],.agg #[.string sp,.string sq]] rfl (by (try simp only [sM,sC,sN]);first|done|rfl) ?_;refine Calls.mono (impl_MiddleOf.calls K11 wp wq up uq tp tq sp sq a b 0 _ (g2 K11 (Nat.le_refl _))) ?_;(try (case sS=>exact (st S).re));rintro e w4 ⟨rfl,hb⟩;refine ⟨_,rfl,?_⟩;have F29:=aM (b2 (V:=w1) (p:=.string a) (q:=.string b) BK29);replace BK29:=bnB F29 hb;clear F29;replace BK14:=bnB BK14 hb;replace BK15:=bnB BK15 hb;replace BK16:=bnB BK16 hb;replace BK17:=bnB BK17 hb;replace BK18:=bnB BK18 hb;replace HB:=hs HB hb;clear hb)
     | ((with_reducible refine gate_dst (N:=31) rfl ?_);refine box_event rfl (N:=31) rfl (cs:=#[.string ⟨#[]⟩,.string ⟨#[]⟩]) (t:=25) (by first|(go_simp;done)|(go_simp;rfl)) ?_;intro k31 hg w1 hbox hb;have G31:Ge v.heap.size k31:=⟨hg ▸ (swB HB.out).size⟩;have N14_31:=neN BK14 hg;have N31_14:=neN' BK14 hg;have n14_31:=N14_31.h;have n31_14:=N31_14.h;have N15_31:=neN BK15 hg;have N31_15:=neN' BK15 hg;have n15_31:=N15_31.h;have n31_15:=N31_15.h;have N16_31:=neN BK16 hg;have N31_16:=neN' BK16 hg;have n16_31:=N16_31.h;have n31_16:=N31_16.h;have N17_31:=neN BK17 hg;have N31_17:=neN' BK17 hg;have n17_31:=N17_31.h;have n31_17:=N31_17.h;have N18_31:=neN BK18 hg;have N31_18:=neN' BK18 hg;have n18_31:=N18_31.h;have n31_18:=N31_18.h;have N29_31:=neN BK29 hg;have N31_29:=neN' BK29 hg;have n29_31:=N29_31.h;have n31_29:=N31_29.h;replace HB:=hs HB hb;replace BK14:=bnB BK14 hb;replace BK15:=bnB BK15 hb;replace BK16:=bnB BK16 hb;replace BK17:=bnB BK17 hb;replace BK18:=bnB BK18 hb;replace BK29:=bnB BK29 hb;have BK31:=aM hbox;have ⟨x31,y31,r31,d31⟩:=q2f BK31;have ⟨x14,y14,r14,d14⟩:=q2f BK14;have ⟨x15,y15,r15,d15⟩:=q2f BK15;have ⟨x16,y16,r16,d16⟩:=q2f BK16;have ⟨x17,y17,r17,d17⟩:=q2f BK17;have ⟨x18,y18,r18,d18⟩:=q2f BK18;clear hb hbox hg)
     | ((with_reducible refine gate_callee (f:=6) rfl ?_);refine goesL_ (some 188) rfl rfl Try.func6 (by kernel_rfl) rfl #[.agg #[.string wp,.string wq],.agg #[.string a,.string b]] rfl (by (try simp only [sM,sC,sN]);first|done|rfl) ?_;refine Calls.mono (impl_IsPointOf.calls K12 wp wq a b true 0 _ (g3 K12 (Nat.le_refl _))) ?_;(try (case sS=>exact (st S).re));rintro e w4 ⟨rfl,hb⟩;refine ⟨_,rfl,?_⟩;have F31:=aM (b2 (V:=w1) (p:=.string a) (q:=.string b) BK31);replace BK31:=bnB F31 hb;clear F31;replace BK14:=bnB BK14 hb;replace BK15:=bnB BK15 hb;replace BK16:=bnB BK16 hb;replace BK17:=bnB BK17 hb;replace BK18:=bnB BK18 hb;replace BK29:=bnB BK29 hb;replace HB:=hs HB hb;clear hb;have ⟨x29,y29,r29,d29⟩:=q2f BK29;have ⟨x31,y31,r31,d31⟩:=q2f BK31;have ⟨x18,y18,r18,d18⟩:=q2f BK18;have ⟨x16,y16,r16,d16⟩:=q2f BK16))
    all_goals go_ret
    ·exact ⟨rfl,below_step HW HB.out⟩
    ·rename_i h
     exact ⟨by show Ending.returned (.bool (!(b.toList == tq.toList))) = _;rw [beq_eq_false_iff_ne.mpr h];rfl,below_step HW HB.out⟩
    ·rename_i h
     exact ⟨by show Ending.returned (.bool (!(a.toList == tp.toList) || !(b.toList == tq.toList))) = _;rw [beq_eq_false_iff_ne.mpr h];rfl,below_step HW HB.out⟩
theorem walkM (a0:Option Addr) (len0 cap0:Nat) (z0:List Int) (w:World) (w0:(a0 = none ∧ len0 = 0 ∧ cap0 = 0 ∧ z0 = []) ∨ ∃ x,a0 = some x ∧ len0 ≤ cap0 ∧ cap0 ≤ maxLen ∧ z0.length = cap0 ∧ (∀ i,i < z0.length → w.cell? (x.add i) = some (.int .u8 (z0.getD i 0))) ∧ ∀ n ∈ z0,(Lit.int .u8 n).wf = true) :
  Calls Try.prog 3 #[.slice a0 len0 cap0] w fun e w'=>e = .returned (.bool true) ∧ Below w.heap.size w w':=by
 obtain ⟨l0,rfl,hr0,hm0,hw0,hc0⟩:=ReadsInt.ofRowC w0
 exact lawM (Kd.C_of_reads (d:=(0:Int)) (h1:=fun _=>rfl) hr0) hc0 hw0
end
end Go.Proofs.Ytmhpbilkocnlnaa.Q
end
