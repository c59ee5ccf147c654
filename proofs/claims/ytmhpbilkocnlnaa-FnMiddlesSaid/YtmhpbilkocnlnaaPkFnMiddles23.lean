/- Joined texts: AngOrbitS, Qx10, AngOrbitSpecS, Qx6, Qx7, Qx13, Qx12, DrawLite, DrawE, DrawA, DrawB, DrawC, DrawD, Qx20, Qx36, Qx37, SeqStarM -/
import Derived.Test.YtmhpbilkocnlnaaPkFnMiddles22
import Derived.Laws.Bits64b
import Derived.Lib.IndexLaws
section
namespace Go.Proofs.Ytmhpbilkocnlnaa.Q
open Go.RowKit Go.Proofs.YtmhpbilkocnlnaaW.PrintWords Go.Proofs.YtmhpbilkocnlnaaW.PrintLast Go.Proofs.YtmhpbilkocnlnaaW.Ext Go.Proofs.Ytmhpbilkocnlnaa.Ang
set_option linter.unusedVariables false
theorem ang_coprime {n e : Int} (he : 0 < e) (h : Int.gcd n e = 1) : ang n e = (n % e, e) := by
  have g : Int.gcd (n % e) e = 1 := by
    rw [Int.gcd_comm, ← h, Int.gcd_comm n e]
    have := Int.emod_add_mul_ediv n e
    conv => rhs; rw [← this]
    rw [Int.gcd_add_mul_left_right]
  unfold ang
  rw [g]
  simp
theorem dbl_even {n e : Int} (h : wide n (2 * e)) : dbl (n, 2 * e) = (n % e, e) := by
  obtain ⟨h1, h2, h3, h4⟩ := h
  have he : 0 < e := by omega
  unfold dbl
  rw [ang_scale (by omega) he]
  refine ang_coprime he ?_
  have d1 : (Int.gcd n e : Int) ∣ n := Int.gcd_dvd_left _ _
  have d2 : (Int.gcd n e : Int) ∣ 2 * e := Int.dvd_trans (Int.gcd_dvd_right _ _) (Int.dvd_mul_left _ _)
  have d3 : (Int.gcd n e : Int) ∣ (Int.gcd n (2 * e) : Int) := Int.dvd_coe_gcd d1 d2
  rw [h4] at d3
  have := Int.eq_one_of_dvd_one (by omega) d3
  show n.gcd e = 1
  omega
theorem dbl_odd {n d : Int} (h : wide n d) (hd : d % 2 = 1) : dbl (n, d) = (2 * n % d, d) := by
  obtain ⟨h1, h2, h3, h4⟩ := h
  unfold dbl
  refine ang_coprime (by omega) ?_
  have g2 : Int.gcd 2 d = 1 := by
    have d1 : (Int.gcd 2 d : Int) ∣ 2 := Int.gcd_dvd_left _ _
    have d2 : (Int.gcd 2 d : Int) ∣ d := Int.gcd_dvd_right _ _
    have d3 : (Int.gcd 2 d : Int) ∣ 1 := by
      have e : (1 : Int) = d - 2 * (d / 2) := by omega
      rw [e]
      exact Int.dvd_sub d2 (Int.dvd_mul_of_dvd_left d1)
    have := Int.eq_one_of_dvd_one (by omega) d3
    omega
  have k : Int.gcd (2 * n) d = 1 := by
    have d1 : (Int.gcd (2 * n) d : Int) ∣ d := Int.gcd_dvd_right _ _
    have d0 : (Int.gcd (2 * n) d : Int) ∣ 2 * n := Int.gcd_dvd_left _ _
    have c : Int.gcd (Int.gcd (2 * n) d : Int) 2 = 1 := by
      have e1 : (Int.gcd (Int.gcd (2 * n) d : Int) 2 : Int) ∣ d := Int.dvd_trans (Int.gcd_dvd_left _ _) d1
      have e2 : (Int.gcd (Int.gcd (2 * n) d : Int) 2 : Int) ∣ 2 := Int.gcd_dvd_right _ _
      have e3 := Int.dvd_coe_gcd e2 e1
      rw [g2] at e3
      have := Int.eq_one_of_dvd_one (by omega) e3
      omega
    have c' : Nat.Coprime (Int.gcd (2 * n) d) 2 := by simpa [Int.gcd, Nat.Coprime] using c
    have d0' : Int.gcd (2 * n) d ∣ 2 * n.natAbs := by
      have := Int.natAbs_dvd_natAbs.2 d0
      simpa [Int.natAbs_mul] using this
    have d2 : (Int.gcd (2 * n) d : Int) ∣ n := Int.ofNat_dvd_left.2 (c'.dvd_of_dvd_mul_left d0')
    have d3 := Int.dvd_coe_gcd d2 d1
    rw [h4] at d3
    have := Int.eq_one_of_dvd_one (by omega) d3
    omega
  exact k
def orbA (x : Int × Int) : Nat → Int × Int
  | 0 => x
  | n + 1 => dbl (orbA x n)
theorem dbl_wide {x : Int × Int} (h : wide x.1 x.2) : wide (dbl x).1 (dbl x).2 := ang_wide (by have := h.1; omega)
theorem orb_wide {x : Int × Int} (h : wide x.1 x.2) : ∀ n, wide (orbA x n).1 (orbA x n).2
  | 0 => h
  | n + 1 => dbl_wide (orb_wide h n)
theorem orb_isA {x : Int × Int} (h : isA x.1 x.2 = true) : ∀ n, isA (orbA x n).1 (orbA x n).2 = true
  | 0 => h
  | n + 1 => dbl_isA (orb_isA h n)
theorem orb_den {x : Int × Int} {p : Nat} {q : Int} (h : wide x.1 x.2) (hx : x.2 = 2 ^ p * q) (hq : q % 2 = 1) :
    ∀ i, (i ≤ p → (orbA x i).2 = 2 ^ (p - i) * q) ∧ (p ≤ i → (orbA x i).2 = q) := by
  intro i
  induction i with
  | zero =>
    refine ⟨fun _ => by simpa [orbA] using hx, fun hp => ?_⟩
    have : p = 0 := by omega
    subst this
    simpa [orbA] using hx
  | succ i ih =>
    have w := orb_wide h i
    refine ⟨fun hi => ?_, fun hi => ?_⟩
    · have e := ih.1 (by omega)
      have e2 : (2 : Int) ^ (p - i) * q = 2 * (2 ^ (p - (i + 1)) * q) := by
        rw [show p - i = (p - (i + 1)) + 1 by omega, Int.pow_succ]
        grind
      rw [e2] at e
      have d := dbl_even (n := (orbA x i).1) (e := 2 ^ (p - (i + 1)) * q) (by rw [← e]; exact w)
      rw [← e] at d
      show (dbl (orbA x i)).2 = _
      rw [show dbl (orbA x i) = dbl ((orbA x i).1, (orbA x i).2) from rfl, d]
    · by_cases hp : p ≤ i
      · have e := ih.2 hp
        have d := dbl_odd (n := (orbA x i).1) (d := (orbA x i).2) w (by rw [e]; exact hq)
        show (dbl (orbA x i)).2 = _
        rw [show dbl (orbA x i) = dbl ((orbA x i).1, (orbA x i).2) from rfl, d]
        exact e
      · have hpi : p = i + 1 := by omega
        have e := ih.1 (by omega)
        rw [show p - i = 1 by omega] at e
        have e2 : (orbA x i).2 = 2 * q := by rw [e]; grind
        have d := dbl_even (n := (orbA x i).1) (e := q) (by rw [← e2]; exact w)
        rw [← e2] at d
        show (dbl (orbA x i)).2 = _
        rw [show dbl (orbA x i) = dbl ((orbA x i).1, (orbA x i).2) from rfl, d]
def toS (x : Int × Int) : S63 := ⟨x.1, x.2⟩
def seg (x : Int × Int) (m : Nat) : List S63 := (List.range m).map fun i => toS (orbA x i)
theorem seg_length (x : Int × Int) (m : Nat) : (seg x m).length = m := by simp [seg]
theorem seg_succ (x : Int × Int) (m : Nat) : seg x (m + 1) = seg x m ++ [toS (orbA x m)] := by simp [seg, List.range_succ]
theorem seg_get (x : Int × Int) {m i : Nat} (h : i < m) : (seg x m)[i]'(by rw [seg_length]; exact h) = toS (orbA x i) := by simp [seg]
def orbGo (x : Int × Int) (p : Nat) : Nat → Nat → List S63 × Int × Bool
  | 0, _ => ([], 0, false)
  | f + 1, m => if p < m ∧ orbA x m = orbA x p then (seg x m, (p : Int), true) else if m = 64 then ([], 0, false) else orbGo x p f (m + 1)
end Go.Proofs.Ytmhpbilkocnlnaa.Q
end
section
namespace Go.Proofs.Ytmhpbilkocnlnaa.Q
open Go.Proofs.YtmhpbilkocnlnaaW.Ext
open Go.RowKit Go.Proofs.YtmhpbilkocnlnaaW.PrintWords Go.Proofs.YtmhpbilkocnlnaaW.PrintLast Go.Proofs.YtmhpbilkocnlnaaW.PrintMore
attribute [local go_sem] max2_int min2_int max_two min_two max_three min_three max_four min_four   -- for this text's walks alone
set_option linter.unusedVariables false
set_option linter.unusedSimpArgs false
attribute [local go_sem high] eqA63
mutual
def spec_l01Orbit.l0:Nat → Int → Int → Int → Int → Option ((List (S63)) × Int × Bool)
 | 0,_,_,_,_=>none
 | k + 1,x5,x6,x112000,x112001=>if (Int.tmod x6 2) = 0 then (spec_l01Orbit.l0 k (wrap64 (x5 + 1)) (wrap64 (Int.tdiv x6 2)) x112000 x112001) else (spec_l01Orbit.l1 k x5 (([]:List (S63))) x112000 x112001)
def spec_l01Orbit.l1:Nat → Int → List (S63) → Int → Int → Option ((List (S63)) × Int × Bool)
 | 0,_,_,_,_=>none
 | k + 1,x5,x7,x116000,x116001=>if (x7.length:Int) > x5 then (if 0 ≤ x5 then (if x5 < (x7.length:Int) then (spec_l01Orbit.j2 k x5 x7 (x116000 == ((rd_T63 x7 x5).f0) && (x116001 == ((rd_T63 x7 x5).f1))) x116000 x116001) else (none)) else (none)) else (spec_l01Orbit.j2 k x5 x7 false x116000 x116001)
def spec_l01Orbit.j2:Nat → Int → List (S63) → Bool → Int → Int → Option ((List (S63)) × Int × Bool)
 | 0,_,_,_,_,_=>none
 | k + 1,x5,x7,x33,x116000,x116001=>if x33 = true then (some (x7,x5,true)) else (if (x7.length:Int) = 64 then (some (([]:List (S63)),0,false)) else (if x7.length < 8796093022208 then ((spec_l01Double.f k x116000 x116001).bind fun bt121=>(spec_l01Orbit.l1 k x5 (x7 ++ [(⟨x116000,x116001⟩:S63)]) bt121.1 bt121.2)) else (none)))
end
def spec_l01Orbit.f (k:Nat) (a0_0:Int) (a0_1:Int):Option ((List (S63)) × Int × Bool):=spec_l01Orbit.l0 k 0 a0_1 a0_0 a0_1
theorem spec_l01Orbit.mono_l:∀ k,(∀ y0 y1 y2 y3,LeO (spec_l01Orbit.l0 k y0 y1 y2 y3) (spec_l01Orbit.l0 (k + 1) y0 y1 y2 y3)) ∧ (∀ y0 y1 y2 y3,LeO (spec_l01Orbit.l1 k y0 y1 y2 y3) (spec_l01Orbit.l1 (k + 1) y0 y1 y2 y3)) ∧ (∀ y0 y1 y2 y3 y4,LeO (spec_l01Orbit.j2 k y0 y1 y2 y3 y4) (spec_l01Orbit.j2 (k + 1) y0 y1 y2 y3 y4))
 | 0=>⟨fun _ _ _ _ r h=>by simp [spec_l01Orbit.l0] at h,fun _ _ _ _ r h=>by simp [spec_l01Orbit.l1] at h,fun _ _ _ _ _ r h=>by simp [spec_l01Orbit.j2] at h⟩
 | k + 1=>by
  obtain ⟨ih0,ih1,ih2⟩:=spec_l01Orbit.mono_l k
  refine ⟨?_,?_,?_⟩
  ·intro y0 y1 y2 y3
   unfold spec_l01Orbit.l0
   repeat' first
   | (with_reducible exact ih0 _ _ _ _)
   | (with_reducible exact ih1 _ _ _ _)
   | (with_reducible exact ih2 _ _ _ _ _)
   | (with_reducible exact spec_l01Double.mono _ _ _)
   | (with_reducible exact LeO.refl _)
   | (with_reducible exact LeO.none _)
   | (with_reducible refine LeO.ite ?_ ?_)
   | (with_reducible refine LeO.bind ?_ (fun _=>?_))
   | exact ih0 _ _ _ _
   | exact ih1 _ _ _ _
   | exact ih2 _ _ _ _ _
   | exact spec_l01Double.mono _ _ _
   | exact LeO.none _
   | refine LeO.ite ?_ ?_
   | refine LeO.bind ?_ (fun _=>?_)
  ·intro y0 y1 y2 y3
   unfold spec_l01Orbit.l1
   repeat' first
   | (with_reducible exact ih0 _ _ _ _)
   | (with_reducible exact ih1 _ _ _ _)
   | (with_reducible exact ih2 _ _ _ _ _)
   | (with_reducible exact spec_l01Double.mono _ _ _)
   | (with_reducible exact LeO.refl _)
   | (with_reducible exact LeO.none _)
   | (with_reducible refine LeO.ite ?_ ?_)
   | (with_reducible refine LeO.bind ?_ (fun _=>?_))
   | exact ih0 _ _ _ _
   | exact ih1 _ _ _ _
   | exact ih2 _ _ _ _ _
   | exact spec_l01Double.mono _ _ _
   | exact LeO.none _
   | refine LeO.ite ?_ ?_
   | refine LeO.bind ?_ (fun _=>?_)
  ·intro y0 y1 y2 y3 y4
   unfold spec_l01Orbit.j2
   repeat' first
   | (with_reducible exact ih0 _ _ _ _)
   | (with_reducible exact ih1 _ _ _ _)
   | (with_reducible exact ih2 _ _ _ _ _)
   | (with_reducible exact spec_l01Double.mono _ _ _)
   | (with_reducible exact LeO.refl _)
   | (with_reducible exact LeO.none _)
   | (with_reducible refine LeO.ite ?_ ?_)
   | (with_reducible refine LeO.bind ?_ (fun _=>?_))
   | exact ih0 _ _ _ _
   | exact ih1 _ _ _ _
   | exact ih2 _ _ _ _ _
   | exact spec_l01Double.mono _ _ _
   | exact LeO.none _
   | refine LeO.ite ?_ ?_
   | refine LeO.bind ?_ (fun _=>?_)
theorem spec_l01Orbit.mono:∀ a0 a1 k,LeO (spec_l01Orbit.f k a0 a1) (spec_l01Orbit.f (k + 1) a0 a1):=by
 intro a0 a1 k
 obtain ⟨ih0,ih1,ih2⟩:=spec_l01Orbit.mono_l k
 unfold spec_l01Orbit.f
 repeat' first
   | (with_reducible exact ih0 _ _ _ _)
   | (with_reducible exact ih1 _ _ _ _)
   | (with_reducible exact ih2 _ _ _ _ _)
   | (with_reducible exact spec_l01Double.mono _ _ _)
   | (with_reducible exact LeO.refl _)
   | (with_reducible exact LeO.none _)
   | (with_reducible refine LeO.ite ?_ ?_)
   | (with_reducible refine LeO.bind ?_ (fun _=>?_))
   | exact ih0 _ _ _ _
   | exact ih1 _ _ _ _
   | exact ih2 _ _ _ _ _
   | exact spec_l01Double.mono _ _ _
   | exact LeO.none _
   | refine LeO.ite ?_ ?_
   | refine LeO.bind ?_ (fun _=>?_)
set_option maxHeartbeats 8000000 in
set_option maxRecDepth 100000 in
theorem spec_l01Orbit.calls (k:Nat) (a0_0:Int) (a0_1:Int) (r1:List (S63)) (r2:Int) (r3:Bool) (w:World) (h:spec_l01Orbit.f k a0_0 a0_1 = some (r1,r2,r3)) :
  Calls Try.prog 61 #[.agg #[.int .i64 a0_0,.int .i64 a0_1]] w fun e w'=>∃ v0_:Value,e = .returned (.tuple #[v0_,.int .i64 r2,.bool r3]) ∧ Kd.R k63 63 w' w.heap.size (fun _=>True) v0_ r1 ∧ Below w.heap.size w w':=by
 have hu63:=Try.underlying63
 have HB:=aM (Below.refl w.heap.size w)
 have H:(spec_l01Orbit.l0 k 0 a0_1 a0_0 a0_1) = some (r1,r2,r3):=h
 clear h
 have H':=aM H
 clear H
 go_enter Try.func61,Try.ntmps61
 go_wp2_with (first|((with_reducible refine gate_dst (N:=1) rfl ?_);refine box_event rfl (N:=1) rfl (cs:=#[.int .i64 a0_0,.int .i64 a0_1]) (t:=63) (by first|(go_simp;done)|(go_simp;rfl)) ?_;intro gb111 hg w2 hbox hb;have BK111:=aM (hbox);have GW111:=wl hg HB;have GE111:=wl hg HB;replace HB:=bs HB hb;clear hb hbox hg;have⟨a0,a1,b0,b1⟩:=q2f BK111))
 repeat (go_quiet (first|((with_reducible refine gate_dst (N:=1) rfl ?_);refine box_event rfl (N:=1) rfl (cs:=#[.int .i64 a0_0,.int .i64 a0_1]) (t:=63) (by first|(go_simp;done)|(go_simp;rfl)) ?_;intro gb111 hg w2 hbox hb;have BK111:=aM (hbox);have GW111:=wl hg HB;have GE111:=wl hg HB;replace HB:=bs HB hb;clear hb hbox hg;have⟨a0,a1,b0,b1⟩:=q2f BK111));try go_wp2_with (first|((with_reducible refine gate_dst (N:=1) rfl ?_);refine box_event rfl (N:=1) rfl (cs:=#[.int .i64 a0_0,.int .i64 a0_1]) (t:=63) (by first|(go_simp;done)|(go_simp;rfl)) ?_;intro gb111 hg w2 hbox hb;have BK111:=aM (hbox);have GW111:=wl hg HB;have GE111:=wl hg HB;replace HB:=bs HB hb;clear hb hbox hg;have⟨a0,a1,b0,b1⟩:=q2f BK111)))
 go_loopg [5,6] k (fun kq v5 v6 w'=>∃ (x5_1:Int) (x6_1:Int),v5 = .int .i64 x5_1 ∧ v6 = .int .i64 x6_1 ∧ Aside0 (spec_l01Orbit.l0 kq x5_1 x6_1 a0_0 a0_1 = some (r1,r2,r3)) ∧ Aside0 (kq ≤ k) ∧ Aside0 (w'.heap[gb111]? = some (.cells #[.int .i64 a0_0,.int .i64 a0_1] 63 (0,0))) ∧ Aside0 (Below w.heap.size w w'))
 case atStart=>exact ⟨(0),(a0_1),(by first|rfl|(simp;done)|(simp [*];done)),(by first|rfl|(simp;done)|(simp [*];done)),H',⟨Nat.le_refl _⟩,⟨bk BK111⟩,⟨bb HB⟩⟩
 case round =>
  clear H'
  try clear p2
  try clear hcz3_0
  try clear hcz3_1
  try clear hfz3_0
  try clear hfz3_1
  obtain ⟨x5_1,x6_1,rfl,rfl,HA,HK1,BK111,HB⟩:=hrel
  cases gk with
  | zero=>exact absurd HA.out (by simp [spec_l01Orbit.l0])
  | succ k1 =>
   have H:=HA.out
   clear HA
   simp only [spec_l01Orbit.l0] at H
   by_cases c4:(Int.tmod x6_1 2) = 0
   ·rw [if_pos c4] at H
    have c4b0:((Int.tmod x6_1 2) == 0) = true:=beq_iff_eq.mpr c4
    have c4b1:((Int.tmod x6_1 2) != 0) = false:=bne_eq_false_iff_eq.mpr c4
    clear c4
    have H':=aM H
    clear H
    go_wp2
    repeat (go_quiet (fail);try go_wp2)
    go_roundg k1
    case measure=>have:=HK1.out;omega
    case rel=>exact ⟨(wrap64 (x5_1 + 1)),(wrap64 (Int.tdiv x6_1 2)),(by first|rfl|(simp;done)|(simp [*];done)),(by first|rfl|(simp;done)|(simp [*];done)),H',⟨by have:=HK1.out;omega⟩,⟨bk BK111⟩,⟨bb HB⟩⟩
   ·rw [if_neg c4] at H
    have c4b0:((Int.tmod x6_1 2) == 0) = false:=beq_eq_false_iff_ne.mpr c4
    have c4b1:((Int.tmod x6_1 2) != 0) = true:=bne_iff_ne.mpr c4
    obtain ⟨y112,hy112⟩:∃ y_:List (S63),y_ = (([]:List (S63))):=⟨_,rfl⟩
    replace H:(spec_l01Orbit.l1 k1 x5_1 y112 a0_0 a0_1) = some (r1,r2,r3):=by first|(rw [hy112];with_reducible exact H)|(have H2_:=(Option.bind_some _ _).symm.trans H;rw [hy112];with_reducible exact H2_)|(have H2_:=(Option.bind_some _ _).symm.trans H;with_reducible exact H2_)|with_reducible exact H|(rw [hy112];exact H)|exact H
    have Ny112:=aM hy112
    clear hy112
    have H':=aM H
    clear H
    go_wp2_with (first|((with_reducible refine gate_dst (N:=18) rfl ?_);refine Kd.R_lit k63 _ 63 ?hg (N:=18) ?hd (xs:=([]:List (S63))) (inner:=[]) (ok:=fun _=>True) (okp:=fun _=>True) ?hr ?hp (fun _ hk=>hk) trivial (Below.refl _ _) (Nat.le_refl _) (by simp) ?_;(case hd=>rfl);(case hg=>rfl);(case hr=>first|(go_simp;done)|(go_simp;rfl));(case hp=>exact (Reps.none _ _));intro v113 w5 ho6 hb hg_ hnew_;clear hg_ hnew_;(first|rw [← Ny112.out] at ho6|(simp only [Int.reduceToNat] at ho6;rw [← Ny112.out] at ho6));have HO114:=aM (Kd.R_lower (Kd.R_newB ho6 (g:=gb111) (o:=.cells #[.int .i64 a0_0,.int .i64 a0_1] 63 (0,0)) (bk BK111)) (below_size (bb HB)));replace BK111:=kb BK111 hb;replace HB:=bs HB hb;clear hb ho6;have⟨a0,a1,b0,b1⟩:=q2f BK111)|((with_reducible refine gate_dst (N:=8) rfl ?_);refine box_event rfl (N:=8) rfl (cs:=#[.int .i64 0,.int .i64 0]) (t:=63) (by first|(go_simp;done)|(go_simp;rfl)) ?_;intro gb115 hg w8 hbox hb;have BK115:=aM (hbox);have GW115:=wl hg HB;have GE115:=wl hg HB;have NB111_115:=nl hg BK111;have NB115_111:=nr hg BK111;replace HO114:=aM (Kd.R_below (Kd.R_elderB (rk HO114) gb115 (Nat.le_of_eq hg.symm)) hb);replace BK111:=kb BK111 hb;replace HB:=bs HB hb;clear hb hbox hg;have hnb9:=NB115_111.out;have hnc9:=NB111_115.out;have⟨a0,a1,b0,b1⟩:=q2f BK115))
    repeat (go_quiet (first|((with_reducible refine gate_dst (N:=18) rfl ?_);refine Kd.R_lit k63 _ 63 ?hg (N:=18) ?hd (xs:=([]:List (S63))) (inner:=[]) (ok:=fun _=>True) (okp:=fun _=>True) ?hr ?hp (fun _ hk=>hk) trivial (Below.refl _ _) (Nat.le_refl _) (by simp) ?_;(case hd=>rfl);(case hg=>rfl);(case hr=>first|(go_simp;done)|(go_simp;rfl));(case hp=>exact (Reps.none _ _));intro v113 w5 ho6 hb hg_ hnew_;clear hg_ hnew_;(first|rw [← Ny112.out] at ho6|(simp only [Int.reduceToNat] at ho6;rw [← Ny112.out] at ho6));have HO114:=aM (Kd.R_lower (Kd.R_newB ho6 (g:=gb111) (o:=.cells #[.int .i64 a0_0,.int .i64 a0_1] 63 (0,0)) (bk BK111)) (below_size (bb HB)));replace BK111:=kb BK111 hb;replace HB:=bs HB hb;clear hb ho6;have⟨a0,a1,b0,b1⟩:=q2f BK111)|((with_reducible refine gate_dst (N:=8) rfl ?_);refine box_event rfl (N:=8) rfl (cs:=#[.int .i64 0,.int .i64 0]) (t:=63) (by first|(go_simp;done)|(go_simp;rfl)) ?_;intro gb115 hg w8 hbox hb;have BK115:=aM (hbox);have GW115:=wl hg HB;have GE115:=wl hg HB;have NB111_115:=nl hg BK111;have NB115_111:=nr hg BK111;replace HO114:=aM (Kd.R_below (Kd.R_elderB (rk HO114) gb115 (Nat.le_of_eq hg.symm)) hb);replace BK111:=kb BK111 hb;replace HB:=bs HB hb;clear hb hbox hg;have hnb9:=NB115_111.out;have hnc9:=NB111_115.out;have⟨a0,a1,b0,b1⟩:=q2f BK115));try go_wp2_with (first|((with_reducible refine gate_dst (N:=18) rfl ?_);refine Kd.R_lit k63 _ 63 ?hg (N:=18) ?hd (xs:=([]:List (S63))) (inner:=[]) (ok:=fun _=>True) (okp:=fun _=>True) ?hr ?hp (fun _ hk=>hk) trivial (Below.refl _ _) (Nat.le_refl _) (by simp) ?_;(case hd=>rfl);(case hg=>rfl);(case hr=>first|(go_simp;done)|(go_simp;rfl));(case hp=>exact (Reps.none _ _));intro v113 w5 ho6 hb hg_ hnew_;clear hg_ hnew_;(first|rw [← Ny112.out] at ho6|(simp only [Int.reduceToNat] at ho6;rw [← Ny112.out] at ho6));have HO114:=aM (Kd.R_lower (Kd.R_newB ho6 (g:=gb111) (o:=.cells #[.int .i64 a0_0,.int .i64 a0_1] 63 (0,0)) (bk BK111)) (below_size (bb HB)));replace BK111:=kb BK111 hb;replace HB:=bs HB hb;clear hb ho6;have⟨a0,a1,b0,b1⟩:=q2f BK111)|((with_reducible refine gate_dst (N:=8) rfl ?_);refine box_event rfl (N:=8) rfl (cs:=#[.int .i64 0,.int .i64 0]) (t:=63) (by first|(go_simp;done)|(go_simp;rfl)) ?_;intro gb115 hg w8 hbox hb;have BK115:=aM (hbox);have GW115:=wl hg HB;have GE115:=wl hg HB;have NB111_115:=nl hg BK111;have NB115_111:=nr hg BK111;replace HO114:=aM (Kd.R_below (Kd.R_elderB (rk HO114) gb115 (Nat.le_of_eq hg.symm)) hb);replace BK111:=kb BK111 hb;replace HB:=bs HB hb;clear hb hbox hg;have hnb9:=NB115_111.out;have hnc9:=NB111_115.out;have⟨a0,a1,b0,b1⟩:=q2f BK115)))
    go_loopg [7,8] k1 (fun kq v7 v8 w'=>∃ (x7_2:List (S63)) (x116000_2:Int) (x116001_2:Int) (gb115:Nat),v8 = .pointer (some ⟨gb115,0,none⟩) ∧ Aside0 (spec_l01Orbit.l1 kq x5_1 x7_2 x116000_2 x116001_2 = some (r1,r2,r3)) ∧ Aside0 (kq ≤ k1) ∧ Aside0 (Kd.R k63 63 w' w.heap.size (fun k_=>k_ ≠ gb111 ∧ k_ ≠ gb115) v7 x7_2) ∧ Aside0 (w'.heap[gb111]? = some (.cells #[.int .i64 a0_0,.int .i64 a0_1] 63 (0,0))) ∧ Aside0 (w'.heap[gb115]? = some (.cells #[.int .i64 x116000_2,.int .i64 x116001_2] 63 (0,0))) ∧ Aside0 (w.heap.size ≤ gb115) ∧ Aside0 (w.heap.size ≤ gb115) ∧ Aside0 (gb115 ≠ gb111) ∧ Aside0 (gb111 ≠ gb115) ∧ Aside0 (Below w.heap.size w w'))
    case atStart=>exact ⟨(y112),(a0_0),(a0_1),gb115,(by first|rfl|(simp;done)),H',⟨Nat.le_refl _⟩,⟨by (with_reducible repeat (first|apply rA|apply rN|apply rD));exact Kd.R_mono (Kd.R_far (p:=⟨gb115,1,none⟩) (Kd.R_far (p:=⟨gb115,0,none⟩) (Kd.R_mono HO114.out (fun k_ hk=>(⟨hk,hk.2⟩:_ ∧ k_ ≠ gb115))) (fun _ hk=>hk.2) (.int .i64 a0_0)) (fun _ hk=>hk.2) (.int .i64 a0_1)) (fun _ hk=>⟨hk.1.1.2,hk.1.2⟩)⟩,⟨bf BK111 NB111_115⟩,⟨by (with_reducible repeat (first|apply yN|apply yD|apply yA));refine blk_put (cs:=#[.int .i64 a0_0,.int .i64 0]) ?_ 1 _ rfl;(with_reducible repeat (first|apply yN|apply yD|apply yA));refine blk_put (cs:=#[.int .i64 0,.int .i64 0]) ?_ 0 _ rfl;(with_reducible repeat (first|apply yN|apply yD|apply yA));exact BK115.out⟩,⟨GW115.out⟩,⟨GE115.out⟩,⟨NB115_111.out⟩,⟨NB111_115.out⟩,⟨by first|exact bb HB|exact bg HB GE111|exact bg HB GE115⟩⟩
    case round =>
     clear H'
     try clear p2
     try clear c4
     try clear c4b0
     try clear c4b1
     try clear c6
     try clear p6
     try clear c9
     try clear hcz10_0
     try clear hcz10_1
     try clear hcz3_0
     try clear hcz3_1
     try clear hcz7_0
     try clear hcz7_1
     try clear hfz10_0
     try clear hfz10_1
     try clear hfz3_0
     try clear hfz3_1
     try clear hfz7_0
     try clear hfz7_1
     try clear p2
     obtain ⟨x7_2,x116000_2,x116001_2,gb115,rfl,HA,HK2,HO_7,BK111,BK115,GW115,GE115,NB115_111,NB111_115,HB⟩:=hrel
     cases gk with
     | zero=>exact absurd HA.out (by simp [spec_l01Orbit.l1])
     | succ k2 =>
      have H:=HA.out
      clear HA
      simp only [spec_l01Orbit.l1] at H
      have HC11:=aM H
      clear H
      go_upto_region 9 with (fail)
      repeat (go_quiet (fail);go_upto_region 9 with (fail))
      go_cut [33] (fun v33 wc=>∃ (kq:Nat) (x33_10:Bool),v33 = .bool x33_10 ∧ Aside0 (spec_l01Orbit.j2 kq x5_1 x7_2 x33_10 x116000_2 x116001_2 = some (r1,r2,r3)) ∧ Aside0 (kq ≤ k2) ∧ Aside0 (Kd.R k63 63 wc w.heap.size (fun k_=>k_ ≠ gb111 ∧ k_ ≠ gb115) u7 x7_2) ∧ Aside0 (wc.heap[gb111]? = some (.cells #[.int .i64 a0_0,.int .i64 a0_1] 63 (0,0))) ∧ Aside0 (wc.heap[gb115]? = some (.cells #[.int .i64 x116000_2,.int .i64 x116001_2] 63 (0,0))) ∧ Aside0 (Below w.heap.size w wc))
      case first =>
       have H:=HC11.out
       clear HC11
       by_cases c12:(x7_2.length:Int) > x5_1
       ·rw [if_pos c12] at H
        have c12b0:decide (x5_1 < (x7_2.length:Int)) = true:=decide_eq_true c12
        clear c12
        (first|rw [c12b0]|(simp only [i64_w,i32_w];rw [c12b0])|skip)
        by_cases c13:0 ≤ x5_1
        ·rw [if_pos c13] at H
         have c13b0:decide (0 ≤ x5_1) = true:=decide_eq_true c13
         clear c13
         by_cases c14:x5_1 < (x7_2.length:Int)
         ·rw [if_pos c14] at H
          have c14b0:decide (x5_1 < (x7_2.length:Int)) = true:=decide_eq_true c14
          clear c14
          have H':=aM H
          clear H
          obtain ⟨Ao15,co15,eo15⟩:=Kd.R_slice HO_7.out
          subst eo15
          have hnb16:=NB115_111.out
          have hnc16:=NB111_115.out
          have⟨a0,a1,b0,b1⟩:=q2f BK115
          have p116:0 ≤ (x5_1:Int):=of_decide_eq_true (by assumption)
          have q116:x5_1 < (x7_2.length:Int):=of_decide_eq_true (by assumption)
          obtain ⟨ad116,e116,hx116_0,hx116_1⟩:=at_T63 (Kd.R_reads' HO_7.out).2.2 x5_1 p116 q116
          cases e116
          replace p116:=eq_true p116;replace q116:=eq_true q116
          go_wp2
          repeat (go_quiet (fail);try go_wp2)
          go_meet
          case rel=>exact ⟨_,((x116000_2 == ((rd_T63 x7_2 x5_1).f0) && (x116001_2 == ((rd_T63 x7_2 x5_1).f1)))),(by first|rfl|(simp;done)|(simp [*];done)),H',⟨by have:=HK1.out;have:=HK2.out;first|omega|exact Nat.le_refl _⟩,⟨rk HO_7⟩,⟨bk BK111⟩,⟨bk BK115⟩,⟨bb HB⟩⟩
         ·rw [if_neg c14] at H
          exact absurd H (by simp)
        ·rw [if_neg c13] at H
         exact absurd H (by simp)
       ·rw [if_neg c12] at H
        have c12b0:decide (x5_1 < (x7_2.length:Int)) = false:=decide_eq_false c12
        clear c12
        (first|rw [c12b0]|(simp only [i64_w,i32_w];rw [c12b0])|skip)
        have H':=aM H
        clear H
        obtain ⟨Ao18,co18,eo18⟩:=Kd.R_slice HO_7.out
        subst eo18
        go_wp2
        repeat (go_quiet (fail);try go_wp2)
        go_meet
        case rel=>exact ⟨_,(false),(by first|rfl|(simp;done)|(simp [*];done)),H',⟨by have:=HK1.out;have:=HK2.out;first|omega|exact Nat.le_refl _⟩,⟨rk HO_7⟩,⟨bk BK111⟩,⟨bk BK115⟩,⟨bb HB⟩⟩
      case rest =>
       clear HC11
       try clear c1
       try clear p1
       try clear q1
       try clear hx1
       try clear p2
       try clear c4
       try clear c4b0
       try clear c4b1
       try clear c6
       try clear p6
       try clear c9
       try clear p11
       try clear q11
       try clear hx11
       try clear c12
       try clear c12b0
       try clear c13
       try clear c13b0
       try clear c14
       try clear c14b0
       try clear c16
       try clear hcz10_0
       try clear hcz10_1
       try clear hcz17_0
       try clear hcz17_1
       try clear hcz3_0
       try clear hcz3_1
       try clear hcz7_0
       try clear hcz7_1
       try clear hfz10_0
       try clear hfz10_1
       try clear hfz17_0
       try clear hfz17_1
       try clear hfz3_0
       try clear hfz3_1
       try clear hfz7_0
       try clear hfz7_1
       try clear hx116_0
       try clear hx116_1
       try clear p116
       try clear p2
       try clear p6
       try clear q116
       obtain ⟨kq,x33_10,rfl,HA,HJ10,HO_7,BK111,BK115,HB⟩:=hcut
       cases kq with
       | zero=>exact absurd HA.out (by simp [spec_l01Orbit.j2])
       | succ kj10 =>
        have H:=HA.out
        clear HA
        simp only [spec_l01Orbit.j2] at H
        by_cases c19:x33_10 = true
        ·subst c19
         have H1:(some (x7_2,x5_1,true)) = some (r1,r2,r3):=by rw [if_pos rfl] at H;exact H
         clear H
         have H:=H1
         clear H1
         simp only [Option.some.injEq,Prod.mk.injEq] at H
         obtain ⟨rfl,rfl,rfl⟩:=H
         go_wp2
         repeat (go_quiet (fail);try go_wp2)
         go_ret3
         exact ⟨_,by first|rfl|(simp [errW_none,errW_some] <;> rfl)|(simp [*,errW_none,errW_some] <;> rfl),by (with_reducible repeat (first|apply rA|apply rN|apply rD));exact Kd.R_mono HO_7.out (fun _ hk=>trivial),bb HB⟩
        ·replace c19:=Bool.eq_false_iff.mpr c19
         subst c19
         have H1:(if (x7_2.length:Int) = 64 then (some (([]:List (S63)),0,false)) else (if x7_2.length < 8796093022208 then ((spec_l01Double.f kj10 x116000_2 x116001_2).bind fun bt121=>(spec_l01Orbit.l1 kj10 x5_1 (x7_2 ++ [(⟨x116000_2,x116001_2⟩:S63)]) bt121.1 bt121.2)) else (none))) = some (r1,r2,r3):=by rw [if_neg (show ¬ (false = true) by decide)] at H;exact H
         clear H
         have H:=H1
         clear H1
         by_cases c20:(x7_2.length:Int) = 64
         ·rw [if_pos c20] at H
          have c20b0:((x7_2.length:Int) == 64) = true:=beq_iff_eq.mpr c20
          have c20b1:((x7_2.length:Int) != 64) = false:=bne_eq_false_iff_eq.mpr c20
          clear c20
          simp only [Option.some.injEq,Prod.mk.injEq] at H
          obtain ⟨rfl,rfl,rfl⟩:=H
          obtain ⟨Ao21,co21,eo21⟩:=Kd.R_slice HO_7.out
          subst eo21
          go_wp2
          repeat (go_quiet (fail);try go_wp2)
          go_ret3
          exact ⟨_,by first|rfl|(simp [errW_none,errW_some] <;> rfl)|(simp [*,errW_none,errW_some] <;> rfl),by first|exact Kd.R_nil _ _ _ _ _|exact Kd.N_nil _ _ _ _ _|exact Kd.V_nil _ _ _ _ _|exact Kd.Q_nil _ _ _ _ _|exact Kd.S_nil _ _ _ _ _,bb HB⟩
         ·rw [if_neg c20] at H
          have c20b0:((x7_2.length:Int) == 64) = false:=beq_eq_false_iff_ne.mpr c20
          have c20b1:((x7_2.length:Int) != 64) = true:=bne_iff_ne.mpr c20
          by_cases c22:x7_2.length < 8796093022208
          ·rw [if_pos c22] at H
           have LMc22:=aM c22
           clear c22
           obtain ⟨y117,hy117⟩:∃ y_:List (S63),y_ = (x7_2 ++ [(⟨x116000_2,x116001_2⟩:S63)]):=⟨_,rfl⟩
           replace H:((spec_l01Double.f kj10 x116000_2 x116001_2).bind fun bt121=>(spec_l01Orbit.l1 kj10 x5_1 y117 bt121.1 bt121.2)) = some (r1,r2,r3):=by first|(rw [hy117];with_reducible exact H)|(have H2_:=(Option.bind_some _ _).symm.trans H;rw [hy117];with_reducible exact H2_)|(have H2_:=(Option.bind_some _ _).symm.trans H;with_reducible exact H2_)|with_reducible exact H|(rw [hy117];exact H)|exact H
           have Ny117:=aM hy117
           clear hy117
           replace H:=Option.bind_eq_some_iff.mp H
           obtain ⟨⟨t121,t122⟩,A230,H⟩:=H
           replace H:(spec_l01Orbit.l1 kj10 x5_1 y117 t121 t122) = some (r1,r2,r3):=H;have A23:=aM A230
           clear A230
           have H':=aM H
           clear H
           obtain ⟨Ao24,co24,eo24⟩:=Kd.R_slice HO_7.out
           subst eo24
           have hnb25:=NB115_111.out
           have hnc25:=NB111_115.out
           have⟨a0,a1,b0,b1⟩:=q2f BK115
           go_wp2_with (first|((with_reducible refine gate_builtin (b:=.append) (xs:=#[.tmp 39,.tmp 41]) rfl ?_);at_builtin;refine Kd.R_append k63 (w0:=w) w.heap.size rfl (.tmp 39) (.tmp 41) 91 63 (.agg #[(.int .i64 0),(.int .i64 0)]) 16 rfl Try.underlying91 info63 rfl (by decide) (by omega) (.slice Ao24 x7_2.length co24) x7_2 (⟨x116000_2,x116001_2⟩:S63) [.int .i64 x116000_2,.int .i64 x116001_2] (fun k_=>k_ ≠ gb111 ∧ k_ ≠ gb115) (fun _=>False) rfl rfl ?aP (fun _ hk=>hk.elim) ?aF ?aO ?aB ?aS ?aL ?_;(case aP=>exact k63_mkM _ _ _ (⟨x116000_2,x116001_2⟩:S63));(case aB=>exact (by first|exact bb HB|exact bg HB GE111|exact bg HB GE115));(case aF=>exact (fun k_ hk=>⟨Kd.freshB (g:=gb111) (o:=.cells #[.int .i64 a0_0,.int .i64 a0_1] 63 (0,0)) (bk BK111) k_ hk,Kd.freshB (g:=gb115) (o:=.cells #[.int .i64 x116000_2,.int .i64 x116001_2] 63 (0,0)) (bk BK115) k_ hk⟩));(case aO=>exact (rk HO_7));(case aS=>exact (below_size (by first|exact bb HB|exact bg HB GE111|exact bg HB GE115)));(case aL=>have:=LMc22.out;omega);intro v118 w27 ho hb hg hat;rw [← Ny117.out] at ho;have n0_:=aM (blk_grown (g:=gb111) (o:=.cells #[.int .i64 a0_0,.int .i64 a0_1] 63 (0,0)) (bk BK111) hg (Kd.R_away HO_7.out (fun _ hk=>hk.1)));have n1_:=aM (blk_grown (g:=gb115) (o:=.cells #[.int .i64 x116000_2,.int .i64 x116001_2] 63 (0,0)) (bk BK115) hg (Kd.R_away HO_7.out (fun _ hk=>hk.2)));have n2_:=aM (hb);have n3_:=aM (ho);clear BK111;clear BK115;clear HB;clear HO_7;have BK111:=n0_;have BK115:=n1_;have HB:=n2_;have HO119:=n3_;clear n0_ n1_ n2_ n3_;clear ho hb hg hat;have⟨a0,a1,b0,b1⟩:=q2f BK115)|((with_reducible refine gate_dst (N:=8) rfl ?_);refine box_event rfl (N:=8) rfl (cs:=#[.int .i64 0,.int .i64 0]) (t:=63) (by first|(go_simp;done)|(go_simp;rfl)) ?_;intro gb120 hg w29 hbox hb;have BK120:=aM (hbox);have GW120:=aM ((by rw [hg];exact (below_size (by first|exact bb HB|exact bg HB GE111|exact bg HB GE115)):w.heap.size ≤ gb120));have GE120:=aM ((by rw [hg];exact (below_size (by first|exact bb HB|exact bg HB GE111|exact bg HB GE115)):w.heap.size ≤ gb120));have NB111_120:=nl hg BK111;have NB120_111:=nr hg BK111;have NB115_120:=nl hg BK115;have NB120_115:=nr hg BK115;replace HO119:=aM (Kd.R_below (Kd.R_elderB (rk HO119) gb120 (Nat.le_of_eq hg.symm)) hb);replace BK111:=kb BK111 hb;replace BK115:=kb BK115 hb;replace HB:=aM (below_step (by first|exact bb HB|exact bg HB GE111|exact bg HB GE115) hb);clear hb hbox hg;have hnb30:=NB120_111.out;have hnc30:=NB111_120.out;have hnb31:=NB120_115.out;have hnc31:=NB115_120.out;have⟨a0,a1,b0,b1⟩:=q2f BK120)|(go_at_call 69;(with_reducible refine (spec_l01Double.calls kj10 x116000_2 x116001_2 t121 t122 _ A23.out).mono ?_);rintro e w33 ⟨rfl,hb⟩;replace HO119:=aM (Kd.R_below (by (with_reducible repeat (first|apply rA|apply rN|apply rD));exact (Kd.R_mono (Kd.R_far (p:=⟨gb120,1,none⟩) (Kd.R_far (p:=⟨gb120,0,none⟩) (Kd.R_mono HO119.out (fun k_ hk=>(⟨hk,hk.2⟩:_ ∧ k_ ≠ gb120))) (fun _ hk=>hk.2) (.int .i64 x116000_2)) (fun _ hk=>hk.2) (.int .i64 x116001_2)) (fun _ h_=>h_.1))) hb);replace BK111:=kf BK111 NB111_120 hb;replace BK115:=kf BK115 NB115_120 hb;replace BK120:=aM (blk_below (g:=gb120) (o:=.cells #[.int .i64 x116000_2,.int .i64 x116001_2] 63 (0,0)) (by (with_reducible repeat (first|apply yN|apply yD|apply yA));refine blk_put (cs:=#[.int .i64 x116000_2,.int .i64 0]) ?_ 1 _ rfl;(with_reducible repeat (first|apply yN|apply yD|apply yA));refine blk_put (cs:=#[.int .i64 0,.int .i64 0]) ?_ 0 _ rfl;(with_reducible repeat (first|apply yN|apply yD|apply yA));exact BK120.out) hb);replace HB:=aM (below_step (by first|exact bb HB|exact bg HB GE111|exact bg HB GE115|exact bg HB GE120) hb);(try clear hb);have⟨a0,a1,b0,b1⟩:=q2f BK120))
           repeat (go_quiet (first|((with_reducible refine gate_builtin (b:=.append) (xs:=#[.tmp 39,.tmp 41]) rfl ?_);at_builtin;refine Kd.R_append k63 (w0:=w) w.heap.size rfl (.tmp 39) (.tmp 41) 91 63 (.agg #[(.int .i64 0),(.int .i64 0)]) 16 rfl Try.underlying91 info63 rfl (by decide) (by omega) (.slice Ao24 x7_2.length co24) x7_2 (⟨x116000_2,x116001_2⟩:S63) [.int .i64 x116000_2,.int .i64 x116001_2] (fun k_=>k_ ≠ gb111 ∧ k_ ≠ gb115) (fun _=>False) rfl rfl ?aP (fun _ hk=>hk.elim) ?aF ?aO ?aB ?aS ?aL ?_;(case aP=>exact k63_mkM _ _ _ (⟨x116000_2,x116001_2⟩:S63));(case aB=>exact (by repeat (first|(with_reducible first|exact HB.out|apply zA|apply zN|apply zD|refine zS ?_ GE111.out|refine zS ?_ GE115.out)|exact HB.out)));(case aF=>exact (fun k_ hk=>⟨Kd.freshB (g:=gb111) (o:=.cells #[.int .i64 a0_0,.int .i64 a0_1] 63 (0,0)) (by (with_reducible repeat (first|apply yN|apply yD|apply yA));exact BK111.out) k_ hk,Kd.freshB (g:=gb115) (o:=.cells #[.int .i64 x116000_2,.int .i64 x116001_2] 63 (0,0)) (by (with_reducible repeat (first|apply yN|apply yD|apply yA));exact BK115.out) k_ hk⟩));(case aO=>exact (by (with_reducible repeat (first|apply rA|apply rN|apply rD));exact HO_7.out));(case aS=>exact (below_size (by repeat (first|(with_reducible first|exact HB.out|apply zA|apply zN|apply zD|refine zS ?_ GE111.out|refine zS ?_ GE115.out)|exact HB.out))));(case aL=>have:=LMc22.out;omega);intro v118 w27 ho hb hg hat;rw [← Ny117.out] at ho;have n0_:=aM (blk_grown (g:=gb111) (o:=.cells #[.int .i64 a0_0,.int .i64 a0_1] 63 (0,0)) (by (with_reducible repeat (first|apply yN|apply yD|apply yA));exact BK111.out) hg (Kd.R_away HO_7.out (fun _ hk=>hk.1)));have n1_:=aM (blk_grown (g:=gb115) (o:=.cells #[.int .i64 x116000_2,.int .i64 x116001_2] 63 (0,0)) (by (with_reducible repeat (first|apply yN|apply yD|apply yA));exact BK115.out) hg (Kd.R_away HO_7.out (fun _ hk=>hk.2)));have n2_:=aM (hb);have n3_:=aM (ho);clear BK111;clear BK115;clear HB;clear HO_7;have BK111:=n0_;have BK115:=n1_;have HB:=n2_;have HO119:=n3_;clear n0_ n1_ n2_ n3_;clear ho hb hg hat;have hcz28_0:w27.cell? ⟨gb115,0,none⟩ = some (.int .i64 x116000_2):=(blk_cell BK115.out 0).trans rfl;have hcz28_1:w27.cell? ⟨gb115,1,none⟩ = some (.int .i64 x116001_2):=(blk_cell BK115.out 1).trans rfl;have hfz28_0:=blk_frozen BK115.out 0;have hfz28_1:=blk_frozen BK115.out 1)|((with_reducible refine gate_dst (N:=8) rfl ?_);refine box_event rfl (N:=8) rfl (cs:=#[.int .i64 0,.int .i64 0]) (t:=63) (by first|(go_simp;done)|(go_simp;rfl)) ?_;intro gb120 hg w29 hbox hb;have BK120:=aM (hbox);have GW120:=aM ((by rw [hg];exact (below_size (by repeat (first|(with_reducible first|exact HB.out|apply zA|apply zN|apply zD|refine zS ?_ GE111.out|refine zS ?_ GE115.out)|exact HB.out))):w.heap.size ≤ gb120));have GE120:=aM ((by rw [hg];exact (below_size (by repeat (first|(with_reducible first|exact HB.out|apply zA|apply zN|apply zD|refine zS ?_ GE111.out|refine zS ?_ GE115.out)|exact HB.out))):w.heap.size ≤ gb120));have NB111_120:=aM ((by rw [hg];exact Nat.ne_of_lt (blk_lt (g:=gb111) (o:=.cells #[.int .i64 a0_0,.int .i64 a0_1] 63 (0,0)) (by (with_reducible repeat (first|apply yN|apply yD|apply yA));exact BK111.out)):gb111 ≠ gb120));have NB120_111:=aM ((by rw [hg];exact Nat.ne_of_gt (blk_lt (g:=gb111) (o:=.cells #[.int .i64 a0_0,.int .i64 a0_1] 63 (0,0)) (by (with_reducible repeat (first|apply yN|apply yD|apply yA));exact BK111.out)):gb120 ≠ gb111));have NB115_120:=aM ((by rw [hg];exact Nat.ne_of_lt (blk_lt (g:=gb115) (o:=.cells #[.int .i64 x116000_2,.int .i64 x116001_2] 63 (0,0)) (by (with_reducible repeat (first|apply yN|apply yD|apply yA));exact BK115.out)):gb115 ≠ gb120));have NB120_115:=aM ((by rw [hg];exact Nat.ne_of_gt (blk_lt (g:=gb115) (o:=.cells #[.int .i64 x116000_2,.int .i64 x116001_2] 63 (0,0)) (by (with_reducible repeat (first|apply yN|apply yD|apply yA));exact BK115.out)):gb120 ≠ gb115));replace HO119:=aM (Kd.R_below (Kd.R_elderB (by (with_reducible repeat (first|apply rA|apply rN|apply rD));exact HO119.out) gb120 (Nat.le_of_eq hg.symm)) hb);replace BK111:=aM (blk_below (g:=gb111) (o:=.cells #[.int .i64 a0_0,.int .i64 a0_1] 63 (0,0)) (by (with_reducible repeat (first|apply yN|apply yD|apply yA));exact BK111.out) hb);replace BK115:=aM (blk_below (g:=gb115) (o:=.cells #[.int .i64 x116000_2,.int .i64 x116001_2] 63 (0,0)) (by (with_reducible repeat (first|apply yN|apply yD|apply yA));exact BK115.out) hb);replace HB:=aM (below_step (by repeat (first|(with_reducible first|exact HB.out|apply zA|apply zN|apply zD|refine zS ?_ GE111.out|refine zS ?_ GE115.out)|exact HB.out)) hb);clear hb hbox hg;have hnb30:=NB120_111.out;have hnc30:=NB111_120.out;have hnb31:=NB120_115.out;have hnc31:=NB115_120.out;have hcz32_0:w29.cell? ⟨gb120,0,none⟩ = some (.int .i64 0):=(blk_cell BK120.out 0).trans rfl;have hcz32_1:w29.cell? ⟨gb120,1,none⟩ = some (.int .i64 0):=(blk_cell BK120.out 1).trans rfl;have hfz32_0:=blk_frozen BK120.out 0;have hfz32_1:=blk_frozen BK120.out 1)|(go_at_call 69;(with_reducible refine (spec_l01Double.calls kj10 x116000_2 x116001_2 t121 t122 _ A23.out).mono ?_);rintro e w33 ⟨rfl,hb⟩;replace HO119:=aM (Kd.R_below (by (with_reducible repeat (first|apply rA|apply rN|apply rD));exact (Kd.R_mono (Kd.R_far (p:=⟨gb120,1,none⟩) (Kd.R_far (p:=⟨gb120,0,none⟩) (Kd.R_mono HO119.out (fun k_ hk=>(⟨hk,hk.2⟩:_ ∧ k_ ≠ gb120))) (fun _ hk=>hk.2) (.int .i64 x116000_2)) (fun _ hk=>hk.2) (.int .i64 x116001_2)) (fun _ h_=>h_.1))) hb);replace BK111:=aM (blk_below (g:=gb111) (o:=.cells #[.int .i64 a0_0,.int .i64 a0_1] 63 (0,0)) (by (with_reducible repeat (first|apply yN|apply yD|apply yA));refine blk_far ?_ NB111_120.out _;(with_reducible repeat (first|apply yN|apply yD|apply yA));refine blk_far ?_ NB111_120.out _;(with_reducible repeat (first|apply yN|apply yD|apply yA));exact BK111.out) hb);replace BK115:=aM (blk_below (g:=gb115) (o:=.cells #[.int .i64 x116000_2,.int .i64 x116001_2] 63 (0,0)) (by (with_reducible repeat (first|apply yN|apply yD|apply yA));refine blk_far ?_ NB115_120.out _;(with_reducible repeat (first|apply yN|apply yD|apply yA));refine blk_far ?_ NB115_120.out _;(with_reducible repeat (first|apply yN|apply yD|apply yA));exact BK115.out) hb);replace BK120:=aM (blk_below (g:=gb120) (o:=.cells #[.int .i64 x116000_2,.int .i64 x116001_2] 63 (0,0)) (by (with_reducible repeat (first|apply yN|apply yD|apply yA));refine blk_put (cs:=#[.int .i64 x116000_2,.int .i64 0]) ?_ 1 _ rfl;(with_reducible repeat (first|apply yN|apply yD|apply yA));refine blk_put (cs:=#[.int .i64 0,.int .i64 0]) ?_ 0 _ rfl;(with_reducible repeat (first|apply yN|apply yD|apply yA));exact BK120.out) hb);replace HB:=aM (below_step (by repeat (first|(with_reducible first|exact HB.out|apply zA|apply zN|apply zD|refine zS ?_ GE111.out|refine zS ?_ GE115.out|refine zS ?_ GE120.out)|exact HB.out)) hb);(try clear hb);have hcz34_0:w33.cell? ⟨gb120,0,none⟩ = some (.int .i64 x116000_2):=(blk_cell BK120.out 0).trans rfl;have hcz34_1:w33.cell? ⟨gb120,1,none⟩ = some (.int .i64 x116001_2):=(blk_cell BK120.out 1).trans rfl;have hfz34_0:=blk_frozen BK120.out 0;have hfz34_1:=blk_frozen BK120.out 1));try go_wp2_with (first|((with_reducible refine gate_builtin (b:=.append) (xs:=#[.tmp 39,.tmp 41]) rfl ?_);at_builtin;refine Kd.R_append k63 (w0:=w) w.heap.size rfl (.tmp 39) (.tmp 41) 91 63 (.agg #[(.int .i64 0),(.int .i64 0)]) 16 rfl Try.underlying91 info63 rfl (by decide) (by omega) (.slice Ao24 x7_2.length co24) x7_2 (⟨x116000_2,x116001_2⟩:S63) [.int .i64 x116000_2,.int .i64 x116001_2] (fun k_=>k_ ≠ gb111 ∧ k_ ≠ gb115) (fun _=>False) rfl rfl ?aP (fun _ hk=>hk.elim) ?aF ?aO ?aB ?aS ?aL ?_;(case aP=>exact k63_mkM _ _ _ (⟨x116000_2,x116001_2⟩:S63));(case aB=>exact (by repeat (first|(with_reducible first|exact HB.out|apply zA|apply zN|apply zD|refine zS ?_ GE111.out|refine zS ?_ GE115.out)|exact HB.out)));(case aF=>exact (fun k_ hk=>⟨Kd.freshB (g:=gb111) (o:=.cells #[.int .i64 a0_0,.int .i64 a0_1] 63 (0,0)) (by (with_reducible repeat (first|apply yN|apply yD|apply yA));exact BK111.out) k_ hk,Kd.freshB (g:=gb115) (o:=.cells #[.int .i64 x116000_2,.int .i64 x116001_2] 63 (0,0)) (by (with_reducible repeat (first|apply yN|apply yD|apply yA));exact BK115.out) k_ hk⟩));(case aO=>exact (by (with_reducible repeat (first|apply rA|apply rN|apply rD));exact HO_7.out));(case aS=>exact (below_size (by repeat (first|(with_reducible first|exact HB.out|apply zA|apply zN|apply zD|refine zS ?_ GE111.out|refine zS ?_ GE115.out)|exact HB.out))));(case aL=>have:=LMc22.out;omega);intro v118 w27 ho hb hg hat;rw [← Ny117.out] at ho;have n0_:=aM (blk_grown (g:=gb111) (o:=.cells #[.int .i64 a0_0,.int .i64 a0_1] 63 (0,0)) (by (with_reducible repeat (first|apply yN|apply yD|apply yA));exact BK111.out) hg (Kd.R_away HO_7.out (fun _ hk=>hk.1)));have n1_:=aM (blk_grown (g:=gb115) (o:=.cells #[.int .i64 x116000_2,.int .i64 x116001_2] 63 (0,0)) (by (with_reducible repeat (first|apply yN|apply yD|apply yA));exact BK115.out) hg (Kd.R_away HO_7.out (fun _ hk=>hk.2)));have n2_:=aM (hb);have n3_:=aM (ho);clear BK111;clear BK115;clear HB;clear HO_7;have BK111:=n0_;have BK115:=n1_;have HB:=n2_;have HO119:=n3_;clear n0_ n1_ n2_ n3_;clear ho hb hg hat;have hcz28_0:w27.cell? ⟨gb115,0,none⟩ = some (.int .i64 x116000_2):=(blk_cell BK115.out 0).trans rfl;have hcz28_1:w27.cell? ⟨gb115,1,none⟩ = some (.int .i64 x116001_2):=(blk_cell BK115.out 1).trans rfl;have hfz28_0:=blk_frozen BK115.out 0;have hfz28_1:=blk_frozen BK115.out 1)|((with_reducible refine gate_dst (N:=8) rfl ?_);refine box_event rfl (N:=8) rfl (cs:=#[.int .i64 0,.int .i64 0]) (t:=63) (by first|(go_simp;done)|(go_simp;rfl)) ?_;intro gb120 hg w29 hbox hb;have BK120:=aM (hbox);have GW120:=aM ((by rw [hg];exact (below_size (by repeat (first|(with_reducible first|exact HB.out|apply zA|apply zN|apply zD|refine zS ?_ GE111.out|refine zS ?_ GE115.out)|exact HB.out))):w.heap.size ≤ gb120));have GE120:=aM ((by rw [hg];exact (below_size (by repeat (first|(with_reducible first|exact HB.out|apply zA|apply zN|apply zD|refine zS ?_ GE111.out|refine zS ?_ GE115.out)|exact HB.out))):w.heap.size ≤ gb120));have NB111_120:=aM ((by rw [hg];exact Nat.ne_of_lt (blk_lt (g:=gb111) (o:=.cells #[.int .i64 a0_0,.int .i64 a0_1] 63 (0,0)) (by (with_reducible repeat (first|apply yN|apply yD|apply yA));exact BK111.out)):gb111 ≠ gb120));have NB120_111:=aM ((by rw [hg];exact Nat.ne_of_gt (blk_lt (g:=gb111) (o:=.cells #[.int .i64 a0_0,.int .i64 a0_1] 63 (0,0)) (by (with_reducible repeat (first|apply yN|apply yD|apply yA));exact BK111.out)):gb120 ≠ gb111));have NB115_120:=aM ((by rw [hg];exact Nat.ne_of_lt (blk_lt (g:=gb115) (o:=.cells #[.int .i64 x116000_2,.int .i64 x116001_2] 63 (0,0)) (by (with_reducible repeat (first|apply yN|apply yD|apply yA));exact BK115.out)):gb115 ≠ gb120));have NB120_115:=aM ((by rw [hg];exact Nat.ne_of_gt (blk_lt (g:=gb115) (o:=.cells #[.int .i64 x116000_2,.int .i64 x116001_2] 63 (0,0)) (by (with_reducible repeat (first|apply yN|apply yD|apply yA));exact BK115.out)):gb120 ≠ gb115));replace HO119:=aM (Kd.R_below (Kd.R_elderB (by (with_reducible repeat (first|apply rA|apply rN|apply rD));exact HO119.out) gb120 (Nat.le_of_eq hg.symm)) hb);replace BK111:=aM (blk_below (g:=gb111) (o:=.cells #[.int .i64 a0_0,.int .i64 a0_1] 63 (0,0)) (by (with_reducible repeat (first|apply yN|apply yD|apply yA));exact BK111.out) hb);replace BK115:=aM (blk_below (g:=gb115) (o:=.cells #[.int .i64 x116000_2,.int .i64 x116001_2] 63 (0,0)) (by (with_reducible repeat (first|apply yN|apply yD|apply yA));exact BK115.out) hb);replace HB:=aM (below_step (by repeat (first|(with_reducible first|exact HB.out|apply zA|apply zN|apply zD|refine zS ?_ GE111.out|refine zS ?_ GE115.out)|exact HB.out)) hb);clear hb hbox hg;have hnb30:=NB120_111.out;have hnc30:=NB111_120.out;have hnb31:=NB120_115.out;have hnc31:=NB115_120.out;have hcz32_0:w29.cell? ⟨gb120,0,none⟩ = some (.int .i64 0):=(blk_cell BK120.out 0).trans rfl;have hcz32_1:w29.cell? ⟨gb120,1,none⟩ = some (.int .i64 0):=(blk_cell BK120.out 1).trans rfl;have hfz32_0:=blk_frozen BK120.out 0;have hfz32_1:=blk_frozen BK120.out 1)|(go_at_call 69;(with_reducible refine (spec_l01Double.calls kj10 x116000_2 x116001_2 t121 t122 _ A23.out).mono ?_);rintro e w33 ⟨rfl,hb⟩;replace HO119:=aM (Kd.R_below (by (with_reducible repeat (first|apply rA|apply rN|apply rD));exact (Kd.R_mono (Kd.R_far (p:=⟨gb120,1,none⟩) (Kd.R_far (p:=⟨gb120,0,none⟩) (Kd.R_mono HO119.out (fun k_ hk=>(⟨hk,hk.2⟩:_ ∧ k_ ≠ gb120))) (fun _ hk=>hk.2) (.int .i64 x116000_2)) (fun _ hk=>hk.2) (.int .i64 x116001_2)) (fun _ h_=>h_.1))) hb);replace BK111:=aM (blk_below (g:=gb111) (o:=.cells #[.int .i64 a0_0,.int .i64 a0_1] 63 (0,0)) (by (with_reducible repeat (first|apply yN|apply yD|apply yA));refine blk_far ?_ NB111_120.out _;(with_reducible repeat (first|apply yN|apply yD|apply yA));refine blk_far ?_ NB111_120.out _;(with_reducible repeat (first|apply yN|apply yD|apply yA));exact BK111.out) hb);replace BK115:=aM (blk_below (g:=gb115) (o:=.cells #[.int .i64 x116000_2,.int .i64 x116001_2] 63 (0,0)) (by (with_reducible repeat (first|apply yN|apply yD|apply yA));refine blk_far ?_ NB115_120.out _;(with_reducible repeat (first|apply yN|apply yD|apply yA));refine blk_far ?_ NB115_120.out _;(with_reducible repeat (first|apply yN|apply yD|apply yA));exact BK115.out) hb);replace BK120:=aM (blk_below (g:=gb120) (o:=.cells #[.int .i64 x116000_2,.int .i64 x116001_2] 63 (0,0)) (by (with_reducible repeat (first|apply yN|apply yD|apply yA));refine blk_put (cs:=#[.int .i64 x116000_2,.int .i64 0]) ?_ 1 _ rfl;(with_reducible repeat (first|apply yN|apply yD|apply yA));refine blk_put (cs:=#[.int .i64 0,.int .i64 0]) ?_ 0 _ rfl;(with_reducible repeat (first|apply yN|apply yD|apply yA));exact BK120.out) hb);replace HB:=aM (below_step (by repeat (first|(with_reducible first|exact HB.out|apply zA|apply zN|apply zD|refine zS ?_ GE111.out|refine zS ?_ GE115.out|refine zS ?_ GE120.out)|exact HB.out)) hb);(try clear hb);have hcz34_0:w33.cell? ⟨gb120,0,none⟩ = some (.int .i64 x116000_2):=(blk_cell BK120.out 0).trans rfl;have hcz34_1:w33.cell? ⟨gb120,1,none⟩ = some (.int .i64 x116001_2):=(blk_cell BK120.out 1).trans rfl;have hfz34_0:=blk_frozen BK120.out 0;have hfz34_1:=blk_frozen BK120.out 1)))
           go_roundg kj10
           case measure=>have:=HK1.out;have:=HK2.out;have:=HJ10.out;omega
           case rel=>exact ⟨(y117),(t121),(t122),gb120,(by first|rfl|(simp;done)),H',⟨by have:=HK1.out;have:=HK2.out;have:=HJ10.out;omega⟩,⟨by (with_reducible repeat (first|apply rA|apply rN|apply rD));exact Kd.R_mono (Kd.R_far (p:=⟨gb120,1,none⟩) (Kd.R_far (p:=⟨gb120,0,none⟩) (Kd.R_mono HO119.out (fun k_ hk=>(⟨hk,hk.2⟩:_ ∧ k_ ≠ gb120))) (fun _ hk=>hk.2) (.int .i64 t121)) (fun _ hk=>hk.2) (.int .i64 t122)) (fun _ hk=>⟨hk.1.1.1,hk.1.2⟩)⟩,⟨bf BK111 NB111_120⟩,⟨by (with_reducible repeat (first|apply yN|apply yD|apply yA));refine blk_put (cs:=#[.int .i64 t121,.int .i64 x116001_2]) ?_ 1 _ rfl;(with_reducible repeat (first|apply yN|apply yD|apply yA));refine blk_put (cs:=#[.int .i64 x116000_2,.int .i64 x116001_2]) ?_ 0 _ rfl;(with_reducible repeat (first|apply yN|apply yD|apply yA));exact BK120.out⟩,⟨GW120.out⟩,⟨GE120.out⟩,⟨NB120_111.out⟩,⟨NB111_120.out⟩,⟨by first|exact bb HB|exact bg HB GE111|exact bg HB GE115|exact bg HB GE120⟩⟩
          ·rw [if_neg c22] at H
           exact absurd H (by simp)
end Go.Proofs.Ytmhpbilkocnlnaa.Q
end
section
namespace Go.Proofs.Ytmhpbilkocnlnaa.Q
open Go.RowKit Go.Proofs.YtmhpbilkocnlnaaW.PrintWords Go.Proofs.YtmhpbilkocnlnaaW.PrintLast Go.Proofs.YtmhpbilkocnlnaaW.Ext Go.Proofs.Ytmhpbilkocnlnaa.Ang
set_option linter.unusedVariables false
set_option linter.unusedSimpArgs false
theorem ev_spec_orbit {a b : Int} (h : isA a b = true) {p : Nat} {q : Int} (hx : b = 2 ^ p * q) (hq : q % 2 = 1) : Ev (fun k => spec_l01Orbit.f k a b) (orbGo (a, b) p 65 0) := by
  have hb := isA_bd h
  have hq0 : 0 < q := by
    rcases Int.lt_trichotomy q 0 with z | z | z
    · have := Int.mul_neg_of_pos_of_neg (show (0 : Int) < 2 ^ p from Int.pow_pos (by omega)) z
      omega
    · subst z; simp at hx; omega
    · exact z
  have loop : ∀ f m, m + f = 65 → m ≤ 64 → Ev (fun k => spec_l01Orbit.l1 k (p : Int) (seg (a, b) m) (orbA (a, b) m).1 (orbA (a, b) m).2) (orbGo (a, b) p f m) := by
    intro f
    induction f with
    | zero => intro m h1 h2; omega
    | succ f ih =>
      intro m h1 h2
      have j2 : ∀ c : Bool, c = decide (p < m ∧ orbA (a, b) m = orbA (a, b) p) → Ev (fun k => spec_l01Orbit.j2 k (p : Int) (seg (a, b) m) c (orbA (a, b) m).1 (orbA (a, b) m).2) (orbGo (a, b) p (f + 1) m) := by
        intro c hc
        subst hc
        unfold orbGo
        refine Ev.step (f := fun k => if decide (p < m ∧ orbA (a, b) m = orbA (a, b) p) = true then some (seg (a, b) m, (p : Int), true) else if ((seg (a, b) m).length : Int) = 64 then some ([], 0, false) else if (seg (a, b) m).length < 8796093022208 then (spec_l01Double.f k (orbA (a, b) m).1 (orbA (a, b) m).2).bind fun z => spec_l01Orbit.l1 k (p : Int) (seg (a, b) m ++ [⟨(orbA (a, b) m).1, (orbA (a, b) m).2⟩]) z.1 z.2 else none) (fun k => by rw [spec_l01Orbit.j2]) ?_
        simp only [seg_length, decide_eq_true_eq]
        by_cases z : p < m ∧ orbA (a, b) m = orbA (a, b) p
        · simp only [if_pos z]; exact Ev.now _
        · simp only [if_neg z]
          by_cases y : m = 64
          · subst y
            simp
            exact Ev.now _
          · simp only [if_neg y, if_neg (show ¬ ((m : Int) = 64) by omega), if_pos (show m < 8796093022208 by omega)]
            refine Ev.bind (ev_spec_Double (orb_isA (x := (a, b)) h m)) ?_
            have := ih (m + 1) (by omega) (by omega)
            rw [seg_succ] at this
            exact this
      refine Ev.step (f := fun k => if ((seg (a, b) m).length : Int) > (p : Int) then (if 0 ≤ (p : Int) then (if (p : Int) < ((seg (a, b) m).length : Int) then spec_l01Orbit.j2 k (p : Int) (seg (a, b) m) ((orbA (a, b) m).1 == (rd_T63 (seg (a, b) m) (p : Int)).f0 && ((orbA (a, b) m).2 == (rd_T63 (seg (a, b) m) (p : Int)).f1)) (orbA (a, b) m).1 (orbA (a, b) m).2 else none) else none) else spec_l01Orbit.j2 k (p : Int) (seg (a, b) m) false (orbA (a, b) m).1 (orbA (a, b) m).2) (fun k => by rw [spec_l01Orbit.l1]) ?_
      simp only [seg_length]
      by_cases z : p < m
      · simp only [if_pos (show (m : Int) > (p : Int) by omega), if_pos (show 0 ≤ (p : Int) by omega), if_pos (show (p : Int) < (m : Int) by omega)]
        have e : rd_T63 (seg (a, b) m) (p : Int) = toS (orbA (a, b) p) := by
          unfold rd_T63
          rw [Int.toNat_natCast, List.getD_eq_getElem?_getD, List.getElem?_eq_getElem (by rw [seg_length]; exact z), seg_get _ z]
          rfl
        rw [e]
        refine j2 _ ?_
        rw [Bool.eq_iff_iff]
        simp [toS, z, Prod.ext_iff]
      · simp only [if_neg (show ¬ ((m : Int) > (p : Int)) by omega)]
        exact j2 _ (by simp [z])
  have start := loop 65 0 (by omega) (by omega)
  have pre : ∀ (j : Nat) (c : Int), 0 ≤ c → c + j ≤ 1000000 → (2 : Int) ^ j * q ≤ 8191 → ∀ r, Ev (fun k => spec_l01Orbit.l1 k (c + j) [] a b) r → Ev (fun k => spec_l01Orbit.l0 k c (2 ^ j * q) a b) r := by
    intro j
    induction j with
    | zero =>
      intro c h0 h1 h2 r hr
      refine Ev.step (f := fun k => spec_l01Orbit.l1 k c [] a b) (fun k => ?_) (by simpa using hr)
      have e : Int.tmod ((2 : Int) ^ 0 * q) 2 = 1 := by
        rw [Int.tmod_eq_emod_of_nonneg (by simp; omega)]
        simpa using hq
      rw [spec_l01Orbit.l0, e, if_neg (by omega)]
    | succ j ih =>
      intro c h0 h1 h2 r hr
      have e2 : (2 : Int) ^ (j + 1) * q = 2 * (2 ^ j * q) := by rw [Int.pow_succ]; grind
      have pos : (0 : Int) < 2 ^ j * q := Int.mul_pos (Int.pow_pos (by omega)) hq0
      rw [e2] at h2 ⊢
      refine Ev.step (f := fun k => spec_l01Orbit.l0 k (c + 1) (2 ^ j * q) a b) (fun k => ?_) (ih (c + 1) (by omega) (by omega) (by omega) r (by rw [show c + 1 + (j : Int) = c + ((j + 1 : Nat) : Int) by omega]; exact hr))
      have e : Int.tmod (2 * ((2 : Int) ^ j * q)) 2 = 0 := by
        rw [Int.tmod_eq_emod_of_nonneg (by omega)]
        omega
      have f : Int.tdiv (2 * ((2 : Int) ^ j * q)) 2 = 2 ^ j * q := by
        rw [Int.tdiv_eq_ediv_of_nonneg (by omega)]
        omega
      rw [spec_l01Orbit.l0, e, if_pos rfl, f, wrap_in (x := c + 1) (by omega) (by omega), wrap_in (x := (2 : Int) ^ j * q) (by omega) (by omega)]
  unfold spec_l01Orbit.f
  have hp : (p : Int) ≤ 1000000 := by
    have l : (p : Int) < 2 ^ p := by
      have : p < 2 ^ p := Nat.lt_two_pow_self
      exact_mod_cast this
    have : (2 : Int) ^ p * 1 ≤ 2 ^ p * q := Int.mul_le_mul_of_nonneg_left (by omega) (Int.pow_nonneg (by omega))
    omega
  have := pre p 0 (by omega) (by omega) (by omega) (orbGo (a, b) p 65 0) (by simpa [seg, orbA] using start)
  rw [← hx] at this
  exact this
end Go.Proofs.Ytmhpbilkocnlnaa.Q
end
section
namespace Go.Proofs.Ytmhpbilkocnlnaa.Q
open Go.Proofs.YtmhpbilkocnlnaaW.Ext
open Go.RowKit Go.Proofs.YtmhpbilkocnlnaaW.PrintWords Go.Proofs.YtmhpbilkocnlnaaW.PrintLast Go.Proofs.YtmhpbilkocnlnaaW.PrintMore
attribute [local go_sem] max2_int min2_int max_two min_two max_three min_three max_four min_four   -- for this text's walks alone
set_option linter.unusedVariables false
set_option linter.unusedSimpArgs false
def IsS59 (w0 W:World) (g:Nat) (f0:List Int) (f1:Int) (f2:Int):Prop:=∃ A0 c0,W.heap[g]? = some (.cells #[.slice A0 f0.length c0,.int .i64 f1,.int .u64 f2] 59 (0,0)) ∧ w0.heap.size ≤ g ∧ Kd.C (Kd.int .u8) w0 A0 f0.length f0
theorem IsS59.grown {w0 W:World} {g:Nat} {f0:List Int} {f1:Int} {f2:Int} {W1:World} {row:Option Nat} (h:IsS59 w0 W g f0 f1 f2) (hw:W.grownBy W1 row) (hne:some g ≠ row):IsS59 w0 W1 g f0 f1 f2:=by
 obtain ⟨A0,c0,hb,hg,hr0⟩:=h
 exact ⟨A0,c0,blk_grown hb hw hne,hg,hr0⟩
theorem IsS59.kept {w0 W:World} {g:Nat} {f0:List Int} {f1:Int} {f2:Int} {W1:World} {S:Nat → Prop} (h:IsS59 w0 W g f0 f1 f2) (hk:Kept W W1 S) (hne:¬ S g):IsS59 w0 W1 g f0 f1 f2:=by
 obtain ⟨A0,c0,hb,hg,hr0⟩:=h
 exact ⟨A0,c0,blk_kept hb hk hne,hg,hr0⟩
theorem IsS59.below {w0 W:World} {g:Nat} {f0:List Int} {f1:Int} {f2:Int} {W1:World} (h:IsS59 w0 W g f0 f1 f2) (hw:Below W.heap.size W W1):IsS59 w0 W1 g f0 f1 f2:=h.grown (grown_of_below hw none) (by simp)
theorem IsS59.alloc {w0 W:World} {g:Nat} {f0:List Int} {f1:Int} {f2:Int} (h:IsS59 w0 W g f0 f1 f2) (o:Obj):IsS59 w0 (W.alloc o) g f0 f1 f2:=h.below (zA (Below.refl _ _) o)
theorem IsS59.drewN {w0 W:World} {g:Nat} {f0:List Int} {f1:Int} {f2:Int} (h:IsS59 w0 W g f0 f1 f2) (m:Nat):IsS59 w0 (W.drewN m) g f0 f1 f2:=h
theorem IsS59.drew {w0 W:World} {g:Nat} {f0:List Int} {f1:Int} {f2:Int} (h:IsS59 w0 W g f0 f1 f2):IsS59 w0 W.drew g f0 f1 f2:=h
theorem IsS59.at_ {w0 W:World} {g:Nat} {f0:List Int} {f1:Int} {f2:Int} {w':World} {m:Nat} (hq:W.drewN m = w') (h:IsS59 w0 W g f0 f1 f2):IsS59 w0 w' g f0 f1 f2:=by subst hq;exact IsS59.drewN h m
theorem IsS59.apart {w0 W:World} {g:Nat} {f0:List Int} {f1:Int} {f2:Int} {α:Type} {d:Kd α} {e:Nat} {base:Nat} {ok:Nat → Prop} {v:Value} {xs:List α} (h:IsS59 w0 W g f0 f1 f2) (ho:d.R e W base ok v xs) (ht:∀ q,q ∈ e :: d.E → q ≠ 59):d.R e W base (fun k=>ok k ∧ k ≠ g) v xs:=by
 obtain ⟨A0,c0,hb,hg,hr0⟩:=h
 exact Kd.R_types ho hb ht
theorem IsS59.own_ne {w0 W:World} {g:Nat} {f0:List Int} {f1:Int} {f2:Int} {α:Type} {d:Kd α} {e:Nat} {base:Nat} {ok:Nat → Prop} {v:Value} {xs:List α} (h:IsS59 w0 W g f0 f1 f2) (ho:d.R e W base ok v xs) (ht:e ≠ 59):some g ≠ v.ownBlock:=by
 obtain ⟨A0,c0,hb,hg,hr0⟩:=h
 exact Kd.R_ne ho hb ht
theorem IsS59.lt {w0 W:World} {g:Nat} {f0:List Int} {f1:Int} {f2:Int} (h:IsS59 w0 W g f0 f1 f2):g < W.heap.size:=by
 obtain ⟨A0,c0,hb,hg,hr0⟩:=h
 exact blk_lt hb
theorem IsS59.ge {w0 W:World} {g:Nat} {f0:List Int} {f1:Int} {f2:Int} (h:IsS59 w0 W g f0 f1 f2):w0.heap.size ≤ g:=by
 obtain ⟨A0,c0,hb,hg,hr0⟩:=h
 exact hg
theorem cellS59_0 {W:World} {g:Nat} {A0:Option Addr} {c0:Nat} {f0:List Int} {f1:Int} {f2:Int} (h:W.heap[g]? = some (.cells #[.slice A0 f0.length c0,.int .i64 f1,.int .u64 f2] 59 (0,0))):W.cell? ⟨g,0,none⟩ = some (.slice A0 f0.length c0):=(blk_cell h 0).trans rfl
theorem cellS59_1 {W:World} {g:Nat} {A0:Option Addr} {c0:Nat} {f0:List Int} {f1:Int} {f2:Int} (h:W.heap[g]? = some (.cells #[.slice A0 f0.length c0,.int .i64 f1,.int .u64 f2] 59 (0,0))):W.cell? ⟨g,1,none⟩ = some (.int .i64 f1):=(blk_cell h 1).trans rfl
theorem IsS59.set_1 {w0 W:World} {g:Nat} {f0:List Int} {f1:Int} {f2:Int} (h:IsS59 w0 W g f0 f1 f2) (x:Int):IsS59 w0 (W.setCell ⟨g,1,none⟩ (.int .i64 x)) g f0 x f2:=by
 obtain ⟨A0,c0,hb,hg,hr0⟩:=h
 exact ⟨A0,c0,by simpa using blk_set hb 1 (.int .i64 x),hg,hr0⟩
theorem cellS59_2 {W:World} {g:Nat} {A0:Option Addr} {c0:Nat} {f0:List Int} {f1:Int} {f2:Int} (h:W.heap[g]? = some (.cells #[.slice A0 f0.length c0,.int .i64 f1,.int .u64 f2] 59 (0,0))):W.cell? ⟨g,2,none⟩ = some (.int .u64 f2):=(blk_cell h 2).trans rfl
theorem IsS59.set_2 {w0 W:World} {g:Nat} {f0:List Int} {f1:Int} {f2:Int} (h:IsS59 w0 W g f0 f1 f2) (x:Int):IsS59 w0 (W.setCell ⟨g,2,none⟩ (.int .u64 x)) g f0 f1 x:=by
 obtain ⟨A0,c0,hb,hg,hr0⟩:=h
 exact ⟨A0,c0,by simpa using blk_set hb 2 (.int .u64 x),hg,hr0⟩
theorem IsS59.new (w0 W:World) (A0:Option Addr) (c0:Nat) (f0:List Int) (f1:Int) (f2:Int) (hB:Below w0.heap.size w0 W) (hr0:Kd.C (Kd.int .u8) w0 A0 f0.length f0):IsS59 w0 (W.alloc (.cells #[.slice A0 f0.length c0,.int .i64 f1,.int .u64 f2] 59)) W.heap.size f0 f1 f2:=⟨A0,c0,by simpa using heap_alloc_new W _,hB.size,hr0⟩
def spec_l01From.l0:Nat → List Int → Int → List Int → Int → Int → Option (List Int × Int × Int)
 | 0,_,_,_,_,_=>none
 | k + 1,x0,x4,x102000,x102001,x102002=>if x4 < (x0.length:Int) then (if x4 < 4096 then (if 0 ≤ x4 then (spec_l01From.l0 k x0 (wrap64 (x4 + 1)) x102000 x102001 (IntKind.u64.wrap ((IntKind.u64.wrap ((IntKind.u64.wrap (x102002 * 1099511628211)) + (IntKind.u64.wrap (rd x0 x4)))) + 53))) else (none)) else (some (x102000,x102001,x102002))) else (some (x102000,x102001,x102002))
def spec_l01From.f (k:Nat) (l0:List Int):Option (List Int × Int × Int):=spec_l01From.l0 k l0 0 l0 0 (IntKind.u64.wrap (11437 + (IntKind.u64.wrap ((l0.length:Int)))))
theorem spec_l01From.mono_l:∀ k,(∀ y0 y1 y2 y3 y4,LeO (spec_l01From.l0 k y0 y1 y2 y3 y4) (spec_l01From.l0 (k + 1) y0 y1 y2 y3 y4))
 | 0=>fun _ _ _ _ _ r h=>by simp [spec_l01From.l0] at h
 | k + 1=>by
  have ih0:=spec_l01From.mono_l k
  ·intro y0 y1 y2 y3 y4
   unfold spec_l01From.l0
   repeat' first
   | (with_reducible exact ih0 _ _ _ _ _)
   | (with_reducible exact LeO.refl _)
   | (with_reducible exact LeO.none _)
   | (with_reducible refine LeO.ite ?_ ?_)
   | (with_reducible refine LeO.bind ?_ (fun _=>?_))
   | exact ih0 _ _ _ _ _
   | exact LeO.none _
   | refine LeO.ite ?_ ?_
   | refine LeO.bind ?_ (fun _=>?_)
theorem spec_l01From.mono:∀ a0 k,LeO (spec_l01From.f k a0) (spec_l01From.f (k + 1) a0):=by
 intro a0 k
 have ih0:=spec_l01From.mono_l k
 unfold spec_l01From.f
 repeat' first
   | (with_reducible exact ih0 _ _ _ _ _)
   | (with_reducible exact LeO.refl _)
   | (with_reducible exact LeO.none _)
   | (with_reducible refine LeO.ite ?_ ?_)
   | (with_reducible refine LeO.bind ?_ (fun _=>?_))
   | exact ih0 _ _ _ _ _
   | exact LeO.none _
   | refine LeO.ite ?_ ?_
   | refine LeO.bind ?_ (fun _=>?_)
def spec_l01From.T5:Bool × List (List Nat × List Nat):=(true,[([],[]),([],[]),([1],[1]),([2],[2]),([3],[3]),([4],[4]),([],[]),([],[]),([6,7],[6,7]),([8],[8]),([9],[9]),([5,10],[5,10]),([11],[11]),([0,0,1,2,3,4,5,6,7,8,9,10,11,12],[0]),([13,0,1,2,3,4,5,6,7,8,9,10,11,12],[13]),([14,12,0,1,2,3,4,5,6,7,8,9,10,11,12],[12,14])])
def spec_l01From.B5:List Nat:=[0,0,2,6,14,30,0,0,192,448,960,2046,4094,8191,16383,32767]
theorem spec_l01From.tab5:rtab .any (opsOf Try.f17 5) = spec_l01From.T5:=by kernel_rfl
theorem spec_l01From.bits5:waitsOk spec_l01From.T5.2 spec_l01From.B5 = true:=by kernel_rfl
set_option maxHeartbeats 8000000 in
set_option maxRecDepth 100000 in
theorem spec_l01From.calls (k:Nat) (A0:Option Addr) (c0:Nat) (l0:List Int) (r1:List Int) (r2:Int) (r3:Int) (w0 w:World) (hB:Below w0.heap.size w0 w) (hr0:Kd.C (Kd.int .u8) w0 A0 l0.length l0) (hc0:l0.length ≤ c0) (h:spec_l01From.f k l0 = some (r1,r2,r3)) :
  Calls Try.prog 17 #[.slice A0 l0.length c0] w fun e w'=>∃ g_:Nat,e = .returned (.pointer (some ⟨g_,0,none⟩)) ∧ IsS59 w0 w' g_ r1 r2 r3 ∧ Below w0.heap.size w0 w' ∧ Below w.heap.size w w':=by
 have hu59:=Try.underlying59
 have HR0:=aM hr0;have HC0:=aM hc0
 clear hr0 hc0
 have HBW:=aM (Below.refl w.heap.size w);have HW0:=aM hB.size;have HB:=aM hB
 clear hB
 have H:(spec_l01From.l0 k l0 0 l0 0 (IntKind.u64.wrap (11437 + (IntKind.u64.wrap ((l0.length:Int)))))) = some (r1,r2,r3):=h
 clear h
 have H':=aM H
 clear H
 go_enter Try.func17,Try.ntmps17
 go_wp2_with (first|((with_reducible refine gate_dst (N:=11) rfl ?_);refine box_event rfl (N:=11) rfl (cs:=#[.slice A0 l0.length c0,.int .i64 0,.int .u64 (IntKind.u64.wrap (11437 + (IntKind.u64.wrap ((l0.length:Int)))))]) (t:=59) (by first|(go_simp;done)|(go_simp;rfl)) ?_;intro gb101 hg w2 hbox hb;have BK101:=aM (hbox);have GW101:=wl hg HBW;have GE101:=aM ((Nat.le_trans HW0.out (by rw [hg];exact (below_size (bb HBW)):w.heap.size ≤ gb101):w0.heap.size ≤ gb101));replace HBW:=aM (below_step HBW.out hb);replace HB:=bs HB hb;clear hb hbox hg))
 go_loopg [4] k (fun kq v4 w'=>∃ (x4_1:Int) (x102002_1:Int),v4 = .int .i64 x4_1 ∧ Aside0 (spec_l01From.l0 kq l0 x4_1 l0 0 x102002_1 = some (r1,r2,r3)) ∧ Aside0 (kq ≤ k) ∧ Aside0 (w'.heap[gb101]? = some (.cells #[(.slice A0 l0.length c0),.int .i64 0,.int .u64 x102002_1] 59 (0,0))) ∧ Aside0 (Below w0.heap.size w0 w') ∧ Aside0 (Below w.heap.size w w'))
 case atStart=>exact ⟨(0),(IntKind.u64.wrap (11437 + (IntKind.u64.wrap ((l0.length:Int))))),(by first|rfl|(simp;done)|(simp [*];done)),H',⟨Nat.le_refl _⟩,⟨bk BK101⟩,⟨bb HB⟩,⟨bb HBW⟩⟩
 case round =>
  clear H'
  try clear c1
  try clear p2
  obtain ⟨x4_1,x102002_1,rfl,HA,HK1,BK101,HB,HBW⟩:=hrel
  cases gk with
  | zero=>exact absurd HA.out (by simp [spec_l01From.l0])
  | succ k1 =>
   have H:=HA.out
   clear HA
   simp only [spec_l01From.l0] at H
   by_cases c3:x4_1 < (l0.length:Int)
   ·rw [if_pos c3] at H
    have c3b0:decide (x4_1 < (l0.length:Int)) = true:=decide_eq_true c3
    clear c3
    by_cases c4:x4_1 < 4096
    ·rw [if_pos c4] at H
     have c4b0:decide (x4_1 < 4096) = true:=decide_eq_true c4
     clear c4
     by_cases c5:0 ≤ x4_1
     ·rw [if_pos c5] at H
      have c5b0:decide (0 ≤ x4_1) = true:=decide_eq_true c5
      clear c5
      have H':=aM H
      clear H
      try go_wp2
      have n0_:=aM (yD BK101.out);have n1_:=aM (zD HB.out);have n2_:=aM (zD HBW.out)
      clear BK101
      clear HB
      have BK101:=n0_
      have HB:=n1_
      clear HBW
      have HBW:=n2_
      clear n0_ n1_ n2_
      have p102:0 ≤ (x4_1:Int):=of_decide_eq_true (by assumption)
      have q102:x4_1 < (l0.length:Int):=of_decide_eq_true (by assumption)
      obtain ⟨ad102,e102,hx102_0⟩:=Kd.at_int HR0.out x4_1 p102 q102
      have hw102_0:=hx102_0
      cases e102
      replace hx102_0:=pw_cell_below HB.out hx102_0;replace p102:=eq_true p102;replace q102:=eq_true q102
      refine start_ (n:=16) (S:=fun w'=>w'.cell? ⟨gb101,0,none⟩ = some (.slice (some ad102) l0.length c0) ∧ w'.cell? ⟨gb101,1,none⟩ = some (.int .i64 0) ∧ w'.cell? ⟨gb101,2,none⟩ = some (.int .u64 x102002_1) ∧ w'.cell? (ad102.add (x4_1).toNat) = some (.int .u8 (rd l0 x4_1))) (ds:=[15]) #[fF,fF,fF,fF,fF,fF,fF,fF,fF,fF,fF,fF,fF,fF,fF,fF] (by kernel_rfl) rfl rfl ⟨(blk_cell BK101.out 0).trans rfl,(blk_cell BK101.out 1).trans rfl,(blk_cell BK101.out 2).trans rfl,((HB.out.cell (World.block_lt_of_cell? _ _ hw102_0)).trans hw102_0)⟩ (fun hHeld=>?_);refine with_tabW spec_l01From.tab5 spec_l01From.bits5 (fun HT_ HW_=>?_)
      generalize wr.drew = w6 at BK101 HB HBW hx102_0 hHeld ⊢
      refine pz 22 0 #[tT,fF,fF,fF,fF,fF,fF,fF,fF,fF,fF,fF,fF,fF,fF,fF] HT_ rfl rfl (by kernel_rfl) (fun _ _ _ h=>h) (by rfl) (by intro w';go_simp;with_reducible rfl) (by simp only [Act.put,sI,sZ,sS,i64_w,i32_w];rfl) ?_
      refine pz 23 1 #[tT,tT,fF,fF,fF,fF,fF,fF,fF,fF,fF,fF,fF,fF,fF,fF] HT_ rfl rfl (by kernel_rfl) (fun _ _ _ h=>h) (by rfl) (by intro w';go_simp;with_reducible rfl) (by simp only [Act.put,sI,sZ,sS,i64_w,i32_w];rfl) ?_
      refine pz 24 2 #[tT,tT,tT,fF,fF,fF,fF,fF,fF,fF,fF,fF,fF,fF,fF,fF] HT_ rfl rfl (by kernel_rfl) (fun _ _ _ h=>h) (by rfl) (by intro w';go_simp;with_reducible rfl) (by simp only [Act.put,sI,sZ,sS,i64_w,i32_w];rfl) ?_
      refine pz 25 3 #[tT,tT,tT,tT,fF,fF,fF,fF,fF,fF,fF,fF,fF,fF,fF,fF] HT_ rfl rfl (by kernel_rfl) (fun _ _ _ h=>h) (by rfl) (by intro w';go_simp;with_reducible rfl) (by simp only [Act.put,sI,sZ,sS,i64_w,i32_w];rfl) ?_
      refine pz 28 6 #[tT,tT,tT,tT,fF,fF,tT,fF,fF,fF,fF,fF,fF,fF,fF,fF] HT_ rfl rfl (by kernel_rfl) (fun _ _ _ h=>h) (by rfl) (by intro w';go_simp;with_reducible rfl) (by simp only [Act.put,sI,sZ,sS,i64_w,i32_w];rfl) ?_
      refine pz 29 7 #[tT,tT,tT,tT,fF,fF,tT,tT,fF,fF,fF,fF,fF,fF,fF,fF] HT_ rfl rfl (by kernel_rfl) (fun _ _ _ h=>h) (by rfl) (by intro w';go_simp;with_reducible rfl) (by simp only [Act.put,sI,sZ,sS,i64_w,i32_w];rfl) ?_
      refine pz 30 8 #[tT,tT,tT,tT,fF,fF,tT,tT,tT,fF,fF,fF,fF,fF,fF,fF] HT_ rfl rfl (by kernel_rfl) (fun _ _ _ h=>h) (by rfl) (by intro w';go_simp;with_reducible rfl) (by simp only [Act.put,sI,sZ,sS,i64_w,i32_w];rfl) ?_
      refine tz 26 4 #[tT,tT,tT,tT,tT,fF,tT,tT,tT,fF,fF,fF,fF,fF,fF,fF] HT_ HW_ hHeld rfl rfl (by kernel_rfl) (fun _ _ _ h=>h) (by rfl) (by rintro w' ⟨s0,s1,s2,s3⟩;go_simp;with_reducible rfl) (by simp only [Act.put,sI,sZ,sS,i64_w,i32_w];rfl) ?_
      refine pz 27 5 #[tT,tT,tT,tT,tT,tT,tT,tT,tT,fF,fF,fF,fF,fF,fF,fF] HT_ rfl rfl (by kernel_rfl) (fun _ _ _ h=>h) (by rfl) (by intro w';go_simp;with_reducible rfl) (by simp only [Act.put,sI,sZ,sS,i64_w,i32_w];rfl) ?_
      refine tz 31 9 #[tT,tT,tT,tT,tT,tT,tT,tT,tT,tT,fF,fF,fF,fF,fF,fF] HT_ HW_ hHeld rfl rfl (by kernel_rfl) (fun _ _ _ h=>h) (by rfl) (by rintro w' ⟨s0,s1,s2,s3⟩;go_simp;with_reducible rfl) (by simp only [Act.put,sI,sZ,sS,i64_w,i32_w];rfl) ?_
      refine pz 32 10 #[tT,tT,tT,tT,tT,tT,tT,tT,tT,tT,tT,fF,fF,fF,fF,fF] HT_ rfl rfl (by kernel_rfl) (fun _ _ _ h=>h) (by rfl) (by intro w';go_simp;with_reducible rfl) (by simp only [Act.put,sI,sZ,sS,i64_w,i32_w];rfl) ?_
      refine pz 33 11 #[tT,tT,tT,tT,tT,tT,tT,tT,tT,tT,tT,tT,fF,fF,fF,fF] HT_ rfl rfl (by kernel_rfl) (fun _ _ _ h=>h) (by rfl) (by intro w';go_simp;with_reducible rfl) (by simp only [Act.put,sI,sZ,sS,i64_w,i32_w];rfl) ?_
      refine pz 34 12 #[tT,tT,tT,tT,tT,tT,tT,tT,tT,tT,tT,tT,tT,fF,fF,fF] HT_ rfl rfl (by kernel_rfl) (fun _ _ _ h=>h) (by rfl) (by intro w';go_simp;with_reducible rfl) (by simp only [Act.put,sI,sZ,sS,i64_w,i32_w];rfl) ?_
      refine pz 35 13 #[tT,tT,tT,tT,tT,tT,tT,tT,tT,tT,tT,tT,tT,tT,fF,fF] HT_ rfl rfl (by kernel_rfl) (fun _ _ _ h=>h) (by rfl) (by intro w';go_simp;with_reducible rfl) (by simp only [Act.put,sI,sZ,sS,i64_w,i32_w];rfl) ?_
      refine pz 36 14 #[tT,tT,tT,tT,tT,tT,tT,tT,tT,tT,tT,tT,tT,tT,tT,fF] HT_ rfl rfl (by kernel_rfl) (fun _ _ _ h=>h) (by rfl) (by intro w';go_simp;with_reducible rfl) (by simp only [Act.put,sI,sZ,sS,i64_w,i32_w];rfl) ?_
      refine last_ (i:=15) (N:=none) #[tT,tT,tT,tT,tT,tT,tT,tT,tT,tT,tT,tT,tT,tT,tT,tT] rfl rfl (one_of HT_.out (by kernel_rfl)) (by decide) (fun K hK=>?_)
      have hs7:w6.cell? ⟨gb101,2,none⟩ = some (.int .u64 x102002_1):=(blk_cell BK101.out 2).trans rfl
      have hfs7:=blk_frozen BK101.out 2
      refine skip_ (w1:=?_) (by rfl) rfl ?_ ?_
      rotate_left
      ·go_simp
       rfl
      refine hK.out _ _ ?_
      clear hK K
      refine done_ (done_of HT_.out (by kernel_rfl)) ?_
      try go_wp2
      go_roundg k1
      case measure=>have:=HK1.out;omega
      case rel=>exact ⟨(wrap64 (x4_1 + 1)),(IntKind.u64.wrap ((IntKind.u64.wrap ((IntKind.u64.wrap (x102002_1 * 1099511628211)) + (IntKind.u64.wrap (rd l0 x4_1)))) + 53)),(by first|rfl|(simp;done)|(simp [*];done)),H',⟨by have:=HK1.out;omega⟩,⟨by (with_reducible repeat (first|apply yN|apply yD|apply yA));refine blk_put (cs:=#[.slice (some ad102) l0.length c0,.int .i64 0,.int .u64 x102002_1]) ?_ 2 _ rfl;(with_reducible repeat (first|apply yN|apply yD|apply yA));exact BK101.out⟩,⟨by first|exact bb HB|exact bg HB GE101⟩,⟨by first|exact bb HBW|exact bg HBW GW101⟩⟩
     ·rw [if_neg c5] at H
      exact absurd H (by simp)
    ·rw [if_neg c4] at H
     have c4b0:decide (x4_1 < 4096) = false:=decide_eq_false c4
     clear c4
     simp only [Option.some.injEq,Prod.mk.injEq] at H
     obtain ⟨rfl,rfl,rfl⟩:=H
     go_wp2
     go_ret
     exact ⟨_,rfl,(show IsS59 w0 _ gb101 l0 0 x102002_1 from ⟨_,_,bk BK101,GE101.out,HR0.out⟩),bb HB,bb HBW⟩
   ·rw [if_neg c3] at H
    have c3b0:decide (x4_1 < (l0.length:Int)) = false:=decide_eq_false c3
    clear c3
    simp only [Option.some.injEq,Prod.mk.injEq] at H
    obtain ⟨rfl,rfl,rfl⟩:=H
    go_wp2
    go_ret
    exact ⟨_,rfl,(show IsS59 w0 _ gb101 l0 0 x102002_1 from ⟨_,_,bk BK101,GE101.out,HR0.out⟩),bb HB,bb HBW⟩
def spec_l01Next.f (s0_0:List Int) (s0_1:Int) (s0_2:Int) (a1:Int):Option (Int × Int × Int):=if a1 < 1 then (some (0,s0_1,s0_2)) else (if s0_1 < (s0_0.length:Int) then (if 0 ≤ s0_1 then (if a1 = 0 then (none) else (some (Int.tmod (wrap64 ((wrap64 (Go.bits .and .u64 ((IntKind.u64.wrap ((IntKind.u64.wrap (s0_2 * 6364136223846793005)) + 1442695040888963407)) / 8589934592) 16777215)) + (wrap64 (rd s0_0 s0_1)))) a1,wrap64 (s0_1 + 1),IntKind.u64.wrap ((IntKind.u64.wrap (s0_2 * 6364136223846793005)) + 1442695040888963407)))) else (none)) else (if a1 = 0 then (none) else (some (Int.tmod (wrap64 (Go.bits .and .u64 ((IntKind.u64.wrap ((IntKind.u64.wrap (s0_2 * 6364136223846793005)) + 1442695040888963407)) / 8589934592) 16777215)) a1,s0_1,IntKind.u64.wrap ((IntKind.u64.wrap (s0_2 * 6364136223846793005)) + 1442695040888963407)))))
set_option maxHeartbeats 8000000 in
set_option maxRecDepth 100000 in
theorem spec_l01Next.calls (g:Nat) (s0_0:List Int) (s0_1:Int) (s0_2:Int) (a1:Int) (r1:Int) (r2:Int) (r3:Int) (w0 w:World) (hI:IsS59 w0 w g s0_0 s0_1 s0_2) (hB:Below w0.heap.size w0 w) (h:spec_l01Next.f s0_0 s0_1 s0_2 a1 = some (r1,r2,r3)) :
  Calls Try.prog 35 #[.pointer (some ⟨g,0,none⟩),.int .i64 a1] w fun e w'=>e = .returned (.int .i64 r1) ∧ IsS59 w0 w' g s0_0 r2 r3 ∧ Below w0.heap.size w0 w' ∧ KeepBut w w' g none:=by
 have HI0:=aM hI;have HK:=aM (KeepBut.refl w g none);have HL:=aM hB.size
 clear hI
 have HW0:=aM hB.size;have HB:=aM hB
 clear hB
 have H:(if a1 < 1 then (some (0,s0_1,s0_2)) else (if s0_1 < (s0_0.length:Int) then (if 0 ≤ s0_1 then (if a1 = 0 then (none) else (some (Int.tmod (wrap64 ((wrap64 (Go.bits .and .u64 ((IntKind.u64.wrap ((IntKind.u64.wrap (s0_2 * 6364136223846793005)) + 1442695040888963407)) / 8589934592) 16777215)) + (wrap64 (rd s0_0 s0_1)))) a1,wrap64 (s0_1 + 1),IntKind.u64.wrap ((IntKind.u64.wrap (s0_2 * 6364136223846793005)) + 1442695040888963407)))) else (none)) else (if a1 = 0 then (none) else (some (Int.tmod (wrap64 (Go.bits .and .u64 ((IntKind.u64.wrap ((IntKind.u64.wrap (s0_2 * 6364136223846793005)) + 1442695040888963407)) / 8589934592) 16777215)) a1,s0_1,IntKind.u64.wrap ((IntKind.u64.wrap (s0_2 * 6364136223846793005)) + 1442695040888963407)))))) = some (r1,r2,r3):=h
 clear h
 by_cases c3:a1 < 1
 ·rw [if_pos c3] at H
  have c3b0:decide (a1 < 1) = true:=decide_eq_true c3
  clear c3
  simp only [Option.some.injEq,Prod.mk.injEq] at H
  obtain ⟨rfl,rfl,rfl⟩:=H
  go_enter Try.func35,Try.ntmps35
  go_wp2
  repeat (go_quiet (fail);try go_wp2)
  go_ret
  exact ⟨rfl,by repeat (first|(with_reducible first|exact HI0.out|apply IsS59.alloc|apply IsS59.drewN|apply IsS59.drew|apply IsS59.set_1|apply IsS59.set_2)|exact HI0.out),by repeat (first|(with_reducible first|exact HB.out|apply zA|apply zN|apply zD|refine zS ?_ (IsS59.ge HI0.out))|exact HB.out),by repeat (first|(with_reducible first|exact HK.out|apply kS|apply kN|apply kD|apply kA)|exact HK.out)⟩
 ·rw [if_neg c3] at H
  have c3b0:decide (a1 < 1) = false:=decide_eq_false c3
  clear c3
  by_cases c4:s0_1 < (s0_0.length:Int)
  ·rw [if_pos c4] at H
   have c4b0:decide (s0_1 < (s0_0.length:Int)) = true:=decide_eq_true c4
   clear c4
   by_cases c5:0 ≤ s0_1
   ·rw [if_pos c5] at H
    have c5b0:decide (0 ≤ s0_1) = true:=decide_eq_true c5
    clear c5
    by_cases c6:a1 = 0
    ·rw [if_pos c6] at H
     exact absurd H (by simp)
    ·rw [if_neg c6] at H
     have c6b0:(a1 == 0) = false:=beq_eq_false_iff_ne.mpr c6
     have c6b1:(a1 != 0) = true:=bne_iff_ne.mpr c6
     simp only [Option.some.injEq,Prod.mk.injEq] at H
     obtain ⟨rfl,rfl,rfl⟩:=H
     obtain ⟨ASz7_0,cSz7_0,HGz7,hgz7,HSz7_0⟩:=HI0.out
     have hcz7_0:=cellS59_0 HGz7;have hcz7_1:=cellS59_1 HGz7;have hcz7_2:=cellS59_2 HGz7;have hfz7_1:=blk_frozen HGz7 1;have hfz7_2:=blk_frozen HGz7 2
     clear HGz7 hgz7
     have p103:0 ≤ (s0_1:Int):=of_decide_eq_true (by assumption)
     have q103:s0_1 < (s0_0.length:Int):=of_decide_eq_true (by assumption)
     obtain ⟨ad103,e103,hx103_0⟩:=Kd.at_int HSz7_0 s0_1 p103 q103
     cases e103
     have hn103_0:ad103.block ≠ g:=Nat.ne_of_lt (Nat.lt_of_lt_of_le (by have:=World.block_lt_of_cell? _ _ hx103_0;first|rwa [add_block] at this|exact this) (IsS59.ge HI0.out))
     replace hx103_0:=pw_cell_below HB.out hx103_0;replace hx103_0:=(cell_far (p:=⟨g,2,none⟩) (by first|(rw [add_block];exact hn103_0)|(show (Addr.add _ _).block ≠ _;rw [add_block];exact hn103_0)|exact hn103_0) (.int .u64 (IntKind.u64.wrap ((IntKind.u64.wrap (s0_2 * 6364136223846793005)) + 1442695040888963407)))).trans hx103_0
     (try have hy103_0:=fun (n_:Nat)=>(show (((w.drewN n_).setCell ⟨g,2,none⟩ (.int .u64 (IntKind.u64.wrap ((IntKind.u64.wrap (s0_2 * 6364136223846793005)) + 1442695040888963407))))).cell? _ = some _ from hx103_0))
     clear hn103_0
     replace p103:=eq_true p103;replace q103:=eq_true q103
     go_enter Try.func35,Try.ntmps35
     go_wp2
     repeat (go_quiet (fail);try go_wp2)
     go_ret
     exact ⟨rfl,by repeat (first|(with_reducible first|exact HI0.out|apply IsS59.alloc|apply IsS59.drewN|apply IsS59.drew|apply IsS59.set_1|apply IsS59.set_2)|exact HI0.out),by repeat (first|(with_reducible first|exact HB.out|apply zA|apply zN|apply zD|refine zS ?_ (IsS59.ge HI0.out))|exact HB.out),by repeat (first|(with_reducible first|exact HK.out|apply kS|apply kN|apply kD|apply kA)|exact HK.out)⟩
   ·rw [if_neg c5] at H
    exact absurd H (by simp)
  ·rw [if_neg c4] at H
   have c4b0:decide (s0_1 < (s0_0.length:Int)) = false:=decide_eq_false c4
   clear c4
   by_cases c8:a1 = 0
   ·rw [if_pos c8] at H
    exact absurd H (by simp)
   ·rw [if_neg c8] at H
    have c8b0:(a1 == 0) = false:=beq_eq_false_iff_ne.mpr c8
    have c8b1:(a1 != 0) = true:=bne_iff_ne.mpr c8
    simp only [Option.some.injEq,Prod.mk.injEq] at H
    obtain ⟨rfl,rfl,rfl⟩:=H
    obtain ⟨ASz9_0,cSz9_0,HGz9,hgz9,HSz9_0⟩:=HI0.out
    have hcz9_0:=cellS59_0 HGz9;have hcz9_1:=cellS59_1 HGz9;have hcz9_2:=cellS59_2 HGz9;have hfz9_1:=blk_frozen HGz9 1;have hfz9_2:=blk_frozen HGz9 2
    clear HGz9 hgz9
    go_enter Try.func35,Try.ntmps35
    go_wp2
    repeat (go_quiet (fail);try go_wp2)
    go_ret
    exact ⟨rfl,by repeat (first|(with_reducible first|exact HI0.out|apply IsS59.alloc|apply IsS59.drewN|apply IsS59.drew|apply IsS59.set_1|apply IsS59.set_2)|exact HI0.out),by repeat (first|(with_reducible first|exact HB.out|apply zA|apply zN|apply zD|refine zS ?_ (IsS59.ge HI0.out))|exact HB.out),by repeat (first|(with_reducible first|exact HK.out|apply kS|apply kN|apply kD|apply kA)|exact HK.out)⟩
def spec_l01Pick.f (s0_0:List Int) (s0_1:Int) (s0_2:Int) (l1:List Int):Option (Int × Int × Int):=(spec_l01Next.f s0_0 s0_1 s0_2 (l1.length:Int)).bind fun bt153=>(if 0 ≤ bt153.1 then (if bt153.1 < (l1.length:Int) then (some (rd l1 bt153.1,bt153.2.1,bt153.2.2)) else (none)) else (none))
set_option maxHeartbeats 8000000 in
set_option maxRecDepth 100000 in
theorem spec_l01Pick.calls (g:Nat) (s0_0:List Int) (s0_1:Int) (s0_2:Int) (A1:Option Addr) (c1:Nat) (l1:List Int) (r1:Int) (r2:Int) (r3:Int) (w0 w:World) (hI:IsS59 w0 w g s0_0 s0_1 s0_2) (hB:Below w0.heap.size w0 w) (hr1:Kd.C (Kd.int .i64) w A1 l1.length l1) (hc1:l1.length ≤ c1) (hf1:∀ ad,A1 = some ad → 0 < l1.length → ad.block ≠ g) (h:spec_l01Pick.f s0_0 s0_1 s0_2 l1 = some (r1,r2,r3)) :
  Calls Try.prog 37 #[.pointer (some ⟨g,0,none⟩),.slice A1 l1.length c1] w fun e w'=>e = .returned (.int .i64 r1) ∧ IsS59 w0 w' g s0_0 r2 r3 ∧ Below w0.heap.size w0 w' ∧ KeepBut w w' g none:=by
 have HR1:=aM hr1;have HC1:=aM hc1
 clear hr1 hc1
 have HI0:=aM hI;have HK:=aM (KeepBut.refl w g none);have HL:=aM hB.size
 clear hI
 have HW0:=aM hB.size;have HB:=aM hB
 clear hB
 have H:((spec_l01Next.f s0_0 s0_1 s0_2 (l1.length:Int)).bind fun bt153=>(if 0 ≤ bt153.1 then (if bt153.1 < (l1.length:Int) then (some (rd l1 bt153.1,bt153.2.1,bt153.2.2)) else (none)) else (none))) = some (r1,r2,r3):=h
 clear h
 replace H:=Option.bind_eq_some_iff.mp H
 obtain ⟨⟨t153,t154,t155⟩,A30,H⟩:=H
 replace H:(if 0 ≤ t153 then (if t153 < (l1.length:Int) then (some (rd l1 t153,t154,t155)) else (none)) else (none)) = some (r1,r2,r3):=H;have A3:=aM A30
 clear A30
 by_cases c4:0 ≤ t153
 ·rw [if_pos c4] at H
  have c4b0:decide (0 ≤ t153) = true:=decide_eq_true c4
  clear c4
  by_cases c5:t153 < (l1.length:Int)
  ·rw [if_pos c5] at H
   have c5b0:decide (t153 < (l1.length:Int)) = true:=decide_eq_true c5
   clear c5
   simp only [Option.some.injEq,Prod.mk.injEq] at H
   obtain ⟨rfl,rfl,rfl⟩:=H
   go_enter Try.func37,Try.ntmps37
   go_wp2_with (first|((with_reducible refine gate_callee (f:=35) rfl ?_);refine goesL_ (some 9) rfl rfl Try.func35 (by kernel_rfl) rfl #[.pointer (some ⟨g,0,none⟩),.int .i64 (l1.length:Int)] rfl (by (try simp only [sM,sC,sN]);first|done|rfl) ?_;(with_reducible refine (spec_l01Next.calls g s0_0 s0_1 s0_2 (l1.length:Int) t153 t154 t155 w0 _ ?side1 ?side2 A3.out).mono ?_);(case side1=>repeat (first|(with_reducible first|exact HI0.out|apply IsS59.alloc|apply IsS59.drewN|apply IsS59.drew|apply IsS59.set_1|apply IsS59.set_2)|exact HI0.out));(case side2=>repeat (first|(with_reducible first|exact HB.out|apply zA|apply zN|apply zD|refine zS ?_ (IsS59.ge HI0.out))|exact HB.out));rintro e w6 ⟨rfl,hi,hb,hk⟩;refine ⟨_,rfl,?_⟩;replace HK:=aM (KeepBut.trans (by repeat (first|(with_reducible first|exact HK.out|apply kS|apply kN|apply kD|apply kA)|exact HK.out)) hk (.inl rfl));replace HB:=aM (hb);replace HI0:=aM (hi);(try clear hb);have p156:0 ≤ (t153:Int):=of_decide_eq_true (by assumption);have q156:t153 < (l1.length:Int):=of_decide_eq_true (by assumption);obtain ⟨ad156,e156,hx156_0⟩:=Kd.at_int HR1.out t153 p156 q156;cases e156;replace hx156_0:=keep_cell HK.out hx156_0 (by first|(rw [add_block];exact hf1 _ rfl (by omega))|exact hf1 _ rfl (by omega)|exact hf1 ad156 rfl (by omega));replace p156:=eq_true p156;replace q156:=eq_true q156))
   go_ret
   exact ⟨rfl,by repeat (first|(with_reducible first|exact HI0.out|apply IsS59.alloc|apply IsS59.drewN|apply IsS59.drew|apply IsS59.set_1|apply IsS59.set_2)|exact HI0.out),by repeat (first|(with_reducible first|exact HB.out|apply zA|apply zN|apply zD|refine zS ?_ (IsS59.ge HI0.out))|exact HB.out),by repeat (first|(with_reducible first|exact HK.out|apply kS|apply kN|apply kD|apply kA)|exact HK.out)⟩
  ·rw [if_neg c5] at H
   exact absurd H (by simp)
 ·rw [if_neg c4] at H
  exact absurd H (by simp)
def spec_l02Itinerary.l0:Nat → List (S63) → Int → List Int → Int → Int → Int → Option (ByteArray × ByteArray × Bool)
 | 0,_,_,_,_,_,_=>none
 | k + 1,x6,x7,x9,x10,x129000,x129001=>if x10 < (x6.length:Int) then (if 0 ≤ x10 then ((spec_l02Letter.f k ((rd_T63 x6 x10).f0) ((rd_T63 x6 x10).f1) x129000 x129001).bind fun t139=>(if x9.length < 140737488355328 then (spec_l02Itinerary.l0 k x6 x7 (x9 ++ [t139]) (wrap64 (x10 + 1)) x129000 x129001) else (none))) else (none)) else (if 0 ≤ x7 then (if x7 ≤ (x9.length:Int) then ((spec_l01Canonical.f k (strOfNums (x9.take (x7:Int).toNat)) (strOfNums (x9.drop (x7:Int).toNat))).bind fun bt151=>(some (bt151.1,bt151.2,true))) else (none)) else (none))
def spec_l02Itinerary.f (k:Nat) (a0_0:Int) (a0_1:Int) (a1_0:Int) (a1_1:Int):Option (ByteArray × ByteArray × Bool):=(spec_l01Orbit.f k a0_0 a0_1).bind fun bt130=>(if bt130.2.2 = true then (spec_l02Itinerary.l0 k bt130.1 bt130.2.1 (([]:List Int)) 0 a1_0 a1_1) else (some ((⟨#[]⟩:ByteArray),(⟨#[]⟩:ByteArray),false)))
theorem spec_l02Itinerary.mono_l:∀ k,(∀ y0 y1 y2 y3 y4 y5,LeO (spec_l02Itinerary.l0 k y0 y1 y2 y3 y4 y5) (spec_l02Itinerary.l0 (k + 1) y0 y1 y2 y3 y4 y5))
 | 0=>fun _ _ _ _ _ _ r h=>by simp [spec_l02Itinerary.l0] at h
 | k + 1=>by
  have ih0:=spec_l02Itinerary.mono_l k
  ·intro y0 y1 y2 y3 y4 y5
   unfold spec_l02Itinerary.l0
   repeat' first
   | (with_reducible exact ih0 _ _ _ _ _ _)
   | (with_reducible exact spec_l01Canonical.mono _ _ _)
   | (with_reducible exact spec_l01Orbit.mono _ _ _)
   | (with_reducible exact spec_l02Letter.mono _ _ _ _ _)
   | (with_reducible exact LeO.refl _)
   | (with_reducible exact LeO.none _)
   | (with_reducible refine LeO.ite ?_ ?_)
   | (with_reducible refine LeO.bind ?_ (fun _=>?_))
   | exact ih0 _ _ _ _ _ _
   | exact spec_l01Canonical.mono _ _ _
   | exact spec_l01Orbit.mono _ _ _
   | exact spec_l02Letter.mono _ _ _ _ _
   | exact LeO.none _
   | refine LeO.ite ?_ ?_
   | refine LeO.bind ?_ (fun _=>?_)
theorem spec_l02Itinerary.mono:∀ a0 a1 a2 a3 k,LeO (spec_l02Itinerary.f k a0 a1 a2 a3) (spec_l02Itinerary.f (k + 1) a0 a1 a2 a3):=by
 intro a0 a1 a2 a3 k
 have ih0:=spec_l02Itinerary.mono_l k
 unfold spec_l02Itinerary.f
 repeat' first
   | (with_reducible exact ih0 _ _ _ _ _ _)
   | (with_reducible exact spec_l01Canonical.mono _ _ _)
   | (with_reducible exact spec_l01Orbit.mono _ _ _)
   | (with_reducible exact spec_l02Letter.mono _ _ _ _ _)
   | (with_reducible exact LeO.refl _)
   | (with_reducible exact LeO.none _)
   | (with_reducible refine LeO.ite ?_ ?_)
   | (with_reducible refine LeO.bind ?_ (fun _=>?_))
   | exact ih0 _ _ _ _ _ _
   | exact spec_l01Canonical.mono _ _ _
   | exact spec_l01Orbit.mono _ _ _
   | exact spec_l02Letter.mono _ _ _ _ _
   | exact LeO.none _
   | refine LeO.ite ?_ ?_
   | refine LeO.bind ?_ (fun _=>?_)
def spec_l02Itinerary.T8:Bool × List (List Nat × List Nat):=(true,[([],[]),([],[]),([],[]),([1,2],[1,2]),([3],[3]),([],[]),([4,5],[4,5]),([6],[6]),([0,7,6],[0,7]),([8,8,0,1,2,3,4,5,6,7,8],[0,8])])
def spec_l02Itinerary.B8:List Nat:=[0,0,0,6,14,0,62,126,255,511]
theorem spec_l02Itinerary.tab8:rtab .any (opsOf Try.f39 8) = spec_l02Itinerary.T8:=by kernel_rfl
theorem spec_l02Itinerary.bits8:waitsOk spec_l02Itinerary.T8.2 spec_l02Itinerary.B8 = true:=by kernel_rfl
def spec_l02Itinerary.T9:Bool × List (List Nat × List Nat):=(true,[([],[]),([],[]),([0,1],[0,1]),([2],[2]),([],[]),([],[]),([4,5],[4,5]),([6],[6]),([3,7],[3,7]),([8,8,0,1,2,3,4,5,6,7,8],[8]),([9,0,1,2,3,4,5,6,7,8,9],[])])
def spec_l02Itinerary.B9:List Nat:=[0,0,3,7,0,0,48,112,255,511,1023]
theorem spec_l02Itinerary.tab9:rtab .any (opsOf Try.f39 9) = spec_l02Itinerary.T9:=by kernel_rfl
theorem spec_l02Itinerary.bits9:waitsOk spec_l02Itinerary.T9.2 spec_l02Itinerary.B9 = true:=by kernel_rfl
set_option maxHeartbeats 8000000 in
set_option maxRecDepth 100000 in
theorem spec_l02Itinerary.calls (k:Nat) (a0_0:Int) (a0_1:Int) (a1_0:Int) (a1_1:Int) (r1:ByteArray) (r2:ByteArray) (r3:Bool) (w:World) (h:spec_l02Itinerary.f k a0_0 a0_1 a1_0 a1_1 = some (r1,r2,r3)) :
  Calls Try.prog 39 #[.agg #[.int .i64 a0_0,.int .i64 a0_1],.agg #[.int .i64 a1_0,.int .i64 a1_1]] w fun e w'=>e = .returned (.tuple #[.agg #[.string r1,.string r2],.bool r3]) ∧ Below w.heap.size w w':=by
 have hu63:=Try.underlying63
 have hu25:=Try.underlying25
 have HB:=aM (Below.refl w.heap.size w)
 have H:((spec_l01Orbit.f k a0_0 a0_1).bind fun bt130=>(if bt130.2.2 = true then (spec_l02Itinerary.l0 k bt130.1 bt130.2.1 (([]:List Int)) 0 a1_0 a1_1) else (some ((⟨#[]⟩:ByteArray),(⟨#[]⟩:ByteArray),false)))) = some (r1,r2,r3):=h
 clear h
 replace H:=Option.bind_eq_some_iff.mp H
 obtain ⟨⟨t130,t133,t134⟩,A30,H⟩:=H
 replace H:(if t134 = true then (spec_l02Itinerary.l0 k t130 t133 (([]:List Int)) 0 a1_0 a1_1) else (some ((⟨#[]⟩:ByteArray),(⟨#[]⟩:ByteArray),false))) = some (r1,r2,r3):=H;have A3:=aM A30
 clear A30
 by_cases c4:t134 = true
 ·subst c4
  have H1:(spec_l02Itinerary.l0 k t130 t133 (([]:List Int)) 0 a1_0 a1_1) = some (r1,r2,r3):=by rw [if_pos rfl] at H;exact H
  clear H
  have H:=H1
  clear H1
  obtain ⟨y135,hy135⟩:∃ y_:List Int,y_ = (([]:List Int)):=⟨_,rfl⟩
  replace H:(spec_l02Itinerary.l0 k t130 t133 y135 0 a1_0 a1_1) = some (r1,r2,r3):=by first|(rw [hy135];with_reducible exact H)|(have H2_:=(Option.bind_some _ _).symm.trans H;rw [hy135];with_reducible exact H2_)|(have H2_:=(Option.bind_some _ _).symm.trans H;with_reducible exact H2_)|with_reducible exact H|(rw [hy135];exact H)|exact H
  have Ny135:=aM hy135
  clear hy135
  have H':=aM H
  clear H
  go_enter Try.func39,Try.ntmps39
  go_wp2_with (first|((with_reducible refine gate_dst (N:=2) rfl ?_);refine box_event rfl (N:=2) rfl (cs:=#[.int .i64 a0_0,.int .i64 a0_1]) (t:=63) (by first|(go_simp;done)|(go_simp;rfl)) ?_;intro gb127 hg w5 hbox hb;have BK127:=aM (hbox);have GW127:=wl hg HB;have GE127:=wl hg HB;replace HB:=bs HB hb;clear hb hbox hg)|((with_reducible refine gate_dst (N:=3) rfl ?_);refine box_event rfl (N:=3) rfl (cs:=#[.int .i64 a1_0,.int .i64 a1_1]) (t:=63) (by first|(go_simp;done)|(go_simp;rfl)) ?_;intro gb128 hg w6 hbox hb;have BK128:=aM (hbox);have GW128:=wl hg HB;have GE128:=wl hg HB;have NB127_128:=nl hg BK127;have NB128_127:=nr hg BK127;replace BK127:=kb BK127 hb;replace HB:=bs HB hb;clear hb hbox hg)|((with_reducible refine gate_dst (N:=4) rfl ?_);refine box_event rfl (N:=4) rfl (cs:=#[.string ⟨#[]⟩,.string ⟨#[]⟩]) (t:=25) (by first|(go_simp;done)|(go_simp;rfl)) ?_;intro gb129 hg w7 hbox hb;have BK129:=aM (hbox);have GW129:=wl hg HB;have GE129:=wl hg HB;have NB127_129:=nl hg BK127;have NB129_127:=nr hg BK127;have NB128_129:=nl hg BK128;have NB129_128:=nr hg BK128;replace BK127:=kb BK127 hb;replace BK128:=kb BK128 hb;replace HB:=bs HB hb;clear hb hbox hg;have hnb8:=NB127_128.out;have hnc8:=NB128_127.out;have hnb9:=NB127_129.out;have hnc9:=NB129_127.out;have⟨a0,a1,b0,b1⟩:=q2f BK127)|((with_reducible refine gate_callee (f:=61) rfl ?_);refine goesL_ (some 13) rfl rfl Try.func61 (by kernel_rfl) rfl #[.agg #[.int .i64 a0_0,.int .i64 a0_1]] rfl (by (try simp only [sM,sC,sN]);first|done|rfl) ?_;(with_reducible refine (spec_l01Orbit.calls k a0_0 a0_1 t130 t133 true _ A3.out).mono ?_);rintro e w11 ⟨v131,rfl,ho0,hb⟩;refine ⟨_,rfl,?_⟩;have HO132:=aM (Kd.R_lower (Kd.R_newB (Kd.R_newB ho0 (g:=gb127) (o:=.cells #[.int .i64 a0_0,.int .i64 a0_1] 63 (0,0)) (bk BK127)) (g:=gb128) (o:=.cells #[.int .i64 a1_0,.int .i64 a1_1] 63 (0,0)) (bk BK128)) (below_size (bb HB)));replace BK127:=kb BK127 hb;replace BK128:=kb BK128 hb;replace BK129:=kb BK129 hb;replace HB:=bs HB hb;(try clear hb);(try clear ho0))|((with_reducible refine gate_dst (N:=20) rfl ?_);refine Kd.R_lit (Kd.int .u8) _ 5 ?hg (N:=20) ?hd (xs:=([]:List Int)) (inner:=[]) (ok:=fun _=>True) (okp:=fun _=>True) ?hr ?hp (fun _ hk=>hk) trivial (Below.refl _ _) (Nat.le_refl _) (by simp) ?_;(case hd=>rfl);(case hg=>rfl);(case hr=>first|(go_simp;done)|(go_simp;rfl));(case hp=>exact (Reps.none _ _));intro v136 w12 ho13 hb hg_ hnew_;clear hg_ hnew_;(first|rw [← Ny135.out] at ho13|(simp only [Int.reduceToNat] at ho13;rw [← Ny135.out] at ho13));have HO137:=aM (Kd.R_lower ho13 (below_size (bb HB)));replace HO132:=ko HO132 hb;replace BK127:=kb BK127 hb;replace BK128:=kb BK128 hb;replace BK129:=kb BK129 hb;replace HB:=bs HB hb;clear hb ho13))
  go_loopg [9,10] k (fun kq v9 v10 w'=>∃ (x9_1:List Int) (x10_1:Int),v10 = .int .i64 x10_1 ∧ Aside0 (spec_l02Itinerary.l0 kq t130 t133 x9_1 x10_1 a1_0 a1_1 = some (r1,r2,r3)) ∧ Aside0 (kq ≤ k) ∧ Aside0 (Kd.R k63 63 w' w.heap.size (fun k_=>k_ ≠ gb127 ∧ k_ ≠ gb128) v131 t130) ∧ Aside0 (Kd.R (Kd.int .u8) 5 w' w.heap.size (fun _=>True) v9 x9_1) ∧ Aside0 (w'.heap[gb127]? = some (.cells #[.int .i64 a0_0,.int .i64 a0_1] 63 (0,0))) ∧ Aside0 (w'.heap[gb128]? = some (.cells #[.int .i64 a1_0,.int .i64 a1_1] 63 (0,0))) ∧ Aside0 (w'.heap[gb129]? = some (.cells #[.string ⟨#[]⟩,.string ⟨#[]⟩] 25 (0,0))) ∧ Aside0 (Below w.heap.size w w'))
  case atStart=>exact ⟨(y135),(0),(by first|rfl|(simp;done)|(simp [*];done)),H',⟨Nat.le_refl _⟩,⟨by (with_reducible repeat (first|apply rA|apply rN|apply rD));exact Kd.R_mono HO132.out (fun _ hk=>⟨hk.1.2,hk.2⟩)⟩,⟨rk HO137⟩,⟨bk BK127⟩,⟨bk BK128⟩,⟨bk BK129⟩,⟨bb HB⟩⟩
  case round =>
   clear H'
   try clear p2
   try clear c3
   try clear c4
   try clear c6
   try clear c8
   try clear c9
   try clear hcz10_0
   try clear hcz10_1
   try clear hfz10_0
   try clear hfz10_1
   obtain ⟨x9_1,x10_1,rfl,HA,HK1,HO_6,HO_9,BK127,BK128,BK129,HB⟩:=hrel
   cases gk with
   | zero=>exact absurd HA.out (by simp [spec_l02Itinerary.l0])
   | succ k1 =>
    have H:=HA.out
    clear HA
    simp only [spec_l02Itinerary.l0] at H
    by_cases c14:x10_1 < (t130.length:Int)
    ·rw [if_pos c14] at H
     have c14b0:decide (x10_1 < (t130.length:Int)) = true:=decide_eq_true c14
     clear c14
     by_cases c15:0 ≤ x10_1
     ·rw [if_pos c15] at H
      have c15b0:decide (0 ≤ x10_1) = true:=decide_eq_true c15
      clear c15
      replace H:=Option.bind_eq_some_iff.mp H
      obtain ⟨t139,A160,H⟩:=H
      replace H:(if x9_1.length < 140737488355328 then (spec_l02Itinerary.l0 k1 t130 t133 (x9_1 ++ [t139]) (wrap64 (x10_1 + 1)) a1_0 a1_1) else (none)) = some (r1,r2,r3):=H;have A16:=aM A160
      clear A160
      by_cases c17:x9_1.length < 140737488355328
      ·rw [if_pos c17] at H
       have LMc17:=aM c17
       clear c17
       obtain ⟨y140,hy140⟩:∃ y_:List Int,y_ = (x9_1 ++ [t139]):=⟨_,rfl⟩
       replace H:(spec_l02Itinerary.l0 k1 t130 t133 y140 (wrap64 (x10_1 + 1)) a1_0 a1_1) = some (r1,r2,r3):=by first|(rw [hy140];with_reducible exact H)|(have H2_:=(Option.bind_some _ _).symm.trans H;rw [hy140];with_reducible exact H2_)|(have H2_:=(Option.bind_some _ _).symm.trans H;with_reducible exact H2_)|with_reducible exact H|(rw [hy140];exact H)|exact H
       have Ny140:=aM hy140
       clear hy140
       have H':=aM H
       clear H
       obtain ⟨Ao18,co18,eo18⟩:=Kd.R_slice HO_6.out
       subst eo18
       try go_wp2
       replace HO_6:=aM (rD HO_6.out);replace HO_9:=aM (rD HO_9.out);replace BK127:=aM (yD BK127.out);replace BK128:=aM (yD BK128.out);replace BK129:=aM (yD BK129.out);replace HB:=aM (zD HB.out)
       have p138:0 ≤ (x10_1:Int):=of_decide_eq_true (by assumption)
       have q138:x10_1 < (t130.length:Int):=of_decide_eq_true (by assumption)
       obtain ⟨ad138,e138,hx138_0,hx138_1⟩:=at_T63 (Kd.R_reads' HO_6.out).2.2 x10_1 p138 q138
       cases e138
       replace p138:=eq_true p138;replace q138:=eq_true q138
       refine start_ (n:=10) (S:=fun w'=>w'.cell? ⟨gb128,0,none⟩ = some (.int .i64 a1_0) ∧ w'.cell? ⟨gb128,1,none⟩ = some (.int .i64 a1_1) ∧ w'.cell? (ad138.add ((x10_1).toNat * 2)) = some (.int .i64 ((rd_T63 t130 x10_1).f0)) ∧ w'.cell? ⟨(ad138.add ((x10_1).toNat * 2)).block,(ad138.add ((x10_1).toNat * 2)).off + 1,none⟩ = some (.int .i64 ((rd_T63 t130 x10_1).f1))) (ds:=[7,8]) #[fF,fF,fF,fF,fF,fF,fF,fF,fF,fF] (by kernel_rfl) rfl rfl ⟨(blk_cell BK128.out 0).trans rfl,(blk_cell BK128.out 1).trans rfl,hx138_0,hx138_1⟩ (fun hHeld=>?_);refine with_tabW spec_l02Itinerary.tab8 spec_l02Itinerary.bits8 (fun HT_ HW_=>?_)
       generalize wr.drew = w19 at HO_6 HO_9 BK127 BK128 BK129 HB hx138_0 hx138_1 hHeld ⊢
       refine pz 27 0 #[tT,fF,fF,fF,fF,fF,fF,fF,fF,fF] HT_ rfl rfl (by kernel_rfl) (fun _ _ _ h=>h) (by rfl) (by intro w';go_simp;with_reducible rfl) (by simp only [Act.put,sI,sZ,sS,i64_w,i32_w];rfl) ?_
       refine pz 28 1 #[tT,tT,fF,fF,fF,fF,fF,fF,fF,fF] HT_ rfl rfl (by kernel_rfl) (fun _ _ _ h=>h) (by rfl) (by intro w';go_simp;with_reducible rfl) (by simp only [Act.put,sI,sZ,sS,i64_w,i32_w];rfl) ?_
       refine pz 29 2 #[tT,tT,tT,fF,fF,fF,fF,fF,fF,fF] HT_ rfl rfl (by kernel_rfl) (fun _ _ _ h=>h) (by rfl) (by intro w';go_simp;with_reducible rfl) (by simp only [Act.put,sI,sZ,sS,i64_w,i32_w];rfl) ?_
       refine pz 30 3 #[tT,tT,tT,tT,fF,fF,fF,fF,fF,fF] HT_ rfl rfl (by kernel_rfl) (fun _ _ _ h=>h) (by rfl) (by intro w';go_simp;with_reducible rfl) (by simp only [Act.put,sI,sZ,sS,i64_w,i32_w];rfl) ?_
       refine tz 31 4 #[tT,tT,tT,tT,tT,fF,fF,fF,fF,fF] HT_ HW_ hHeld rfl rfl (by kernel_rfl) (fun _ _ _ h=>h) (by rfl) (by rintro w' ⟨s0,s1,s2,s3⟩;go_simp;with_reducible rfl) (by simp only [Act.put,sI,sZ,sS,i64_w,i32_w];rfl) ?_
       refine tz 32 5 #[tT,tT,tT,tT,tT,tT,fF,fF,fF,fF] HT_ HW_ hHeld rfl rfl (by kernel_rfl) (fun _ _ _ h=>h) (by rfl) (by rintro w' ⟨s0,s1,s2,s3⟩;go_simp;with_reducible rfl) (by simp only [Act.put,sI,sZ,sS,i64_w,i32_w];rfl) ?_
       refine one_ (i:=6) (N:=some 33) #[tT,tT,tT,tT,tT,tT,tT,fF,fF,fF] rfl rfl (one_of HT_.out (by kernel_rfl)) (by decide) (fun K hK=>?_)
       refine goes_ Try.func62 (by kernel_rfl) rfl #[.agg #[.int .i64 ((rd_T63 t130 x10_1).f0),.int .i64 ((rd_T63 t130 x10_1).f1)],.agg #[.int .i64 a1_0,.int .i64 a1_1]] (by rfl) rfl rfl (by (try simp only [sM,sC,sN]);first|done|rfl) ?_
       with_reducible refine (spec_l02Letter.calls k1 ((rd_T63 t130 x10_1).f0) ((rd_T63 t130 x10_1).f1) a1_0 a1_1 t139 _ A16.out).mono ?_
       rintro e w20 ⟨rfl,hb⟩
       have HS2_:=(hb.cell (World.block_lt_of_cell? _ _ (hHeld.2.2.1))).trans (hHeld.2.2.1)
       have HS3_:=(hb.cell (World.block_lt_of_cell? _ _ (hHeld.2.2.2))).trans (hHeld.2.2.2)
       refine ⟨_,rfl,?_⟩
       replace HO_6:=ko HO_6 hb;replace HO_9:=ko HO_9 hb;replace BK127:=kb BK127 hb;replace BK128:=kb BK128 hb;replace BK129:=kb BK129 hb;replace HB:=bs HB hb;(try clear hb)
       refine hK.out _ _ ⟨(blk_cell BK128.out 0).trans rfl,(blk_cell BK128.out 1).trans rfl,HS2_,HS3_⟩ (fun hHeld=>?_)
       clear hK K
       refine norm_ (a':=_) (by show Act.put _ _ _=_;simp only [Act.put,sI,sZ,sS,i64_w,i32_w];rfl) ?_
       refine last_ (i:=7) (N:=some 34) #[tT,tT,tT,tT,tT,tT,tT,tT,fF,fF] rfl rfl (one_of HT_.out (by kernel_rfl)) (by decide) (fun K hK=>?_)
       refine value_ (w1:=?_) (v:=?_) (by rfl) rfl ?_ ?_
       rotate_left 2
       ·go_simp
        constructor
        ·rfl
        ·rfl
       refine hK.out _ _ ?_
       clear hK K
       refine norm_ (a':=_) (by show Act.put _ _ _=_;simp only [Act.put,sI,sZ,sS,i64_w,i32_w];rfl) ?_
       refine last_ (i:=8) (N:=some 35) #[tT,tT,tT,tT,tT,tT,tT,tT,tT,fF] rfl rfl (one_of HT_.out (by kernel_rfl)) (by decide) (fun K hK=>?_)
       refine Kd.R_append_step (Kd.int .u8) (w0:=w) w.heap.size (by rfl) (.tmp 27) (.tmp 34) 22 5 (.int .u8 0) 1 rfl Try.underlying22 info5 rfl (by decide) (by omega) u9 x9_1 t139 [.int .u8 t139] (fun _=>True) (fun _=>False) rfl rfl ?aP (fun _ hk=>hk.elim) ?aF ?aO ?aB ?aS ?aL ?_
       (case aP=>exact rfl)
       (case aB=>exact (bb HB))
       (case aF=>exact (fun _ _=>trivial))
       (case aO=>exact (rk HO_9))
       (case aS=>exact (below_size (bb HB)))
       (case aL=>have:=LMc17.out;omega)
       intro v141 w21 ho hb hg hat
       rw [← Ny140.out] at ho
       have n0_:=aM (Kd.R_over' (rk HO_6) (Kd.R_typed (rk HO_9)) (by decide) hg);have n1_:=aM (blk_grown (g:=gb127) (o:=.cells #[.int .i64 a0_0,.int .i64 a0_1] 63 (0,0)) (bk BK127) hg (Kd.R_ne HO_9.out BK127.out (by decide)));have n2_:=aM (blk_grown (g:=gb128) (o:=.cells #[.int .i64 a1_0,.int .i64 a1_1] 63 (0,0)) (bk BK128) hg (Kd.R_ne HO_9.out BK128.out (by decide)));have n3_:=aM (blk_grown (g:=gb129) (o:=.cells #[.string ⟨#[]⟩,.string ⟨#[]⟩] 25 (0,0)) (bk BK129) hg (Kd.R_ne HO_9.out BK129.out (by decide)));have n4_:=aM (hb);have n5_:=aM (ho)
       clear HO_6
       clear BK127
       clear BK128
       clear BK129
       clear HB
       clear HO_9
       have HO_6:=n0_
       have BK127:=n1_
       have BK128:=n2_
       have BK129:=n3_
       have HB:=n4_
       have HO142:=n5_
       clear n0_ n1_ n2_ n3_ n4_ n5_
       clear ho hb hg hat
       refine hK.out _ _ ?_
       clear hK K
       refine norm_ (a':=_) (by show Act.put _ _ _=_;simp only [Act.put,sI,sZ,sS,i64_w,i32_w];rfl) ?_
       refine pz 9 9 #[tT,tT,tT,tT,tT,tT,tT,tT,tT,tT] HT_ rfl rfl (by kernel_rfl) (fun _ _ _ h=>h) (by rfl) (by intro w';go_simp;with_reducible rfl) (by simp only [Act.put,sI,sZ,sS,i64_w,i32_w];rfl) ?_
       refine done_ (done_of HT_.out (by kernel_rfl)) ?_
       try go_wp2
       go_roundg k1
       case measure=>have:=HK1.out;omega
       case rel=>exact ⟨(y140),(wrap64 (x10_1 + 1)),(by first|rfl|(simp;done)|(simp [*];done)),H',⟨by have:=HK1.out;omega⟩,⟨rk HO_6⟩,⟨rk HO142⟩,⟨bk BK127⟩,⟨bk BK128⟩,⟨bk BK129⟩,⟨bb HB⟩⟩
      ·rw [if_neg c17] at H
       exact absurd H (by simp)
     ·rw [if_neg c15] at H
      exact absurd H (by simp)
    ·rw [if_neg c14] at H
     have c14b0:decide (x10_1 < (t130.length:Int)) = false:=decide_eq_false c14
     clear c14
     by_cases c22:0 ≤ t133
     ·rw [if_pos c22] at H
      have c22b0:=eq_true c22
      have c22b1:decide (0 ≤ t133) = true:=decide_eq_true c22
      clear c22
      by_cases c23:t133 ≤ (x9_1.length:Int)
      ·rw [if_pos c23] at H
       have c23b0:=eq_true c23
       have c23b1:decide (t133 ≤ (x9_1.length:Int)) = true:=decide_eq_true c23
       clear c23
       obtain ⟨y143,hy143⟩:∃ y_:List Int,y_ = (x9_1.take (t133:Int).toNat):=⟨_,rfl⟩
       replace H:((spec_l01Canonical.f k1 (strOfNums y143) (strOfNums (x9_1.drop (t133:Int).toNat))).bind fun bt151=>(some (bt151.1,bt151.2,true))) = some (r1,r2,r3):=by first|(rw [hy143];with_reducible exact H)|(have H2_:=(Option.bind_some _ _).symm.trans H;rw [hy143];with_reducible exact H2_)|(have H2_:=(Option.bind_some _ _).symm.trans H;with_reducible exact H2_)|with_reducible exact H|(rw [hy143];exact H)|exact H
       have Ny143:=aM hy143
       clear hy143
       have c24b0:=eq_true (of_decide_eq_true (by assumption):0 ≤ t133)
       have c25b0:=eq_true (of_decide_eq_true (by assumption):t133 ≤ (x9_1.length:Int))
       obtain ⟨y147,hy147⟩:∃ y_:List Int,y_ = (x9_1.drop (t133:Int).toNat):=⟨_,rfl⟩
       replace H:((spec_l01Canonical.f k1 (strOfNums y143) (strOfNums y147)).bind fun bt151=>(some (bt151.1,bt151.2,true))) = some (r1,r2,r3):=by first|(rw [hy147];with_reducible exact H)|(have H2_:=(Option.bind_some _ _).symm.trans H;rw [hy147];with_reducible exact H2_)|(have H2_:=(Option.bind_some _ _).symm.trans H;with_reducible exact H2_)|with_reducible exact H|(rw [hy147];exact H)|exact H
       have Ny147:=aM hy147
       clear hy147
       replace H:=Option.bind_eq_some_iff.mp H
       obtain ⟨⟨t151,t152⟩,A260,H⟩:=H
       replace H:(some (t151,t152,true)) = some (r1,r2,r3):=H;have A26:=aM A260
       clear A260
       simp only [Option.some.injEq,Prod.mk.injEq] at H
       obtain ⟨rfl,rfl,rfl⟩:=H
       obtain ⟨Ao27,co27,eo27⟩:=Kd.R_slice HO_6.out
       subst eo27
       try go_wp2
       replace HO_6:=aM (rD HO_6.out);replace HO_9:=aM (rD HO_9.out);replace BK127:=aM (yD BK127.out);replace BK128:=aM (yD BK128.out);replace BK129:=aM (yD BK129.out);replace HB:=aM (zD HB.out)
       obtain ⟨Ao30,co30,eo30⟩:=Kd.R_slice HO_9.out
       (first|subst eo30|(injection eo30 with f1_ f2_ f3_;have f4_:=f1_.symm;have f5_:=f3_.symm;clear f1_ f2_ f3_;subst f4_;subst f5_))
       have q29:(t133:Int) ≤ ((x9_1.length:Int):Int):=of_decide_eq_true (by assumption)
       obtain ⟨i029,hi029,_,hsz29,_⟩:=info_parts info5
       have hroom29:x9_1.length ≤ co30:=(Kd.R_reads' HO_9.out).2.1
       have hC29:Kd.C (Kd.int .u8) _ Ao30 x9_1.length x9_1:=(Kd.R_reads' HO_9.out).2.2
       have hcut29:=cut_to (P:=Try.prog) 22 5 .i64 Try.underlying22 hi029 Ao30 x9_1.length co30 t133 (of_decide_eq_true (by assumption)) q29 hroom29
       have hr29:=Kd.C_take (m:=(t133:Int).toNat) hC29 (by omega)
       have hy29:y143.length = (t133:Int).toNat:=(by rw [Ny143.out,List.length_take];omega)
       rw [← Ny143.out] at hr29
       rw [← hy29] at hcut29
       have HR146:=aM hr29;have HC146:=aM (show y143.length ≤ co30 from by omega)
       clear hr29 hC29 hroom29 hi029 hsz29
       have KY29:=aM hy29
       clear hy29
       have KL29:=aM (show (t133:Int).toNat ≤ x9_1.length from by omega);replace q29:=eq_true q29
       have q31:(t133:Int) ≤ ((x9_1.length:Int):Int):=of_decide_eq_true (by assumption)
       obtain ⟨i031,hi031,_,hsz31,_⟩:=info_parts info5
       have hroom31:x9_1.length ≤ co30:=(Kd.R_reads' HO_9.out).2.1
       have hC31:Kd.C (Kd.int .u8) _ Ao30 x9_1.length x9_1:=(Kd.R_reads' HO_9.out).2.2
       have q031:(0:Int) ≤ (t133:Int):=of_decide_eq_true (by assumption)
       have hcut31:=cut_from (P:=Try.prog) 22 5 .i64 Try.underlying22 hi031 1 hsz31 Ao30 x9_1.length co30 t133 q031 q31
       have hr31:=Kd.C_drop (m:=(t133:Int).toNat) (c:=co30) hC31 (by omega) hroom31
       obtain ⟨A31,hA31⟩:∃ A1,A1 = (if co30 = (t133:Int).toNat then Ao30 else (Ao30:Option Addr).map (·.add ((t133:Int).toNat * 1))):=⟨_,rfl⟩
       obtain ⟨c31,hc31⟩:∃ c1,c1 = co30 - (t133:Int).toNat:=⟨_,rfl⟩
       have hy31:y147.length = x9_1.length - (t133:Int).toNat:=(by rw [Ny147.out,List.length_drop] <;> omega)
       rw [show (x9_1).drop (t133:Int).toNat = y147 from Ny147.out.symm] at hr31
       replace hr31:Kd.C (Kd.int .u8) _ A31 y147.length y147:=(by rw [hA31];exact hr31)
       rw [← hy31,← hA31,← hc31] at hcut31
       have HR150:=aM hr31;have HC150:=aM (show y147.length ≤ c31 from by rw [hy31,hc31];exact Nat.sub_le_sub_right hroom31 _)
       clear hr31 hC31 hroom31 hi031 hsz31 hc31
       have KY31:=aM hy31;have KA31:=aM hA31
       clear hy31 hA31
       have KL31:=aM (show (t133:Int).toNat ≤ x9_1.length from by omega);replace q31:=eq_true q31
       have hcv32:=Kd.C_string (P:=Try.prog) (A:=Ao30) (c:=co30) Try.underlying22 Try.underlying5 Try.underlying9 (by repeat (first|(with_reducible exact HR146.out)|(with_reducible refine cA ?_ _)|(with_reducible refine cN ?_ _)|(with_reducible refine cD ?_)|exact HR146.out))
       have hcv33:=Kd.C_string (P:=Try.prog) (A:=A31) (c:=c31) Try.underlying22 Try.underlying5 Try.underlying9 (by repeat (first|(with_reducible exact HR150.out)|(with_reducible refine cA ?_ _)|(with_reducible refine cN ?_ _)|(with_reducible refine cD ?_)|exact HR150.out))
       refine start_ (n:=11) (S:=fun w'=>Kd.C (Kd.int .u8) w' Ao30 y143.length y143 ∧ Kd.C (Kd.int .u8) w' A31 y147.length y147) (ds:=[9]) #[fF,fF,fF,fF,fF,fF,fF,fF,fF,fF,fF] (by kernel_rfl) rfl rfl ⟨HR146.out,HR150.out⟩ (fun hHeld=>?_);refine with_tabW spec_l02Itinerary.tab9 spec_l02Itinerary.bits9 (fun HT_ HW_=>?_)
       generalize wr.drew = w28 at HO_6 HO_9 BK127 BK128 BK129 HB HR146 HR150 hHeld ⊢
       refine pz 36 0 #[tT,fF,fF,fF,fF,fF,fF,fF,fF,fF,fF] HT_ rfl rfl (by kernel_rfl) (fun _ _ _ h=>h) (by rfl) (by intro w';go_simp;with_reducible rfl) (by simp only [Act.put,sI,sZ,sS,i64_w,i32_w];rfl) ?_
       refine pz 37 1 #[tT,tT,fF,fF,fF,fF,fF,fF,fF,fF,fF] HT_ rfl rfl (by kernel_rfl) (fun _ _ _ h=>h) (by rfl) (by intro w';go_simp;with_reducible rfl) (by simp only [Act.put,sI,sZ,sS,i64_w,i32_w];rfl) ?_
       refine pz 38 2 #[tT,tT,tT,fF,fF,fF,fF,fF,fF,fF,fF] HT_ rfl rfl (by kernel_rfl) (fun _ _ _ h=>h) (by rfl) (by intro w';go_simp;with_reducible rfl) (by simp only [Act.put,sI,sZ,sS,i64_w,i32_w];rfl) ?_
       refine take_ (i:=3) (N:=some 39) (v:=?_) (a':=?_) #[tT,tT,tT,tT,fF,fF,fF,fF,fF,fF,fF] rfl rfl (take_ofW HT_.out HW_.out (by kernel_rfl)) (fun _ _ _ h=>h) (Or.inl ⟨by rfl,?_⟩) hHeld ?_ ?_
       rotate_left
       ·rintro w' ⟨s0,s1⟩
        have hcv_:=Kd.C_string (P:=Try.prog) (A:=Ao30) (c:=co30) Try.underlying22 Try.underlying5 Try.underlying9 s0
        first|(go_simp;with_reducible rfl)|(go_simp;rw [hcv_];rfl)|(simp only [hcv_];rfl)
       rotate_left
       ·simp only [Act.put,sI,sZ,sS,i64_w,i32_w]
        rfl
       refine pz 40 4 #[tT,tT,tT,tT,tT,fF,fF,fF,fF,fF,fF] HT_ rfl rfl (by kernel_rfl) (fun _ _ _ h=>h) (by rfl) (by intro w';go_simp;with_reducible rfl) (by simp only [Act.put,sI,sZ,sS,i64_w,i32_w];rfl) ?_
       refine pz 41 5 #[tT,tT,tT,tT,tT,tT,fF,fF,fF,fF,fF] HT_ rfl rfl (by kernel_rfl) (fun _ _ _ h=>h) (by rfl) (by intro w';go_simp;with_reducible rfl) (by simp only [Act.put,sI,sZ,sS,i64_w,i32_w];rfl) ?_
       refine pz 42 6 #[tT,tT,tT,tT,tT,tT,tT,fF,fF,fF,fF] HT_ rfl rfl (by kernel_rfl) (fun _ _ _ h=>h) (by rfl) (by intro w';go_simp;with_reducible rfl) (by simp only [Act.put,sI,sZ,sS,i64_w,i32_w];rfl) ?_
       refine take_ (i:=7) (N:=some 43) (v:=?_) (a':=?_) #[tT,tT,tT,tT,tT,tT,tT,tT,fF,fF,fF] rfl rfl (take_ofW HT_.out HW_.out (by kernel_rfl)) (fun _ _ _ h=>h) (Or.inl ⟨by rfl,?_⟩) hHeld ?_ ?_
       rotate_left
       ·rintro w' ⟨s0,s1⟩
        have hcv_:=Kd.C_string (P:=Try.prog) (A:=A31) (c:=c31) Try.underlying22 Try.underlying5 Try.underlying9 s1
        first|(go_simp;with_reducible rfl)|(go_simp;rw [hcv_];rfl)|(simp only [hcv_];rfl)
       rotate_left
       ·simp only [Act.put,sI,sZ,sS,i64_w,i32_w]
        rfl
       refine one_ (i:=8) (N:=some 44) #[tT,tT,tT,tT,tT,tT,tT,tT,tT,fF,fF] rfl rfl (one_of HT_.out (by kernel_rfl)) (by decide) (fun K hK=>?_)
       refine goes_ Try.func40 (by kernel_rfl) rfl #[.string (strOfNums y143),.string (strOfNums y147)] (by rfl) rfl rfl (by (try simp only [sM,sC,sN]);first|done|rfl) ?_
       with_reducible refine (spec_l01Canonical.calls k1 (strOfNums y143) (strOfNums y147) t151 t152 _ A26.out).mono ?_
       rintro e w35 ⟨rfl,hb⟩
       refine ⟨_,rfl,?_⟩
       replace HO_6:=ko HO_6 hb;replace HO_9:=ko HO_9 hb;replace BK127:=kb BK127 hb;replace BK128:=kb BK128 hb;replace BK129:=kb BK129 hb;replace HB:=bs HB hb
       have hS_:_ ∧ _:=⟨Kd.C_below HR146.out hb,Kd.C_below HR150.out hb⟩
       (try clear hb)
       refine hK.out _ _ hS_ (fun hHeld=>?_)
       clear hK K
       refine norm_ (a':=_) (by show Act.put _ _ _=_;simp only [Act.put,sI,sZ,sS,i64_w,i32_w];rfl) ?_
       refine last_ (i:=9) (N:=none) #[tT,tT,tT,tT,tT,tT,tT,tT,tT,tT,fF] rfl rfl (one_of HT_.out (by kernel_rfl)) (by decide) (fun K hK=>?_)
       have hs36:w35.cell? ⟨gb129,0,none⟩ = some (.string ⟨#[]⟩):=(blk_cell BK129.out 0).trans rfl
       have hfs36:=blk_frozen BK129.out 0
       have hns36_0:=NB127_129.out
       have hns36_1:=NB128_129.out
       have hms36_0:=NB129_127.out
       have hms36_1:=NB129_128.out
       have hs37:w35.cell? ⟨gb129,1,none⟩ = some (.string ⟨#[]⟩):=(blk_cell BK129.out 1).trans rfl
       have hfs37:=blk_frozen BK129.out 1
       have hns37_0:=NB127_129.out
       have hns37_1:=NB128_129.out
       have hms37_0:=NB129_127.out
       have hms37_1:=NB129_128.out
       refine skip_ (w1:=?_) (by rfl) rfl ?_ ?_
       rotate_left
       ·go_simp
        rfl
       refine hK.out _ _ ?_
       clear hK K
       refine pz 5 10 #[tT,tT,tT,tT,tT,tT,tT,tT,tT,tT,tT] HT_ rfl rfl (by kernel_rfl) (fun _ _ _ h=>h) (by rfl) (by intro w';go_simp;with_reducible rfl) (by simp only [Act.put,sI,sZ,sS,i64_w,i32_w];rfl) ?_
       refine done_ (done_of HT_.out (by kernel_rfl)) ?_
       try go_wp2
       refine bodyPost_ret (results_ct rfl _ _ gb129 25 #[.string t151,.string t152] (0,0) _ rfl (by (with_reducible repeat (first|apply yN|apply yD|apply yA));refine blk_put (cs:=#[.string t151,.string ⟨#[]⟩]) ?_ 1 _ rfl;(with_reducible repeat (first|apply yN|apply yD|apply yA));refine blk_put (cs:=#[.string ⟨#[]⟩,.string ⟨#[]⟩]) ?_ 0 _ rfl;(with_reducible repeat (first|apply yN|apply yD|apply yA));exact BK129.out) Try.underlying25 rfl (by kernel_rfl)) rfl ?_
       exact ⟨rfl,by first|exact bb HB|exact bg HB GE127|exact bg HB GE128|exact bg HB GE129⟩
      ·rw [if_neg c23] at H
       exact absurd H (by simp)
     ·rw [if_neg c22] at H
      exact absurd H (by simp)
 ·replace c4:=Bool.eq_false_iff.mpr c4
  subst c4
  have H1:(some ((⟨#[]⟩:ByteArray),(⟨#[]⟩:ByteArray),false)) = some (r1,r2,r3):=by rw [if_neg (show ¬ (false = true) by decide)] at H;exact H
  clear H
  have H:=H1
  clear H1
  simp only [Option.some.injEq,Prod.mk.injEq] at H
  obtain ⟨rfl,rfl,rfl⟩:=H
  go_enter Try.func39,Try.ntmps39
  go_wp2_with (first|((with_reducible refine gate_dst (N:=2) rfl ?_);refine box_event rfl (N:=2) rfl (cs:=#[.int .i64 a0_0,.int .i64 a0_1]) (t:=63) (by first|(go_simp;done)|(go_simp;rfl)) ?_;intro gb127 hg w38 hbox hb;have BK127:=aM (hbox);have GW127:=wl hg HB;have GE127:=wl hg HB;replace HB:=bs HB hb;clear hb hbox hg)|((with_reducible refine gate_dst (N:=3) rfl ?_);refine box_event rfl (N:=3) rfl (cs:=#[.int .i64 a1_0,.int .i64 a1_1]) (t:=63) (by first|(go_simp;done)|(go_simp;rfl)) ?_;intro gb128 hg w39 hbox hb;have BK128:=aM (hbox);have GW128:=wl hg HB;have GE128:=wl hg HB;have NB127_128:=nl hg BK127;have NB128_127:=nr hg BK127;replace BK127:=kb BK127 hb;replace HB:=bs HB hb;clear hb hbox hg)|((with_reducible refine gate_dst (N:=4) rfl ?_);refine box_event rfl (N:=4) rfl (cs:=#[.string ⟨#[]⟩,.string ⟨#[]⟩]) (t:=25) (by first|(go_simp;done)|(go_simp;rfl)) ?_;intro gb129 hg w40 hbox hb;have BK129:=aM (hbox);have GW129:=wl hg HB;have GE129:=wl hg HB;have NB127_129:=nl hg BK127;have NB129_127:=nr hg BK127;have NB128_129:=nl hg BK128;have NB129_128:=nr hg BK128;replace BK127:=kb BK127 hb;replace BK128:=kb BK128 hb;replace HB:=bs HB hb;clear hb hbox hg;have hnb41:=NB127_128.out;have hnc41:=NB128_127.out;have hnb42:=NB127_129.out;have hnc42:=NB129_127.out;have⟨a0,a1,b0,b1⟩:=q2f BK127)|((with_reducible refine gate_callee (f:=61) rfl ?_);refine goesL_ (some 13) rfl rfl Try.func61 (by kernel_rfl) rfl #[.agg #[.int .i64 a0_0,.int .i64 a0_1]] rfl (by (try simp only [sM,sC,sN]);first|done|rfl) ?_;(with_reducible refine (spec_l01Orbit.calls k a0_0 a0_1 t130 t133 false _ A3.out).mono ?_);rintro e w44 ⟨v131,rfl,ho0,hb⟩;refine ⟨_,rfl,?_⟩;have HO132:=aM (Kd.R_lower (Kd.R_newB (Kd.R_newB ho0 (g:=gb127) (o:=.cells #[.int .i64 a0_0,.int .i64 a0_1] 63 (0,0)) (bk BK127)) (g:=gb128) (o:=.cells #[.int .i64 a1_0,.int .i64 a1_1] 63 (0,0)) (bk BK128)) (below_size (bb HB)));replace BK127:=kb BK127 hb;replace BK128:=kb BK128 hb;replace BK129:=kb BK129 hb;replace HB:=bs HB hb;(try clear hb);(try clear ho0);have hnb45:=NB129_128.out;have hnc45:=NB128_129.out;have⟨a0,a1,b0,b1⟩:=q2f BK129))
  refine bodyPost_ret (results_ct rfl _ _ gb129 25 #[.string ⟨#[]⟩,.string ⟨#[]⟩] (0,0) _ rfl (by (with_reducible repeat (first|apply yN|apply yD|apply yA));refine blk_put (cs:=#[.string ⟨#[]⟩,.string ⟨#[]⟩]) ?_ 1 _ rfl;(with_reducible repeat (first|apply yN|apply yD|apply yA));refine blk_put (cs:=#[.string ⟨#[]⟩,.string ⟨#[]⟩]) ?_ 0 _ rfl;(with_reducible repeat (first|apply yN|apply yD|apply yA));exact BK129.out) Try.underlying25 rfl (by kernel_rfl)) rfl ?_
  exact ⟨rfl,by first|exact bb HB|exact bg HB GE127|exact bg HB GE128|exact bg HB GE129⟩
end Go.Proofs.Ytmhpbilkocnlnaa.Q
end
section
namespace Go.Proofs.Ytmhpbilkocnlnaa.Q
open Go.RowKit Go.Proofs.YtmhpbilkocnlnaaW.PrintWords Go.Proofs.YtmhpbilkocnlnaaW.PrintLast Go.Proofs.YtmhpbilkocnlnaaW.Ext Go.Proofs.Ytmhpbilkocnlnaa.Ang
set_option linter.unusedVariables false
set_option linter.unusedSimpArgs false
def bytesL (c : List Int) : Prop := c.length ≤ 4096 ∧ ∀ x ∈ c, 0 ≤ x ∧ x ≤ 255
def atL (a : Int) : Prop := 0 ≤ a ∧ a ≤ 4096
theorem next_val {c : List Int} (hc : bytesL c) {a : Int} (h n : Int) (ha : atL a) (hn : n ≤ 1000000) :
    ∃ v a' h', spec_l01Next.f c a h n = some (v, a', h') ∧ 0 ≤ v ∧ (1 ≤ n → v < n) ∧ atL a' := by
  obtain ⟨c1, c2⟩ := hc
  obtain ⟨a1, a2⟩ := ha
  unfold spec_l01Next.f
  by_cases h1 : n < 1
  · rw [if_pos h1]; exact ⟨0, a, h, rfl, by omega, fun z => by omega, a1, a2⟩
  · rw [if_neg h1]
    have hU : 0 ≤ IntKind.u64.wrap ((IntKind.u64.wrap (h * 6364136223846793005)) + 1442695040888963407) ∧ IntKind.u64.wrap ((IntKind.u64.wrap (h * 6364136223846793005)) + 1442695040888963407) < 18446744073709551616 := by
      rw [IntKind.wrap_u64]; omega
    generalize IntKind.u64.wrap ((IntKind.u64.wrap (h * 6364136223846793005)) + 1442695040888963407) = U at *
    obtain ⟨m, rfl⟩ := Int.eq_ofNat_of_zero_le hU.1
    have e : Go.bits .and .u64 ((m : Int) / 8589934592) 16777215 = ((m / 8589934592 &&& 16777215 : Nat) : Int) := by
      have q := Go.bits_and_u64_nat (m / 8589934592) 16777215 (by omega) (by omega)
      rw [← q]
      rfl
    have hle := Nat.and_le_right (n := m / 8589934592) (m := 16777215)
    rw [e]
    generalize (m / 8589934592 &&& 16777215) = y at *
    rw [wrS (x := (y : Int)) (by omega) (by omega)]
    by_cases h2 : a < (c.length : Int)
    · obtain ⟨i, rfl⟩ := Int.eq_ofNat_of_zero_le a1
      have hi : i < c.length := by omega
      have hb := c2 c[i] (List.getElem_mem hi)
      have er : rd c (i : Int) = c[i] := by simp [rd, hi]
      rw [if_pos h2, if_pos a1, if_neg (by omega), er, wrS (x := c[i]) (by omega) (by omega), wrS (x := (y : Int) + c[i]) (by omega) (by omega), wrS (x := (i : Int) + 1) (by omega) (by omega)]
      exact ⟨_, _, _, rfl, Int.tmod_nonneg _ (by omega), fun _ => Int.tmod_lt_of_pos _ (by omega), by omega, by omega⟩
    · rw [if_neg h2, if_neg (by omega)]
      exact ⟨_, _, _, rfl, Int.tmod_nonneg _ (by omega), fun _ => Int.tmod_lt_of_pos _ (by omega), a1, a2⟩
theorem rd_mem {l : List Int} {v : Int} (h0 : 0 ≤ v) (h1 : v < (l.length : Int)) : rd l v ∈ l := by
  obtain ⟨i, rfl⟩ := Int.eq_ofNat_of_zero_le h0
  have hi : i < l.length := by omega
  have er : rd l (i : Int) = l[i] := by simp [rd, hi]
  rw [er]
  exact List.getElem_mem hi
theorem pick_val {c : List Int} (hc : bytesL c) {a : Int} (h : Int) (ha : atL a) (l : List Int) (h1 : 1 ≤ l.length) (h2 : l.length ≤ 100) :
    ∃ v a' h', spec_l01Pick.f c a h l = some (v, a', h') ∧ v ∈ l ∧ atL a' := by
  obtain ⟨v, a', h', e, v0, v1, hs⟩ := next_val hc h (l.length : Int) ha (by omega)
  have v2 := v1 (by omega)
  unfold spec_l01Pick.f
  rw [e, Option.bind_some, if_pos v0, if_pos v2]
  exact ⟨_, _, _, rfl, rd_mem v0 v2, hs⟩
theorem son_size (L : List Int) : (strOfNums L).size = L.length := by
  rw [Lib.size_eq]
  simp [strOfNums]
def goodD (b : Int) : Prop := ∃ D ∈ ([1, 3, 7, 15, 31, 63, 5, 9, 11, 13, 17, 21] : List Int), ∃ j ∈ ([1, 2, 4, 8] : List Int), b ∣ D * j
theorem good_dec : ∀ b : Fin 505, ∀ D ∈ ([1, 3, 7, 15, 31, 63, 5, 9, 11, 13, 17, 21] : List Nat), ∀ j ∈ ([1, 2, 4, 8] : List Nat), 0 < b.val → (D * j) % b.val = 0 →
    ((List.range 4).any fun p => (b.val % 2 ^ p == 0) && ((b.val / 2 ^ p) % 2 == 1) && (List.range 13).any fun t => (1 ≤ t) && (2 ^ t % (b.val / 2 ^ p) == 1 % (b.val / 2 ^ p))) = true := by decide +kernel
theorem good_parts {b : Int} (hb : 0 < b) (h : goodD b) : ∃ (p : Nat) (q : Int) (t : Nat), b = 2 ^ p * q ∧ q % 2 = 1 ∧ 0 < q ∧ p ≤ 3 ∧ 1 ≤ t ∧ t ≤ 12 ∧ (2 ^ t : Int) % q = 1 % q := by
  obtain ⟨D, hD, j, hj, hd⟩ := h
  obtain ⟨m, rfl⟩ := Int.eq_ofNat_of_zero_le (show 0 ≤ b by omega)
  have hD' : ∃ d : Nat, D = (d : Int) ∧ d ∈ ([1, 3, 7, 15, 31, 63, 5, 9, 11, 13, 17, 21] : List Nat) := by
    simp only [List.mem_cons, List.not_mem_nil, or_false] at hD
    refine ⟨D.toNat, by omega, ?_⟩
    simp only [List.mem_cons, List.not_mem_nil, or_false]
    omega
  have hj' : ∃ d : Nat, j = (d : Int) ∧ d ∈ ([1, 2, 4, 8] : List Nat) := by
    simp only [List.mem_cons, List.not_mem_nil, or_false] at hj
    refine ⟨j.toNat, by omega, ?_⟩
    simp only [List.mem_cons, List.not_mem_nil, or_false]
    omega
  obtain ⟨d, rfl, hd1⟩ := hD'
  obtain ⟨i, rfl, hi1⟩ := hj'
  have hdv : m ∣ d * i := by
    have : (m : Int) ∣ ((d * i : Nat) : Int) := by simpa using hd
    exact Int.natCast_dvd_natCast.1 this
  have hle : m ≤ 504 := by
    have h1 : d * i ≤ 63 * 8 := by
      refine Nat.mul_le_mul ?_ ?_
      · simp only [List.mem_cons, List.not_mem_nil, or_false] at hd1; omega
      · simp only [List.mem_cons, List.not_mem_nil, or_false] at hi1; omega
    have h2 : 0 < d * i := by
      refine Nat.mul_pos ?_ ?_
      · simp only [List.mem_cons, List.not_mem_nil, or_false] at hd1; omega
      · simp only [List.mem_cons, List.not_mem_nil, or_false] at hi1; omega
    have := Nat.le_of_dvd h2 hdv
    omega
  have key := good_dec ⟨m, by omega⟩ d hd1 i hi1 (by show 0 < m; omega) (Nat.mod_eq_zero_of_dvd hdv)
  simp only [List.any_eq_true, Bool.and_eq_true, beq_iff_eq, List.mem_range, decide_eq_true_eq] at key
  obtain ⟨p, hp, ⟨h1, h2⟩, t, ht, h3, h4⟩ := key
  have h1' : m % 2 ^ p = 0 := h1
  have h2' : m / 2 ^ p % 2 = 1 := h2
  have h4' : 2 ^ t % (m / 2 ^ p) = 1 % (m / 2 ^ p) := h4
  have hq := Nat.div_mul_cancel (Nat.dvd_of_mod_eq_zero h1')
  clear h1 h2 h4
  generalize m / 2 ^ p = Q at h2' h4' hq
  refine ⟨p, (Q : Int), t, ?_, by omega, by omega, by omega, h3, by omega, ?_⟩
  · rw [← hq, Int.natCast_mul, Int.mul_comm]
    simp
  · have e : ((2 ^ t % Q : Nat) : Int) = ((1 % Q : Nat) : Int) := by rw [h4']
    simpa using e
theorem orb_per {x : Int × Int} {p : Nat} {q : Int} (h : wide x.1 x.2) (hx : x.2 = 2 ^ p * q) (hq : q % 2 = 1) (hq0 : 0 < q) {t : Nat} (ht : (2 ^ t : Int) % q = 1 % q) : orbA x (p + t) = orbA x p := by
  have den := fun s => (orb_den h hx hq (p + s)).2 (by omega)
  have num : ∀ s, (orbA x (p + s)).1 = 2 ^ s * (orbA x p).1 % q := by
    intro s
    induction s with
    | zero =>
      have w := orb_wide h p
      have d := den 0
      rw [Nat.add_zero] at d ⊢
      rw [d] at w
      rw [Int.pow_zero, Int.one_mul, Int.emod_eq_of_lt w.2.1 w.2.2.1]
    | succ s ih =>
      have w := orb_wide h (p + s)
      rw [den s] at w
      have e : orbA x (p + (s + 1)) = dbl ((orbA x (p + s)).1, q) := by
        show dbl (orbA x (p + s)) = _
        rw [show orbA x (p + s) = ((orbA x (p + s)).1, (orbA x (p + s)).2) from rfl, den s]
      rw [e, dbl_odd w hq, ih]
      show 2 * (2 ^ s * (orbA x p).1 % q) % q = _
      rw [Int.mul_emod, Int.emod_emod_of_dvd _ (Int.dvd_refl q), ← Int.mul_emod, Int.pow_succ]
      congr 1
      grind
  have w := orb_wide h p
  have d := den 0
  rw [Nat.add_zero] at d
  rw [d] at w
  refine Prod.ext ?_ ((den t).trans d.symm)
  rw [num t, Int.mul_emod, ht, ← Int.mul_emod, Int.one_mul, Int.emod_eq_of_lt w.2.1 w.2.2.1]
theorem orbGo_le {x : Int × Int} {p t : Nat} (ht : 1 ≤ t) (he : orbA x (p + t) = orbA x p) : ∀ f m, m ≤ p + t → (orbGo x p f m).1.length ≤ p + t := by
  intro f
  induction f with
  | zero => intro m _; simp [orbGo]
  | succ f ih =>
    intro m hm
    unfold orbGo
    split
    · rw [seg_length]; exact hm
    · rename_i z
      split
      · simp
      · refine ih (m + 1) ?_
        by_cases q : m = p + t
        · subst q; exact absurd ⟨by omega, he⟩ z
        · omega
theorem orbGo_ok {x : Int × Int} {p : Nat} : ∀ f m, (orbGo x p f m).2.2 = true → ∃ n : Nat, orbGo x p f m = (seg x n, (p : Int), true) ∧ p < n := by
  intro f
  induction f with
  | zero => intro m h; simp [orbGo] at h
  | succ f ih =>
    intro m h
    unfold orbGo at h ⊢
    split
    · rename_i z; exact ⟨m, rfl, z.1⟩
    · rename_i z
      rw [if_neg z] at h
      split
      · rename_i y; rw [if_pos y] at h; cases h
      · rename_i y; rw [if_neg y] at h; exact ih (m + 1) h
theorem rd_segS {x : Int × Int} {m i : Nat} (h : i < m) : rd_T63 (seg x m) (i : Int) = toS (orbA x i) := by
  unfold rd_T63
  rw [Int.toNat_natCast, List.getD_eq_getElem?_getD, List.getElem?_eq_getElem (by rw [seg_length]; exact h), seg_get _ h]
  rfl
theorem ev_itin {n d t1 t2 : Int} (hx : isA n d = true) (hg : goodD d) (ht : isA t1 t2 = true) :
    ∃ (p q : ByteArray) (ok : Bool), Ev (fun k => spec_l02Itinerary.f k n d t1 t2) (p, q, ok) ∧ (ok = true → p.size + q.size ≤ 15) := by
  have hd := (isA_bd hx).1
  obtain ⟨pp, q, t, e1, e2, e3, e4, e5, e6, e7⟩ := good_parts hd hg
  have hs := ev_spec_orbit hx e1 e2
  have per := orb_per (x := (n, d)) (isA_wide hx) e1 e2 e3 e7
  have le := orbGo_le (x := (n, d)) e5 per 65 0 (by omega)
  have ok := orbGo_ok (x := (n, d)) (p := pp) 65 0
  generalize orbGo (n, d) pp 65 0 = o at hs le ok
  obtain ⟨o1, o2, o3⟩ := o
  cases o3 with
  | false =>
    refine ⟨⟨#[]⟩, ⟨#[]⟩, false, ?_, fun z => by cases z⟩
    unfold spec_l02Itinerary.f
    refine Ev.bind hs ?_
    simp only [Bool.false_eq_true, if_false]
    exact Ev.now _
  | true =>
    obtain ⟨m, em, hm⟩ := ok rfl
    simp only [Prod.mk.injEq, and_true] at em
    obtain ⟨rfl, rfl⟩ := em
    simp only [seg_length] at le
    have key : ∀ f i (acc : List Int), i + f = m → acc.length = i → ∃ c : ByteArray × ByteArray, Ev (fun k => spec_l02Itinerary.l0 k (seg (n, d) m) (pp : Int) acc (i : Int) t1 t2) (c.1, c.2, true) ∧ c.1.size + c.2.size ≤ 15 := by
      intro f
      induction f with
      | zero =>
        intro i acc hi hl
        have z1 : (strOfNums (acc.take pp)).size = pp := by rw [son_size, List.length_take]; omega
        have z2 : (strOfNums (acc.drop pp)).size = m - pp := by rw [son_size, List.length_drop]; omega
        obtain ⟨c, c1, _, c3, c4, c5⟩ := both_canon (strOfNums (acc.take pp)) (strOfNums (acc.drop pp)) (by omega) (by omega)
        refine ⟨c, Ev.step (f := fun k => (spec_l01Canonical.f k (strOfNums (acc.take pp)) (strOfNums (acc.drop pp))).bind fun b => some (b.1, b.2, true)) (fun k => ?_) (Ev.bind c1 (Ev.now _)), by omega⟩
        rw [spec_l02Itinerary.l0, if_neg (by rw [seg_length]; omega), if_pos (by omega), if_pos (by omega), Int.toNat_natCast]
      | succ f ih =>
        intro i acc hi hl
        have hA := orb_isA (x := (n, d)) hx i
        obtain ⟨c, c1, c2⟩ := ih (i + 1) (acc ++ [letV (orbA (n, d) i) (t1, t2)]) (by omega) (by simp; omega)
        refine ⟨c, Ev.step (f := fun k => (spec_l02Letter.f k (orbA (n, d) i).1 (orbA (n, d) i).2 t1 t2).bind fun t => spec_l02Itinerary.l0 k (seg (n, d) m) (pp : Int) (acc ++ [t]) ((i + 1 : Nat) : Int) t1 t2) (fun k => ?_) (Ev.bind (ev_spec_letter hA ht) c1), c2⟩
        rw [spec_l02Itinerary.l0, if_pos (by rw [seg_length]; omega), if_pos (by omega), rd_segS (by omega), wrS (x := (i : Int) + 1) (by omega) (by omega)]
        simp only [if_pos (show acc.length < 140737488355328 by omega)]
        rfl
    obtain ⟨c, c1, c2⟩ := key m 0 [] (by omega) rfl
    refine ⟨c.1, c.2, true, ?_, fun _ => c2⟩
    unfold spec_l02Itinerary.f
    refine Ev.bind hs ?_
    simp only [if_true]
    exact c1
theorem ev_from {c : List Int} (hc : bytesL c) : ∃ h, Ev (fun k => spec_l01From.f k c) (c, 0, h) := by
  unfold spec_l01From.f
  have key : ∀ d i (h : Int), i + d = c.length → ∃ h', Ev (fun k => spec_l01From.l0 k c (i : Int) c 0 h) (c, 0, h') := by
    intro d
    induction d with
    | zero =>
      intro i h hi
      exact ⟨h, Ev.step (f := fun _ => some (c, 0, h)) (fun k => by rw [spec_l01From.l0, if_neg (by omega)]) (Ev.now _)⟩
    | succ d ih =>
      intro i h hi
      obtain ⟨h', r⟩ := ih (i + 1) (IntKind.u64.wrap ((IntKind.u64.wrap ((IntKind.u64.wrap (h * 1099511628211)) + (IntKind.u64.wrap (rd c (i : Int))))) + 53)) (by omega)
      have hl := hc.1
      refine ⟨h', Ev.step (fun k => ?_) r⟩
      rw [spec_l01From.l0, if_pos (by omega), if_pos (by omega), if_pos (by omega), wrS (x := (i : Int) + 1) (by omega) (by omega)]
      rfl
  exact key c.length 0 _ (by omega)
end Go.Proofs.Ytmhpbilkocnlnaa.Q
end
section
namespace Go.Proofs.Ytmhpbilkocnlnaa.Q
open Go.Proofs.YtmhpbilkocnlnaaW.Ext Go.Proofs.Ytmhpbilkocnlnaa.Ang
open Go.RowKit Go.Proofs.YtmhpbilkocnlnaaW.PrintWords Go.Proofs.YtmhpbilkocnlnaaW.PrintLast Go.Proofs.YtmhpbilkocnlnaaW.PrintMore
attribute [local go_sem] max2_int min2_int max_two min_two max_three min_three max_four min_four
set_option linter.unusedVariables false
set_option linter.unusedSimpArgs false
structure St (w0 w W : World) (g : Nat) (c : List Int) : Prop where
 src:∃ a h,IsS59 w0 W g c a h ∧ atL a
 bel:Below w0.heap.size w0 W
 keep:KeepBut w W g none
 lt:g < w.heap.size
 le:w0.heap.size ≤ w.heap.size
section
variable {w0 w W V V2:World} {g b m:Nat} {c:List Int} {o:Obj}
theorem St.re (S:St w0 w W g c):St w0 W W g c:=by
 obtain ⟨a,h,hI,ha⟩:=S.src
 exact ⟨S.src,S.bel,KeepBut.refl _ _ _,hI.lt,S.bel.size⟩
theorem St.below (S:St w0 w W g c) (h:Below W.heap.size W V):St w0 w V g c:=by
 obtain ⟨a,x,hI,ha⟩:=S.src
 exact ⟨⟨a,x,hI.below h,ha⟩,below_step S.bel h,S.keep.trans (KeepBut.of_below h g none) (.inl rfl),S.lt,S.le⟩
theorem St.call (S:St w0 w W g c) (T:St w0 W V g c):St w0 w V g c:=⟨T.src,T.bel,S.keep.trans T.keep (.inl rfl),S.lt,S.le⟩
class Ge (m b:Nat):Prop where h:m ≤ b
class Ne2 (a b:Nat):Prop where h:a ≠ b
class Sw (m:Nat) (W V:World):Prop where
 s:W.heap.size ≤ V.heap.size
 k:∀ i,i < W.heap.size → i < m → V.heap[i]? = W.heap[i]?
 b:∀ w:World,w.heap.size ≤ m → Below w.heap.size w W → Below w.heap.size w V
instance Sw.r (W:World):Sw m W W:=⟨Nat.le_refl _,fun _ _ _=>rfl,fun _ _ h=>h⟩
instance Sw.n (n:Nat) [h:Sw m W V]:Sw m W (V.drewN n):=⟨h.s,h.k,fun w x y=>zN (h.b w x y) n⟩
instance Sw.d [h:Sw m W V]:Sw m W V.drew:=⟨h.s,h.k,fun w x y=>zD (h.b w x y)⟩
instance Sw.a [h:Sw m W V]:Sw m W (V.alloc o) :=
 ⟨Nat.le_trans h.s (by simp),fun i hi hm=>(Below.heap_alloc V o i (Nat.lt_of_lt_of_le hi h.s)).trans (h.k i hi hm),fun w x y=>zA (h.b w x y) o⟩
instance Sw.x (j:Nat) (v:Value) [x:Ge m b] [h:Sw m W V]:Sw m W (V.setCell ⟨b,j,none⟩ v) :=
 ⟨by simpa using h.s,fun i hi hm=>(Below.heap_setCell V ⟨b,j,none⟩ v i (fun e=>by have:=x.h;have e:i = b:=e;omega)).trans (h.k i hi hm),
  fun w z y=>zS (h.b w z y) (Nat.le_trans z x.h)⟩
theorem st [s:Sw w.heap.size W V] (S:Aside0 (St w0 w W g c)):St w0 w V g c:=by
 obtain ⟨a,x,⟨A0,c0,h1,h2,h3⟩,ha⟩:=S.out.src
 refine ⟨⟨a,x,⟨A0,c0,(s.k g (blk_lt h1) S.out.lt).trans h1,h2,h3⟩,ha⟩,s.b w0 S.out.le S.out.bel,⟨Nat.le_trans S.out.keep.1 s.s,fun i hi hg hn=>?_⟩,S.out.lt,S.out.le⟩
 exact (s.k i (Nat.lt_of_lt_of_le hi S.out.keep.1) hi).trans (S.out.keep.2 i hi hg hn)
theorem sb [s:Sw w.heap.size W V] (S:Aside0 (St w0 w W g c)) (h:Below V.heap.size V V2):Aside0 (St w0 w V2 g c):=⟨(st S).below h⟩
theorem sc [s:Sw w.heap.size W V] (S:Aside0 (St w0 w W g c)) (T:St w0 V V2 g c):Aside0 (St w0 w V2 g c):=⟨(st S).call T⟩
theorem geN [s:Sw w.heap.size W V] (S:Aside0 (St w0 w W g c)) (e:b = V.heap.size):Ge w.heap.size b:=⟨e ▸ (st (V:=V) S).keep.1⟩
class Sn (g:Nat) (W V:World):Prop where
 s:W.heap.size ≤ V.heap.size
 k:g < W.heap.size → V.heap[g]? = W.heap[g]?
instance Sn.r (W:World):Sn g W W:=⟨Nat.le_refl _,fun _=>rfl⟩
instance Sn.n (n:Nat) [h:Sn g W V]:Sn g W (V.drewN n):=⟨h.s,h.k⟩
instance Sn.d [h:Sn g W V]:Sn g W V.drew:=⟨h.s,h.k⟩
instance Sn.a [h:Sn g W V]:Sn g W (V.alloc o):=⟨Nat.le_trans h.s (by simp),fun hi=>(Below.heap_alloc V o g (Nat.lt_of_lt_of_le hi h.s)).trans (h.k hi)⟩
instance Sn.x (j:Nat) (v:Value) [x:Ne2 g b] [h:Sn g W V]:Sn g W (V.setCell ⟨b,j,none⟩ v):=⟨by simpa using h.s,fun hi=>(Below.heap_setCell V ⟨b,j,none⟩ v g x.h).trans (h.k hi)⟩
theorem bn [s:Sn g W V] (h:Aside0 (W.heap[g]? = some o)):V.heap[g]? = some o:=(s.k (blk_lt h.out)).trans h.out
theorem b2 {t:TypeId} {x y p q:Value} [s:Sn g W V] (h:Aside0 (W.heap[g]? = some (.cells #[x,y] t (0,0)))):((V.setCell ⟨g,0,none⟩ p).setCell ⟨g,1,none⟩ q).heap[g]? = some (.cells #[p,q] t (0,0)) :=
 blk_put (cs:=#[p,y]) (blk_put (cs:=#[x,y]) (bn h) 0 p rfl) 1 q rfl
theorem bnB [s:Sn g W V] (h:Aside0 (W.heap[g]? = some o)) (x:Below V.heap.size V V2):Aside0 (V2.heap[g]? = some o):=⟨blk_below (bn h) x⟩
theorem bnS [s:Sn b W V] [y:Ge w.heap.size b] (S:Aside0 (St w0 w W g c)) (h:Aside0 (W.heap[b]? = some o)) (T:St w0 V V2 g c):Aside0 (V2.heap[b]? = some o) :=
 ⟨KeepBut.blk T.keep (bn h) (fun e=>by have:=S.out.lt;have:=y.h;omega) (by simp)⟩
theorem neN [s:Sn g W V] (h:Aside0 (W.heap[g]? = some o)) (e:b = V.heap.size):Ne2 g b:=⟨e ▸ Nat.ne_of_lt (blk_lt (bn (V:=V) h))⟩
theorem neN' [s:Sn g W V] (h:Aside0 (W.heap[g]? = some o)) (e:b = V.heap.size):Ne2 b g:=⟨(neN h e).h.symm⟩
end
section
variable (w0:World) {w:World} {g:Nat} {c:List Int}
theorem nextE (hc:bytesL c) (n:Int) (hn:n ≤ 1000000) (S:St w0 w w g c):Calls Try.prog 35 #[.pointer (some ⟨g,0,none⟩),.int .i64 n] w fun e w'=>∃ v,e = .returned (.int .i64 v) ∧ 0 ≤ v ∧ (1 ≤ n → v < n) ∧ St w0 w w' g c:=by
 obtain ⟨a,h,hI,ha⟩:=S.src
 obtain ⟨v,a',h',e,v0,v1,s⟩:=next_val hc h n ha hn
 refine (spec_l01Next.calls g c a h n v a' h' w0 w hI S.bel e).mono ?_
 rintro e w' ⟨rfl,hi,hb,hk⟩
 exact ⟨v,rfl,v0,v1,⟨a',h',hi,s⟩,hb,hk,S.lt,S.le⟩
theorem pickE (hc:bytesL c) (l:List Int) (h1:1 ≤ l.length) (h2:l.length ≤ 100) (S:St w0 w w g c) {A:Option Addr} {n:Nat} (hC:Kd.C (Kd.int .i64) w A l.length l) (hn:l.length ≤ n) (hf:∀ ad,A = some ad → 0 < l.length → ad.block ≠ g) :
  Calls Try.prog 37 #[.pointer (some ⟨g,0,none⟩),.slice A l.length n] w fun e w'=>∃ v,e = .returned (.int .i64 v) ∧ v ∈ l ∧ St w0 w w' g c:=by
 obtain ⟨a,h,hI,ha⟩:=S.src
 obtain ⟨v,a',h',e,v0,s⟩:=pick_val hc h ha l h1 h2
 refine (spec_l01Pick.calls g c a h A n l v a' h' w0 w hI S.bel hC hn hf e).mono ?_
 rintro e w' ⟨rfl,hi,hb,hk⟩
 exact ⟨v,rfl,v0,⟨a',h',hi,s⟩,hb,hk,S.lt,S.le⟩
theorem ofE (n:Int) {d:Int} (h0:0 < d) (h1:d ≤ 8191) (w:World):Calls Try.prog 38 #[.int .i64 n,.int .i64 d] w fun e w'=>e = .returned (.agg #[.int .i64 (ang n d).1,.int .i64 (ang n d).2]) ∧ Below w.heap.size w w':=by
 obtain ⟨K,hK⟩:=ev_spec_Of (n:=n) h0 (by omega)
 exact spec_l01Of.calls K n d _ _ w (hK K (Nat.le_refl _))
theorem itinE {n d t1 t2:Int} (hx:isA n d = true) (hg:goodD d) (ht:isA t1 t2 = true) (w:World):Calls Try.prog 39 #[.agg #[.int .i64 n,.int .i64 d],.agg #[.int .i64 t1,.int .i64 t2]] w fun e w'=>∃ p q ok,e = .returned (.tuple #[.agg #[.string p,.string q],.bool ok]) ∧ (ok = true → p.size + q.size ≤ 15) ∧ Below w.heap.size w w':=by
 obtain ⟨p,q,ok,⟨K,hK⟩,r2⟩:=ev_itin hx hg ht
 refine (spec_l02Itinerary.calls K n d t1 t2 p q ok w (hK K (Nat.le_refl _))).mono ?_
 rintro e w' ⟨rfl,hb⟩
 exact ⟨p,q,ok,rfl,r2,hb⟩
theorem reps_int (l:List Int) (W:World) (base:Nat) (ok:Nat → Prop):Reps ((Kd.int .i64).M W base ok) (Kd.int .i64).sz l (l.map (.int .i64 ·)):=by
 induction l with
 | nil=>exact Reps.none _ _
 | cons x l ih=>exact Reps.one rfl ih
end
section
variable {P:Program} {ops:Array Oper} {rest:List Oper} {o:Oper} {a:Act} {Q:Exit → Act → World → Prop}
theorem litI {W:World} (hgd:o.guard = none) {N:Tmp} (hd:o.dst = some N) (xs:List Int)
  (hrun:(execOp a.eval o).run P W = .ok (.value (.slice (some ⟨W.heap.size,0,none⟩) xs.length xs.length)) (W.alloc (.cells (xs.map (.int .i64 ·)).toArray 2))) (hm:xs.length ≤ 9223372036854775807)
  (h:∀ A n w1,Kd.C (Kd.int .i64) w1 A xs.length xs → xs.length ≤ n → (∀ g,g < W.heap.size → ∀ ad,A = some ad → 0 < xs.length → ad.block ≠ g) → Below W.heap.size W w1 → wpList P ops Q rest (a.put o.dst (.slice A xs.length n)) w1):wpList P ops Q (o :: rest) a W:=by
 refine Kd.R_lit (Kd.int .i64) (w0:=W) W.heap.size 2 hgd hd (xs:=xs) (inner:=xs.map (.int .i64 ·)) (ok:=fun _=>True) (okp:=fun _=>True) hrun (reps_int _ _ _ _) (fun _ hk=>hk) trivial (Below.refl _ _) (Nat.le_refl _) hm ?_
 intro v1 w1 ho hb hg ⟨b,hb1,hb2⟩
 obtain ⟨A,n,rfl⟩:=Kd.R_slice ho
 obtain ⟨_,r1,r2⟩:=Kd.R_reads' ho
 refine h A n w1 r2 r1 (fun g hlt=>far_slice (c:=n) (fun e=>?_)) hb
 rw [hb1] at e
 injection e with e
 omega
end
section
variable {w0 w W W0 W1 W2 V V2:World} {g b e:Nat} {c:List Int} {o:Obj} {α:Type} {d:Kd α} {ok:Nat → Prop} {v:Value} {xs:List α}
theorem roS [s:Sf W0 V] (S:Aside0 (St w0 w W g c)) (R:Aside0 (d.R e W0 w.heap.size ok v xs)) (T:St w0 V V2 g c):Aside0 (d.R e V2 w.heap.size ok v xs) :=
 ⟨Kd.R_mono (Kd.R_keep (Kd.R_bound (rk R)) T.keep (fun k h=>by have:=h.2.1;have:=S.out.lt;omega)) (fun _ h=>h.1)⟩
theorem sg [s:Sw w.heap.size W V] (S:Aside0 (St w0 w W g c)) (R:d.R e V w.heap.size ok v xs) (hb:Below w.heap.size V V2) (hg:V.grownBy V2 v.ownBlock):Aside0 (St w0 w V2 g c):=by
 have S:=st (V:=V) S
 obtain ⟨a,x,hI,ha⟩:=S.src
 have r:=Kd.R_base2 R
 have:=S.lt
 refine ⟨⟨a,x,hI.grown hg ?_,ha⟩,below_weaken S.bel S.le hb,S.keep.trans (KeepBut.of_grown hg g) r,S.lt,S.le⟩
 rcases r with r|⟨k,r,hk⟩
 ·rw [r];simp
 ·rw [r];intro h;injection h with h;omega
theorem bgr {t:TypeId} {cs:Array Value} [s:Sn b W V] (h:Aside0 (W.heap[b]? = some (.cells cs t (0,0)))) (R:d.R e V w.heap.size ok v xs) (ht:e ≠ t) (hg:V.grownBy V2 v.ownBlock):Aside0 (V2.heap[b]? = some (.cells cs t (0,0))) :=
 ⟨blk_grown (bn h) hg (Kd.R_ne R (bn h) ht)⟩
abbrev RB (B:Nat) (W:World) (v:Value) (l:List Int):Prop:=Kd.R (Kd.int .u8) 5 W B (fun _=>True) v l
end
section
variable {ops:Array Oper} {rest:List Oper} {o:Oper} {a:Act} {Q:Exit → Act → World → Prop} {w0 w W0 W1 W2 W:World} {g b:Nat} {c:List Int} {v:Value} {l:List Int} {t:TypeId} {cs:Array Value}
theorem app8 [Sf W0 W] [Sw w.heap.size W1 W] [Sn b W2 W] (S:Aside0 (St w0 w W1 g c)) (R:Aside0 (RB w.heap.size W0 v l)) (BK:Aside0 (W2.heap[b]? = some (.cells cs t (0,0)))) (ht:5 ≠ t) (hl:l.length ≤ 1000) (p:Int) (s x:Operand)
  (hgd:o.guard = none) (hop:o.op = .call { callee:=.builtin .append,args:=#[s,x],argTypes:=#[22,22] }) (hs:a.eval s = v) (hx:a.eval x = .slice (some ⟨W.heap.size,0,none⟩) 1 1)
  (K:∀ v1 w1,Aside0 (RB w.heap.size w1 v1 (l ++ [p])) → Aside0 (St w0 w w1 g c) → Aside0 (w1.heap[b]? = some (.cells cs t (0,0))) → wpList Try.prog ops Q rest (a.put o.dst v1) w1) :
  wpList Try.prog ops Q (o :: rest) a (W.alloc (.cells #[.int .u8 p] 5)):=by
 refine Kd.R_append (Kd.int .u8) w.heap.size hgd s x 22 5 (.int .u8 0) 1 hop Try.underlying22 info5 rfl (by decide) (by omega) v l p [.int .u8 p] (fun _=>True) (fun _=>False) hs hx rfl (fun _ hk=>hk.elim) (fun _ _=>trivial) (rk R) (Below.refl _ _) (st (V:=W) S).keep.1 (by omega) ?_
 intro v1 w1 ho hb hg _
 exact K v1 w1 ⟨ho⟩ (sg S (rk R) hb hg) (bgr BK (rk R) ht hg)
theorem lit0 {w W:World} (hgd:o.guard = none) {N:Tmp} (hd:o.dst = some N) (hB:w.heap.size ≤ W.heap.size)
  (hrun:(execOp a.eval o).run Try.prog W = .ok (.value (.slice (some ⟨W.heap.size,0,none⟩) 0 0)) (W.alloc (.cells #[] 5)))
  (h:∀ v w1,Aside0 (RB w.heap.size w1 v []) → Below W.heap.size W w1 → wpList Try.prog ops Q rest (a.put o.dst v) w1):wpList Try.prog ops Q (o :: rest) a W:=by
 refine Kd.R_lit (Kd.int .u8) (w0:=W) W.heap.size 5 hgd hd (xs:=[]) (inner:=[]) (ok:=fun _=>True) (okp:=fun _=>True) hrun (Reps.none _ _) (fun _ hk=>hk) trivial (Below.refl _ _) (Nat.le_refl _) (by simp) ?_
 intro v1 w1 ho hb hg _
 exact h v1 w1 ⟨Kd.R_lower ho hB⟩ hb
end
def Den (d:Int):Prop:=0 < d ∧ d ≤ 504 ∧ ∃ D ∈ ([1,3,7,15,31,63,5,9,11,13,17,21]:List Int),∃ j ∈ ([1,2,4,8]:List Int),d = D * j
theorem den_of {D j:Int} (hD:D ∈ ([1,3,7,15,31,63,5,9,11,13,17,21]:List Int)) (hj:j ∈ ([1,2,4,8]:List Int)):Den (wrap64 (D * j)):=by
 have h1:1 ≤ D ∧ D ≤ 63:=by simp only [List.mem_cons,List.not_mem_nil,or_false] at hD;omega
 have h2:1 ≤ j ∧ j ≤ 8:=by simp only [List.mem_cons,List.not_mem_nil,or_false] at hj;omega
 have q1:0 < D * j:=Int.mul_pos (by omega) (by omega)
 have q2:D * j ≤ 63 * j:=Int.mul_le_mul_of_nonneg_right h1.2 (by omega)
 rw [wrS (by omega) (by omega)]
 exact ⟨q1,by omega,D,hD,j,hj,rfl⟩
theorem den_of1 {D:Int} (hD:D ∈ ([1,3,7,15,31,63,5,9,11,13,17,21]:List Int)):Den D:=by
 have h:=den_of hD (j:=1) (by simp)
 rwa [Int.mul_one,wrS (by simp only [List.mem_cons,List.not_mem_nil,or_false] at hD;omega) (by simp only [List.mem_cons,List.not_mem_nil,or_false] at hD;omega)] at h
theorem den_ang {d:Int} (h:Den d) (n:Int):isA (ang n d).1 (ang n d).2 = true ∧ goodD (ang n d).2:=by
 obtain ⟨h0,h1,D,hD,j,hj,rfl⟩:=h
 obtain ⟨g,g0,g1,g2⟩:=ang_mul (n:=n) h0
 exact ⟨ang_isA h0 (by omega),D,hD,j,hj,⟨g,g2.symm⟩⟩
section
variable {w0 w:World} {g:Nat} {c:List Int}
set_option maxHeartbeats 8000000 in
set_option maxRecDepth 100000 in
theorem drawA (Hc:bytesL c) (S0:St w0 w w g c):Calls Try.prog 59 #[.pointer (some ⟨g,0,none⟩)] w fun e w'=>∃ n d,e = .returned (.agg #[.int .i64 n,.int .i64 d]) ∧ isA n d = true ∧ goodD d ∧ St w0 w w' g c:=by
 have hu63:=Try.underlying63
 have S:=aM S0
 clear S0
 go_enter Try.func59,Try.ntmps59
 go_upto_block 0 with (first
  | ((with_reducible refine gate_dst (N:=2) rfl ?_);refine box_event rfl (N:=2) rfl (cs:=#[.int .i64 0,.int .i64 0]) (t:=63) (by first|(go_simp;done)|(go_simp;rfl)) ?_;intro b hg w1 hbox hb;have G:=geN S hg;replace S:=sb S hb;have BK:=aM hbox;clear hb hbox hg)
  | ((with_reducible refine gate_dst (N:=5) rfl ?_);refine litI ?hg (N:=5) ?hd [1,3,7,15,31,63,5,9,11,13,17,21] ?hr (by simp) ?_;(case hd=>rfl);(case hg=>rfl);(case hr=>first|(go_simp;done)|(go_simp;rfl));intro A n w2 hC hn hf hb;have C:=aM hC;have F:=hf g (st S).re.lt;replace BK:=bnB BK hb;replace S:=sb S hb;clear hb hC hf)
  | ((with_reducible refine gate_callee (f:=37) rfl ?_);refine goesL_ (some 6) rfl rfl Try.func37 (by kernel_rfl) rfl #[.pointer (some ⟨g,0,none⟩),.slice A 12 n] rfl (by (try simp only [sM,sC,sN]);first|done|rfl) ?_;refine Calls.mono (pickE w0 Hc [1,3,7,15,31,63,5,9,11,13,17,21] (by decide) (by decide) ?sS ?sC hn F) ?_;(case sS=>exact (st S).re);(case sC=>exact ck C);rintro e w3 ⟨D,rfl,hD,T⟩;refine ⟨_,rfl,?_⟩;replace BK:=bnS S BK T;replace S:=sc S T;clear T C F)
  | ((with_reducible refine gate_callee (f:=35) rfl ?_);refine goesL_ (some 8) rfl rfl Try.func35 (by kernel_rfl) rfl #[.pointer (some ⟨g,0,none⟩),.int .i64 5] rfl (by (try simp only [sM,sC,sN]);first|done|rfl) ?_;refine Calls.mono (nextE w0 Hc 5 (by decide) ?sS) ?_;(case sS=>exact (st S).re);rintro e w4 ⟨v,rfl,v0,v1,T⟩;refine ⟨_,rfl,?_⟩;replace BK:=bnS S BK T;replace S:=sc S T;clear T))
 (try simp only [Act.put,sI,sZ,sS])
 go_cut [3] (fun v3 wc=>∃ d,v3 = .int .i64 d ∧ Den d ∧ Aside0 (wc.heap[b]? = some (.cells #[.int .i64 0,.int .i64 0] 63 (0,0))) ∧ Aside0 (St w0 w wc g c))
 case first =>
  go_wp2_with (first
  | ((with_reducible refine gate_dst (N:=13) rfl ?_);refine litI ?hg (N:=13) ?hd [2,4,8] ?hr (by simp) ?_;(case hd=>rfl);(case hg=>rfl);(case hr=>first|(go_simp;done)|(go_simp;rfl));intro A n w2 hC hn hf hb;have C:=aM hC;have F:=hf g (st S).re.lt;replace BK:=bnB BK hb;replace S:=sb S hb;clear hb hC hf)
  | ((with_reducible refine gate_callee (f:=37) rfl ?_);refine goesL_ (some 14) rfl rfl Try.func37 (by kernel_rfl) rfl #[.pointer (some ⟨g,0,none⟩),.slice A 3 n] rfl (by (try simp only [sM,sC,sN]);first|done|rfl) ?_;refine Calls.mono (pickE w0 Hc [2,4,8] (by decide) (by decide) ?sS ?sC hn F) ?_;(case sS=>exact (st S).re);(case sC=>exact ck C);rintro e w3 ⟨j,rfl,hj,T⟩;refine ⟨_,rfl,?_⟩;replace BK:=bnS S BK T;replace S:=sc S T;clear T C F))
  all_goals go_meet
  case rel=>exact ⟨_,rfl,den_of hD (by simp only [List.mem_cons,List.not_mem_nil,or_false] at hj ⊢;omega),BK,S⟩
  case rel=>exact ⟨_,rfl,den_of hD (by simp),BK,S⟩
  case rel=>exact ⟨_,rfl,den_of1 hD,BK,S⟩
 case rest =>
  obtain ⟨d,rfl,hd,BK,S⟩:=hcut
  have hd1:=hd.2.1
  go_wp2_with (first
  | ((with_reducible refine gate_callee (f:=35) rfl ?_);refine goesL_ (some 22) rfl rfl Try.func35 (by kernel_rfl) rfl #[.pointer (some ⟨g,0,none⟩),.int .i64 d] rfl (by (try simp only [sM,sC,sN]);first|done|rfl) ?_;refine Calls.mono (nextE w0 Hc d (by omega) ?sS) ?_;(case sS=>exact (st S).re);rintro e w4 ⟨x,rfl,v0,v1,T⟩;refine ⟨_,rfl,?_⟩;replace BK:=bnS S BK T;replace S:=sc S T;clear T)
  | ((with_reducible refine gate_callee (f:=38) rfl ?_);refine goesL_ (some 24) rfl rfl Try.func38 (by kernel_rfl) rfl #[.int .i64 x,.int .i64 d] rfl (by (try simp only [sM,sC,sN]);first|done|rfl) ?_;refine Calls.mono (ofE x hd.1 (by omega) _) ?_;rintro e w5 ⟨rfl,hb⟩;refine ⟨_,rfl,?_⟩;replace BK:=bnB BK hb;replace S:=sb S hb;clear hb;have ⟨a0,a1,b0,b1⟩:=q2f BK))
  refine bodyPost_ret (results_cell_row rfl _ _ b 63 #[.int .i64 (ang x d).1,.int .i64 (ang x d).2] (0,0) _ rfl (b2 BK) Try.underlying63 rfl (by kernel_rfl)) rfl ?_
  exact ⟨_,_,rfl,(den_ang hd x).1,(den_ang hd x).2,st S⟩
end
section
variable {w0 w:World} {g:Nat} {c:List Int}
set_option maxHeartbeats 8000000 in
set_option maxRecDepth 100000 in
theorem drawS1 (Hc:bytesL c) (S0:St w0 w w g c):Calls Try.prog 58 #[.pointer (some ⟨g,0,none⟩)] w fun e w'=>∃ p q,e = .returned (.agg #[.string p,.string q]) ∧ p.size + q.size ≤ 15 ∧ St w0 w w' g c:=by
 have hu25:=Try.underlying25
 have S:=aM S0
 clear S0
 go_enter Try.func58,Try.ntmps58
 go_wp2_with (first
  | ((with_reducible refine gate_dst (N:=2) rfl ?_);refine box_event rfl (N:=2) rfl (cs:=#[.string ⟨#[]⟩,.string ⟨#[]⟩]) (t:=25) (by first|(go_simp;done)|(go_simp;rfl)) ?_;intro b hg w1 hbox hb;have G:=geN S hg;replace S:=sb S hb;have BK:=aM hbox;clear hb hbox hg)
  | ((with_reducible refine gate_dst (N:=7) rfl ?_);refine litI ?hg (N:=7) ?hd [1,2,3,4,5,6,7,9] ?hr (by simp) ?_;(case hd=>rfl);(case hg=>rfl);(case hr=>first|(go_simp;done)|(go_simp;rfl));intro A n w2 hC hn hf hb;have C:=aM hC;have F:=hf g (st S).re.lt;replace BK:=bnB BK hb;replace S:=sb S hb;clear hb hC hf)
  | ((with_reducible refine gate_callee (f:=37) rfl ?_);refine goesL_ (some 8) rfl rfl Try.func37 (by kernel_rfl) rfl #[.pointer (some ⟨g,0,none⟩),.slice A 8 n] rfl (by (try simp only [sM,sC,sN]);first|done|rfl) ?_;refine Calls.mono (pickE w0 Hc [1,2,3,4,5,6,7,9] (by decide) (by decide) ?sS ?sC hn F) ?_;(case sS=>exact (st S).re);(case sC=>exact ck C);rintro e w3 ⟨D,rfl,hD,T⟩;refine ⟨_,rfl,?_⟩;replace BK:=bnS S BK T;replace S:=sc S T;clear T C F)
  | ((with_reducible refine gate_dst (N:=9) rfl ?_);refine lit0 (w:=w) ?hg (N:=9) ?hd ?hz ?hr ?_;(case hd=>rfl);(case hg=>rfl);(case hz=>exact (st S).keep.1);(case hr=>first|(go_simp;done)|(go_simp;rfl));intro v0 w4 hR hb;have R:=hR;replace BK:=bnB BK hb;replace S:=sb S hb;clear hb hR))
 replace hD:1 ≤ D ∧ D ≤ 9:=by simp only [List.mem_cons,List.not_mem_nil,or_false] at hD;omega
 have hD1:wrap64 (D - 1) = D - 1:=wrS (by omega) (by omega)
 go_loopg [4,5] 9 (fun kq v4 v5 wc=>∃ l:List Int,v5 = .int .i64 l.length ∧ kq + l.length = 9 ∧ Aside0 (RB w.heap.size wc v4 l) ∧ Aside0 (wc.heap[b]? = some (.cells #[.string ⟨#[]⟩,.string ⟨#[]⟩] 25 (0,0))) ∧ Aside0 (St w0 w wc g c))
 case atStart=>exact ⟨[],rfl,rfl,R,BK,S⟩
 case round =>
  clear R S BK
  obtain ⟨l,rfl,hk,R,BK,S⟩:=hrel
  by_cases c1:(l.length:Int) < wrap64 (D - 1)
  ·have d1:decide ((l.length:Int) < wrap64 (D - 1)) = true:=decide_eq_true c1
   rw [hD1] at c1
   go_wp2_with (first
   | ((with_reducible refine gate_callee (f:=35) rfl ?_);refine goesL_ (some 18) rfl rfl Try.func35 (by kernel_rfl) rfl #[.pointer (some ⟨g,0,none⟩),.int .i64 2] rfl (by (try simp only [sM,sC,sN]);first|done|rfl) ?_;refine Calls.mono (nextE w0 Hc 2 (by decide) ?sS) ?_;(case sS=>exact (st S).re);rintro e w5 ⟨v,rfl,v0,v1,T⟩;refine ⟨_,rfl,?_⟩;replace BK:=bnS S BK T;replace R:=roS S R T;replace S:=sc S T;clear T)
   | ((with_reducible refine gate_builtin (b:=.append) (xs:=#[.tmp 16,.tmp 21]) rfl ?_);at_builtin;refine app8 S R BK (by decide) (by omega) _ (.tmp 16) (.tmp 21) rfl rfl rfl rfl ?_;intro v6 w6 R1 S1 BK1;replace R:=R1;replace S:=S1;replace BK:=BK1;clear R1 S1 BK1))
   go_roundg (gk - 1)
   case measure=>omega
   case rel=>exact ⟨_,by rw [List.length_append,List.length_singleton,Int.natCast_add];rfl,by rw [List.length_append,List.length_singleton];omega,R,BK,S⟩
  ·have d1:decide ((l.length:Int) < wrap64 (D - 1)) = false:=decide_eq_false c1
   rw [hD1] at c1
   by_cases c2:1 < D
   ·have d2:decide (1 < D) = true:=decide_eq_true c2
    obtain ⟨g1,n1,rfl,hg1,hl1,_⟩:=Kd.R_form R.out (by omega)
    have ⟨hx,hf⟩:=Kd.R_celln 0 R.out 0 (by decide) (by omega)
    have HP:=Kd.R_putg R.out (0:Int) 49
    rw [show (0:Int).toNat = 0 from rfl] at hx hf HP
    have G1:Ge w.heap.size g1:=⟨hg1⟩
    have N1:Ne2 b g1:=⟨fun e=>Kd.R_ne R.out BK.out (by decide) (by rw [e];rfl)⟩
    have R1:=aM HP.1
    have S1:=aM (st (V:=wr.setCell ⟨g1,0,none⟩ (.int .u8 49)) S)
    have B1:=aM (bn (V:=wr.setCell ⟨g1,0,none⟩ (.int .u8 49)) BK)
    have d3:decide (0 < l.length) = true:=decide_eq_true (by omega)
    have d4:(0 < l.length) = True:=eq_true (by omega)
    go_wp2_with (first
    | ((with_reducible refine gate_store (t:=5) (p:=26) rfl ?_);refine store_event (t:=5) (p:=26) (v:=?vo) (w1:=wr.setCell ⟨g1,0,none⟩ (.int .u8 49)) ?hg ?ho ?hn ?hr ?_;(case ho=>rfl);(case hg=>rfl);(case hn=>rfl);(case hr=>first|(go_simp;done)|(go_simp;rfl));intro w7 hw;rw [← hw] at R1 S1 B1;clear R S BK hw;have R:=R1;have S:=S1;have BK:=B1;clear R1 S1 B1)
    | ((with_reducible refine gate_builtin (b:=.append) (xs:=#[.tmp 27,.tmp 28]) rfl ?_);at_builtin;refine app8 S R BK (by decide) (by first|omega|(rw [List.length_set];omega)) _ (.tmp 27) (.tmp 28) rfl rfl rfl rfl ?_;intro v6 w6 R1 S1 BK1;replace R:=R1;replace S:=S1;replace BK:=BK1;clear R1 S1 BK1;have hcv:=own_string (P:=Try.prog) Try.underlying22 Try.underlying5 Try.underlying9 (Kd.own_of_R R.out);have ⟨a0,a1,b0,b1⟩:=q2f BK))
    refine bodyPost_ret (results_cell_row rfl _ _ b 25 #[.string ⟨#[]⟩,.string (strOfNums (l.set 0 49 ++ [42]))] (0,0) _ rfl (b2 BK) Try.underlying25 rfl (by kernel_rfl)) rfl ?_
    exact ⟨_,_,rfl,by rw [son_size,List.length_append,List.length_singleton,List.length_set];show 0 + (l.length + 1) ≤ 15;omega,st S⟩
   ·have d2:decide (1 < D) = false:=decide_eq_false c2
    go_wp2_with ((with_reducible refine gate_builtin (b:=.append) (xs:=#[.tmp 27,.tmp 28]) rfl ?_);at_builtin;refine app8 S R BK (by decide) (by first|omega|(rw [List.length_set];omega)) _ (.tmp 27) (.tmp 28) rfl rfl rfl rfl ?_;intro v6 w6 R1 S1 BK1;replace R:=R1;replace S:=S1;replace BK:=BK1;clear R1 S1 BK1;have hcv:=own_string (P:=Try.prog) Try.underlying22 Try.underlying5 Try.underlying9 (Kd.own_of_R R.out);have ⟨a0,a1,b0,b1⟩:=q2f BK)
    refine bodyPost_ret (results_cell_row rfl _ _ b 25 #[.string ⟨#[]⟩,.string (strOfNums (l ++ [42]))] (0,0) _ rfl (b2 BK) Try.underlying25 rfl (by kernel_rfl)) rfl ?_
    exact ⟨_,_,rfl,by rw [son_size,List.length_append,List.length_singleton];show 0 + (l.length + 1) ≤ 15;omega,st S⟩
end
section
variable {w0 w:World} {g:Nat} {c:List Int}
end
theorem reps_sc {α:Type} (enc:α → Value) (h1:∀ x,(enc x).oneCell' = true) (l:List α) (W:World) (base:Nat) (ok:Nat → Prop):Reps ((Kd.scalar enc h1).M W base ok) (Kd.scalar enc h1).sz l (l.map enc):=by
 induction l with
 | nil=>exact Reps.none _ _
 | cons x l ih=>exact Reps.one rfl ih
section
variable {ops:Array Oper} {rest:List Oper} {o:Oper} {a:Act} {Q:Exit → Act → World → Prop} {Kc:Act → World → Prop} {w w0 W:World}
theorem litS (hgd:o.guard = none) {N:Tmp} (hd:o.dst = some N) (hB:w.heap.size ≤ W.heap.size) (xs:List ByteArray)
  (hrun:(execOp a.eval o).run Try.prog W = .ok (.value (.slice (some ⟨W.heap.size,0,none⟩) xs.length xs.length)) (W.alloc (.cells (xs.map (.string ·)).toArray 9))) (hm:xs.length ≤ 9223372036854775807)
  (h:∀ A n w1,Aside0 (Kd.R Kd.string 9 w1 w.heap.size (fun _=>True) (.slice A xs.length n) xs) → Below W.heap.size W w1 → wpList Try.prog ops Q rest (a.put o.dst (.slice A xs.length n)) w1):wpList Try.prog ops Q (o :: rest) a W:=by
 refine Kd.R_lit Kd.string (w0:=W) W.heap.size 9 hgd hd (xs:=xs) (inner:=xs.map (.string ·)) (ok:=fun _=>True) (okp:=fun _=>True) hrun (reps_sc _ _ _ _ _ _) (fun _ hk=>hk) trivial (Below.refl _ _) (Nat.le_refl _) hm ?_
 intro v1 w1 ho hb hg _
 obtain ⟨A,n,rfl⟩:=Kd.R_slice ho
 exact h A n w1 ⟨Kd.R_lower ho hB⟩ hb
theorem litS_step (hgd:Region.wanted o (yielded ops a.tmps) = true) {N:Tmp} (hd:o.dst = some N) (hB:w.heap.size ≤ W.heap.size) (xs:List ByteArray)
  (hrun:(execOp a.eval o).run Try.prog W = .ok (.value (.slice (some ⟨W.heap.size,0,none⟩) xs.length xs.length)) (W.alloc (.cells (xs.map (.string ·)).toArray 9))) (hm:xs.length ≤ 9223372036854775807)
  (h:∀ A n w1,Kd.R Kd.string 9 w1 w.heap.size (fun _=>True) (.slice A xs.length n) xs → Below W.heap.size W w1 → Kc (a.put o.dst (.slice A xs.length n)) w1) :
  if Region.wanted o (yielded ops a.tmps) = true then Oper.wp Try.prog o a W Kc Q else Kc (a.put o.dst undef) W:=by
 refine Kd.R_lit_step Kd.string (w0:=W) W.heap.size 9 hgd hd (xs:=xs) (inner:=xs.map (.string ·)) (ok:=fun _=>True) (okp:=fun _=>True) hrun (reps_sc _ _ _ _ _ _) (fun _ hk=>hk) trivial (Below.refl _ _) (Nat.le_refl _) hm ?_
 intro v1 w1 ho hb hg _
 obtain ⟨A,n,rfl⟩:=Kd.R_slice ho
 exact h A n w1 (Kd.R_lower ho hB) hb
theorem pickS {xs:List ByteArray} {base n cap:Nat} {ok:Nat → Prop} {A:Option Addr} (R:Kd.R Kd.string 9 W base ok (.slice A n cap) xs) {v:Int} (h0:0 ≤ v) (h1:v < xs.length) :
  ∃ ad s,A = some ad ∧ s ∈ xs ∧ W.cell? (ad.add v.toNat) = some (.string s):=by
 obtain ⟨ad,e,hx⟩:=Kd.at_string (Kd.R_reads' R).2.2 v h0 h1
 have hm:rdOf ByteArray.empty xs v ∈ xs:=by
  unfold rdOf
  rw [List.getD_eq_getElem?_getD,List.getElem?_eq_getElem (by omega)]
  exact List.getElem_mem _
 exact ⟨ad,_,e,hm,hx⟩
end
theorem canonE {p q:ByteArray} (h1:1 ≤ q.size) (h:p.size + q.size ≤ 4096) (w:World):Calls Try.prog 40 #[.string p,.string q] w fun e w'=>∃ p' q',e = .returned (.agg #[.string p',.string q']) ∧ p'.size + q'.size ≤ p.size + q.size ∧ Below w.heap.size w w':=by
 obtain ⟨c,⟨K,hK⟩,_,c3,_,c5,_⟩:=both_canon p q h1 h
 refine (spec_l01Canonical.calls K p q _ _ w (hK K (Nat.le_refl _))).mono ?_
 rintro e w' ⟨rfl,hb⟩
 exact ⟨_,_,rfl,by omega,hb⟩
section
variable {w0 w W V V2:World} {g b:Nat} {c:List Int} {t:TypeId} {x y p q:Value}
theorem bnS2 [s:Sn b W V] [z:Ge w.heap.size b] (S:Aside0 (St w0 w W g c)) (h:Aside0 (W.heap[b]? = some (.cells #[x,y] t (0,0)))) (T:St w0 ((V.setCell ⟨b,0,none⟩ p).setCell ⟨b,1,none⟩ q) V2 g c):Aside0 (V2.heap[b]? = some (.cells #[p,q] t (0,0))) :=
 ⟨KeepBut.blk T.keep (b2 h) (fun e=>by have:=S.out.lt;have:=z.h;omega) (by simp)⟩
end
theorem roD {α:Type} {d:Kd α} {e:Nat} {ok:Nat → Prop} {v:Value} {xs:List α} {w0 w W V:World} {g:Nat} {c:List Int} (S:St w0 w W g c) (R:d.R e W w.heap.size ok v xs) (T:St w0 W V g c):d.R e V w.heap.size ok v xs :=
 Kd.R_mono (Kd.R_keep (Kd.R_bound R) T.keep (fun k h=>by have:=h.2.1;have:=S.lt;omega)) (fun _ h=>h.1)
structure Bs (w0 w W : World) (g : Nat) (c : List Int) (L : List (Nat × Obj)) : Prop where
 s:St w0 w W g c
 b:∀ p ∈ L,w.heap.size ≤ p.1 ∧ W.heap[p.1]? = some p.2
section
variable {w0 w W V:World} {g b:Nat} {c:List Int} {L:List (Nat × Obj)} {o:Obj}
theorem Bs.call (B:Bs w0 w W g c L) (T:St w0 W V g c):Bs w0 w V g c L :=
 ⟨B.s.call T,fun p hp=>⟨(B.b p hp).1,KeepBut.blk T.keep (B.b p hp).2 (by have:=(B.b p hp).1;have:=B.s.lt;omega) (by simp)⟩⟩
theorem Bs.below (B:Bs w0 w W g c L) (h:Below W.heap.size W V):Bs w0 w V g c L:=⟨B.s.below h,fun p hp=>⟨(B.b p hp).1,blk_below (B.b p hp).2 h⟩⟩
theorem Bs.new (B:Bs w0 w W g c L) (e:b = W.heap.size) (x:V.heap[b]? = some o) (h:Below W.heap.size W V):Bs w0 w V g c ((b,o) :: L) ∧ ∀ p ∈ L,p.1 ≠ b:=by
 have B1:=B.below h
 refine ⟨⟨B1.s,?_⟩,fun p hp=>by have:=blk_lt (B.b p hp).2;omega⟩
 rintro p (_|⟨_,hp⟩)
 ·exact ⟨e ▸ B.s.keep.1,x⟩
 ·exact B1.b p hp
end
section
variable {P:Program} {md:Region.Mode} {ops:Array Oper} {Q:Exit → Act → World → Prop} {S:World → Prop} {ds:List Nat} {fuel:Nat} {l':Array Bool} {K:Act → World → Prop} {R:Ending → World → Prop}
theorem stepD (hK:Shut (∀ a' w',S w' → (S w' → wpAnyLast P md ops Q S ds fuel l' a' w') → K a' w')) {oi:Oper} {N:Option Tmp} {a:Act} {w:World} {f:FuncId} {fn:Func} {az:Array Operand} {ts:Array TypeId} (hf:P.funcs[f]? = some fn) (hname:(fn.name == "runtime.NumGoroutine") = false) (hb:fn.body.isSome = true) (args:Array Value)
  (hw:Region.wanted oi (yielded ops a.tmps) = true) (hN:oi.dst = N) (hop:oi.op = .call { callee:=.value (.func f),args:=az,argTypes:=ts }) (hargs:az.map a.eval = args)
  (hc:Calls P f args w R) (h:∀ e w',R e w' → ∃ v,e = .returned v ∧ S w' ∧ (S w' → wpAnyLast P md ops Q S ds fuel l' (a.put N v) w')):if Region.wanted oi (yielded ops a.tmps) = true then Oper.wp P oi a w K Q else K (a.put N undef) w :=
 goes_ hf hname hb args hw hN hop hargs (hc.mono fun e w' r=>by
  obtain ⟨v,e1,s,k⟩:=h e w' r
  exact ⟨v,e1,hK _ _ s k⟩)
end
section
variable {w0 w:World} {g:Nat} {c:List Int}
def dT3:Bool × List (List Nat × List Nat):=(true,[([],[]),([],[]),([1],[1]),([0,2],[0,2]),([3],[3]),([2],[]),([4,5,0,1,2,3,4,5],[4])])
theorem dtab3:rtab .any (opsOf Try.f36 3) = dT3:=by kernel_rfl
theorem dbits3:waitsOk dT3.2 [0,0,2,7,15,6,63] = true:=by kernel_rfl
def dT17:Bool × List (List Nat × List Nat):=(true,[([],[]),([0],[0]),([],[]),([1,2,1],[1,2]),([3],[3]),([4],[4]),([4],[4]),([],[]),([7,5,3,0,1,2,3,4,5,7],[5,7]),([6,8,0,1,2,3,4,5,6,7,8],[6])])
theorem dtab17:rtab .any (opsOf Try.f36 17) = dT17:=by kernel_rfl
theorem dbits17:waitsOk dT17.2 [0,1,0,7,15,31,31,0,191,511] = true:=by kernel_rfl
set_option maxHeartbeats 16000000 in
set_option maxRecDepth 100000 in
theorem drawW (Hc:bytesL c) (S0:St w0 w w g c):Calls Try.prog 36 #[.pointer (some ⟨g,0,none⟩)] w fun e w'=>∃ p q,e = .returned (.agg #[.string p,.string q]) ∧ p.size + q.size ≤ 35 ∧ St w0 w w' g c:=by
 have hu25:=Try.underlying25
 have hu63:=Try.underlying63
 have S:=aM S0
 clear S0
 have z0:(⟨#[]⟩:ByteArray).size = 0:=rfl
 have z1:(⟨#[50]⟩:ByteArray).size = 1:=rfl
 go_enter Try.func36,Try.ntmps36
 go_upto_block 0 with (first
  | ((with_reducible refine gate_dst (N:=2) rfl ?_);refine box_event rfl (N:=2) rfl (cs:=#[.string ⟨#[]⟩,.string ⟨#[]⟩]) (t:=25) (by first|(go_simp;done)|(go_simp;rfl)) ?_;intro k2 hg w1 hbox hb;have G2:=geN S hg;replace S:=sb S hb;have BK2:=aM hbox;clear hb hbox hg)
  | ((with_reducible refine gate_dst (N:=3) rfl ?_);refine box_event rfl (N:=3) rfl (cs:=#[.string ⟨#[]⟩,.string ⟨#[]⟩]) (t:=25) (by first|(go_simp;done)|(go_simp;rfl)) ?_;intro k3 hg w1 hbox hb;have G3:=geN S hg;have N23:=neN BK2 hg;have N32:=neN' BK2 hg;replace S:=sb S hb;replace BK2:=bnB BK2 hb;have BK3:=aM hbox;have ⟨c0,c1,d0,d1⟩:=q2f BK3;have n1:=N23.h;have n2:=N32.h;clear hb hbox hg)
  | ((with_reducible refine gate_callee (f:=35) rfl ?_);refine goesL_ (some 16) rfl rfl Try.func35 (by kernel_rfl) rfl #[.pointer (some ⟨g,0,none⟩),.int .i64 4] rfl (by (try simp only [sM,sC,sN]);first|done|rfl) ?_;refine Calls.mono (nextE w0 Hc 4 (by decide) ?sS) ?_;(try (case sS=>exact (st S).re));rintro e w4 ⟨v,rfl,v0,v1,T⟩;refine ⟨_,rfl,?_⟩;replace BK3:=bnS2 S BK3 T;replace BK2:=bnS S BK2 T;replace S:=sc S T;clear T))
 (try simp only [Act.put,sI,sZ,sS])
 go_cut [] (fun wc=>∃ p q:ByteArray,p.size + q.size ≤ 15 ∧ Aside0 (wc.heap[k3]? = some (.cells #[.string p,.string q] 25 (0,0))) ∧ Aside0 (wc.heap[k2]? = some (.cells #[.string ⟨#[]⟩,.string ⟨#[]⟩] 25 (0,0))) ∧ Aside0 (St w0 w wc g c))
 case first =>
  go_wp2_with (first
   | ((with_reducible refine gate_callee (f:=58) rfl ?_);refine goesL_ (some 54) rfl rfl Try.func58 (by kernel_rfl) rfl #[.pointer (some ⟨g,0,none⟩)] rfl (by (try simp only [sM,sC,sN]);first|done|rfl) ?_;refine Calls.mono (drawS1 (w0:=w0) Hc ?sS) ?_;(try (case sS=>exact (st S).re));rintro e w4 ⟨p,q,rfl,hz,T⟩;refine ⟨_,rfl,?_⟩;replace BK2:=bnS S BK2 T;replace BK3:=bnS S BK3 T;replace S:=sc S T;clear T;have ⟨c0,c1,d0,d1⟩:=q2f BK3)
   | ((with_reducible refine gate_callee (f:=58) rfl ?_);refine goesL_ (some 83) rfl rfl Try.func58 (by kernel_rfl) rfl #[.pointer (some ⟨g,0,none⟩)] rfl (by (try simp only [sM,sC,sN]);first|done|rfl) ?_;refine Calls.mono (drawS1 (w0:=w0) Hc ?sS) ?_;(try (case sS=>exact (st S).re));rintro e w4 ⟨p,q,rfl,hz,T⟩;refine ⟨_,rfl,?_⟩;replace BK2:=bnS S BK2 T;replace BK3:=bnS S BK3 T;replace S:=sc S T;clear T;have ⟨c0,c1,d0,d1⟩:=q2f BK3)
   | ((with_reducible refine gate_callee (f:=59) rfl ?_);refine goesL_ (some 58) rfl rfl Try.func59 (by kernel_rfl) rfl #[.pointer (some ⟨g,0,none⟩)] rfl (by (try simp only [sM,sC,sN]);first|done|rfl) ?_;refine Calls.mono (drawA (w0:=w0) Hc ?sS) ?_;(try (case sS=>exact (st S).re));rintro e w4 ⟨n,d,rfl,hA,hG,T⟩;refine ⟨_,rfl,?_⟩;replace BK2:=bnS S BK2 T;replace BK3:=bnS S BK3 T;replace S:=sc S T;clear T)
   | ((with_reducible refine gate_callee (f:=59) rfl ?_);refine goesL_ (some 73) rfl rfl Try.func59 (by kernel_rfl) rfl #[.pointer (some ⟨g,0,none⟩)] rfl (by (try simp only [sM,sC,sN]);first|done|rfl) ?_;refine Calls.mono (drawA (w0:=w0) Hc ?sS) ?_;(try (case sS=>exact (st S).re));rintro e w4 ⟨n,d,rfl,hA,hG,T⟩;refine ⟨_,rfl,?_⟩;replace BK2:=bnS S BK2 T;replace BK3:=bnS S BK3 T;replace S:=sc S T;clear T)
   | ((with_reducible refine gate_dst (N:=4) rfl ?_);refine box_event rfl (N:=4) rfl (cs:=#[.int .i64 0,.int .i64 0]) (t:=63) (by first|(go_simp;done)|(go_simp;rfl)) ?_;intro k4 hg w1 hbox hb;have G4:=geN S hg;have N24:=neN BK2 hg;have N34:=neN BK3 hg;replace S:=sb S hb;replace BK2:=bnB BK2 hb;replace BK3:=bnB BK3 hb;have BK4:=aM hbox;have ⟨a0,a1,e0,e1⟩:=q2f BK4;clear hb hbox hg)
   | ((with_reducible refine gate_dst (N:=7) rfl ?_);refine box_event rfl (N:=7) rfl (cs:=#[.int .i64 0,.int .i64 0]) (t:=63) (by first|(go_simp;done)|(go_simp;rfl)) ?_;intro k7 hg w1 hbox hb;have G7:=geN S hg;have N27:=neN BK2 hg;have N37:=neN BK3 hg;replace S:=sb S hb;replace BK2:=bnB BK2 hb;replace BK3:=bnB BK3 hb;have BK7:=aM hbox;have ⟨a0,a1,e0,e1⟩:=q2f BK7;clear hb hbox hg)
   | ((with_reducible refine gate_callee (f:=39) rfl ?_);refine goesL_ (some 77) rfl rfl Try.func39 (by kernel_rfl) rfl #[.agg #[.int .i64 n,.int .i64 d],.agg #[.int .i64 n,.int .i64 d]] rfl (by (try simp only [sM,sC,sN]);first|done|rfl) ?_;refine Calls.mono (itinE hA hG hA _) ?_;(try (case sS=>exact (st S).re));rintro e w4 ⟨p,q,ok,rfl,hz,hb⟩;refine ⟨_,rfl,?_⟩;replace BK2:=bnB BK2 hb;replace BK3:=bnB BK3 hb;replace S:=sb S hb;clear hb)
   | ((with_reducible refine gate_dst (N:=8) rfl ?_);refine box_event rfl (N:=8) rfl (cs:=#[.string ⟨#[]⟩,.string ⟨#[]⟩]) (t:=25) (by first|(go_simp;done)|(go_simp;rfl)) ?_;intro k8 hg w1 hbox hb;have G8:=geN S hg;have N28:=neN BK2 hg;have N38:=neN BK3 hg;have n3:=N38.h;have n4:=N38.h.symm;replace S:=sb S hb;replace BK2:=bnB BK2 hb;replace BK3:=bnB BK3 hb;have BK8:=aM hbox;have ⟨a0,a1,e0,e1⟩:=q2f BK8;have ⟨c0,c1,d0,d1⟩:=q2f BK3;clear hb hbox hg))
  ·go_meet
   case rel=>exact ⟨p,q,hz,⟨b2 BK3⟩,⟨bn BK2⟩,⟨st S⟩⟩
  ·have BX:Bs w0 w ((w1.setCell ⟨k4,0,none⟩ (.int .i64 n)).setCell ⟨k4,1,none⟩ (.int .i64 d)).drew g c [(k2,.cells #[.string ⟨#[]⟩,.string ⟨#[]⟩] 25 (0,0)),(k3,.cells #[.string ⟨#[]⟩,.string ⟨#[]⟩] 25 (0,0)),(k4,.cells #[.int .i64 n,.int .i64 d] 63 (0,0))]:=⟨st S,List.forall_mem_cons.2 ⟨⟨G2.h,bn BK2⟩,List.forall_mem_cons.2 ⟨⟨G3.h,bn BK3⟩,List.forall_mem_cons.2 ⟨⟨G4.h,yD (b2 BK4)⟩,by simp⟩⟩⟩⟩
   have hS:∀ W L',(k4,.cells #[.int .i64 n,.int .i64 d] 63 (0,0)) ∈ L' → Bs w0 w W g c L' → W.cell? ⟨k4,0,none⟩ = some (.int .i64 n) ∧ W.cell? ⟨k4,1,none⟩ = some (.int .i64 d):=fun W L' m B=>⟨(blk_cell (B.b _ m).2 0).trans rfl,(blk_cell (B.b _ m).2 1).trans rfl⟩
   refine start_ (n:=10) (S:=fun w'=>w'.cell? ⟨k4,0,none⟩ = some (.int .i64 n) ∧ w'.cell? ⟨k4,1,none⟩ = some (.int .i64 d)) (ds:=[]) #[fF,fF,fF,fF,fF,fF,fF,fF,fF,fF] (by kernel_rfl) rfl rfl (hS _ _ (by simp) BX) (fun hHeld=>?_);refine with_tabW dtab17 dbits17 (fun HT_ HW_=>?_)
   generalize ((w1.setCell ⟨k4,0,none⟩ (.int .i64 n)).setCell ⟨k4,1,none⟩ (.int .i64 d)).drew = w5 at BX hHeld ⊢
   refine pz 60 0 #[tT,fF,fF,fF,fF,fF,fF,fF,fF,fF] HT_ rfl rfl (by kernel_rfl) (fun _ _ _ h=>h) (by rfl) (by intro w';go_simp;with_reducible rfl) (by simp only [Act.put,sI,sZ,sS,i64_w,i32_w];rfl) ?_
   refine tz 62 2 #[tT,fF,tT,fF,fF,fF,fF,fF,fF,fF] HT_ HW_ hHeld rfl rfl (by kernel_rfl) (fun _ _ _ h=>h) (by rfl) (by rintro w' ⟨s0,s1⟩;go_simp;with_reducible rfl) (by simp only [Act.put,sI,sZ,sS,i64_w,i32_w];rfl) ?_
   refine join_ (σ:=Nat × ByteArray × ByteArray × Bool × Int × Int) 2 #[true,true,true,true,true,true,true,true,false,false] (fun s=>[(61,.agg #[.int .i64 s.2.2.2.2.1,.int .i64 s.2.2.2.2.2]),(63,.tuple #[.agg #[.string s.2.1,.string s.2.2.1],.bool s.2.2.2.1]),(5,.pointer (some ⟨s.1,0,none⟩)),(59,.tuple #[.agg #[.string s.2.1,.string s.2.2.1],.bool s.2.2.2.1]),(64,.agg #[.string s.2.1,.string s.2.2.1]),(65,.bool s.2.2.2.1)]) (fun s w'=>(s.2.2.2.1 = true → s.2.1.size + s.2.2.1.size ≤ 15) ∧ Bs w0 w w' g c ((s.1,.cells #[.string ⟨#[]⟩,.string ⟨#[]⟩] 25 (0,0)) :: ([(k2,.cells #[.string ⟨#[]⟩,.string ⟨#[]⟩] 25 (0,0)),(k3,.cells #[.string ⟨#[]⟩,.string ⟨#[]⟩] 25 (0,0)),(k4,.cells #[.int .i64 n,.int .i64 d] 63 (0,0))]:List (Nat × Obj))) ∧ ∀ p ∈ ([(k2,.cells #[.string ⟨#[]⟩,.string ⟨#[]⟩] 25 (0,0)),(k3,.cells #[.string ⟨#[]⟩,.string ⟨#[]⟩] 25 (0,0)),(k4,.cells #[.int .i64 n,.int .i64 d] 63 (0,0))]:List (Nat × Obj)),p.1 ≠ s.1) ?_ ?_
   rotate_left
   ·intro hCont
    refine two_ (i:=1) (j:=7) (Ni:=some 61) (Nj:=some 5) #[true,true,true,false,false,false,false,false,false,false] #[true,false,true,false,false,false,false,true,false,false] rfl rfl rfl rfl (two_of HT_.out (by kernel_rfl)) (by decide) (by decide) (fun K hK=>?_) (fun K hK=>?_)
    ·refine stepD hK Try.func59 (by kernel_rfl) rfl #[.pointer (some ⟨g,0,none⟩)] (by rfl) rfl rfl (by (try simp only [sM,sC,sN]);first|done|rfl) (drawA Hc BX.s.re) ?_
     rintro e w6 ⟨n2,d2,rfl,hA2,hG2,T⟩
     replace BX:=BX.call T
     refine ⟨_,rfl,hS _ _ (by simp) BX,fun hHeld=>norm_ (a':=_) (by show Act.put _ _ _=_;simp only [Act.put,sI,sZ,sS,i64_w,i32_w];rfl) ?_⟩
     clear hK K
     refine two_ (i:=3) (j:=7) (Ni:=some 63) (Nj:=some 5) #[true,true,true,true,false,false,false,false,false,false] #[true,true,true,false,false,false,false,true,false,false] rfl rfl rfl rfl (two_of HT_.out (by kernel_rfl)) (by decide) (by decide) (fun K hK=>?_) (fun K hK=>?_)
     ·refine stepD hK Try.func39 (by kernel_rfl) rfl #[.agg #[.int .i64 n2,.int .i64 d2],.agg #[.int .i64 n,.int .i64 d]] (by rfl) rfl rfl (by (try simp only [sM,sC,sN]);first|done|rfl) (itinE hA2 hG2 hA _) ?_
      rintro e w7 ⟨p,q,ok,rfl,hz,hb⟩
      replace BX:=BX.below hb
      refine ⟨_,rfl,hS _ _ (by simp) BX,fun hHeld=>norm_ (a':=_) (by show Act.put _ _ _=_;simp only [Act.put,sI,sZ,sS,i64_w,i32_w];rfl) ?_⟩
      clear hK K
      refine pz 59 4 #[tT,tT,tT,tT,tT,fF,fF,fF,fF,fF] HT_ rfl rfl (by kernel_rfl) (fun _ _ _ h=>h) (by rfl) (by intro w';go_simp;with_reducible rfl) (by simp only [Act.put,sI,sZ,sS,i64_w,i32_w];rfl) ?_
      refine pz 64 5 #[tT,tT,tT,tT,tT,tT,fF,fF,fF,fF] HT_ rfl rfl (by kernel_rfl) (fun _ _ _ h=>h) (by rfl) (by intro w';go_simp;with_reducible rfl) (by simp only [Act.put,sI,sZ,sS,i64_w,i32_w];rfl) ?_
      refine pz 65 6 #[tT,tT,tT,tT,tT,tT,tT,fF,fF,fF] HT_ rfl rfl (by kernel_rfl) (fun _ _ _ h=>h) (by rfl) (by intro w';go_simp;with_reducible rfl) (by simp only [Act.put,sI,sZ,sS,i64_w,i32_w];rfl) ?_
      refine one_ (i:=7) (N:=some 5) #[tT,tT,tT,tT,tT,tT,tT,tT,fF,fF] rfl rfl (one_of HT_.out (by kernel_rfl)) (by decide) (fun K hK=>?_)
      refine box_step ?hg (N:=5) ?hd (cs:=#[.string ⟨#[]⟩,.string ⟨#[]⟩]) (t:=25) ?hr ?_;(case hd=>rfl);(case hg=>rfl);(case hr=>first|(go_simp;done)|(go_simp;rfl))
      intro k5 hg w8 hbox hb
      have NE:=(BX.new hg hbox hb).2
      replace BX:=(BX.new hg hbox hb).1
      refine hK.out _ _ (hS _ _ (by simp) BX) (fun hHeld=>norm_ (a':=?_) ?_ ?_)
      rotate_left
      ·show Act.put _ (some 5) _ = _
       simp only [Act.put,sI,sZ,sS,i64_w,i32_w]
       rfl
      clear hK K
      exact norm_ (by simp only [putAll,Act.put,sI,sZ,sS]) (hCont (k5,p,q,ok,n2,d2) _ ⟨hz,BX,NE⟩)
     ·refine box_step ?hg (N:=5) ?hd (cs:=#[.string ⟨#[]⟩,.string ⟨#[]⟩]) (t:=25) ?hr ?_;(case hd=>rfl);(case hg=>rfl);(case hr=>first|(go_simp;done)|(go_simp;rfl))
      intro k5 hg w8 hbox hb
      have NE:=(BX.new hg hbox hb).2
      replace BX:=(BX.new hg hbox hb).1
      refine hK.out _ _ (hS _ _ (by simp) BX) (fun hHeld=>norm_ (a':=?_) ?_ ?_)
      rotate_left
      ·show Act.put _ (some 5) _ = _
       simp only [Act.put,sI,sZ,sS,i64_w,i32_w]
       rfl
      clear hK K
      refine one_ (i:=3) (N:=some 63) #[tT,tT,tT,tT,fF,fF,fF,tT,fF,fF] rfl rfl (one_of HT_.out (by kernel_rfl)) (by decide) (fun K hK=>?_)
      refine stepD hK Try.func39 (by kernel_rfl) rfl #[.agg #[.int .i64 n2,.int .i64 d2],.agg #[.int .i64 n,.int .i64 d]] (by rfl) rfl rfl (by (try simp only [sM,sC,sN]);first|done|rfl) (itinE hA2 hG2 hA _) ?_
      rintro e w7 ⟨p,q,ok,rfl,hz,hb⟩
      replace BX:=BX.below hb
      refine ⟨_,rfl,hS _ _ (by simp) BX,fun hHeld=>norm_ (a':=_) (by show Act.put _ _ _=_;simp only [Act.put,sI,sZ,sS,i64_w,i32_w];rfl) ?_⟩
      clear hK K
      refine pz 59 4 #[tT,tT,tT,tT,tT,fF,fF,tT,fF,fF] HT_ rfl rfl (by kernel_rfl) (fun _ _ _ h=>h) (by rfl) (by intro w';go_simp;with_reducible rfl) (by simp only [Act.put,sI,sZ,sS,i64_w,i32_w];rfl) ?_
      refine pz 64 5 #[tT,tT,tT,tT,tT,tT,fF,tT,fF,fF] HT_ rfl rfl (by kernel_rfl) (fun _ _ _ h=>h) (by rfl) (by intro w';go_simp;with_reducible rfl) (by simp only [Act.put,sI,sZ,sS,i64_w,i32_w];rfl) ?_
      refine pz 65 6 #[tT,tT,tT,tT,tT,tT,tT,tT,fF,fF] HT_ rfl rfl (by kernel_rfl) (fun _ _ _ h=>h) (by rfl) (by intro w';go_simp;with_reducible rfl) (by simp only [Act.put,sI,sZ,sS,i64_w,i32_w];rfl) ?_
      exact norm_ (by simp only [putAll,Act.put,sI,sZ,sS]) (hCont (k5,p,q,ok,n2,d2) _ ⟨hz,BX,NE⟩)
    ·refine box_step ?hg (N:=5) ?hd (cs:=#[.string ⟨#[]⟩,.string ⟨#[]⟩]) (t:=25) ?hr ?_;(case hd=>rfl);(case hg=>rfl);(case hr=>first|(go_simp;done)|(go_simp;rfl))
     intro k5 hg w8 hbox hb
     have NE:=(BX.new hg hbox hb).2
     replace BX:=(BX.new hg hbox hb).1
     refine hK.out _ _ (hS _ _ (by simp) BX) (fun hHeld=>norm_ (a':=?_) ?_ ?_)
     rotate_left
     ·show Act.put _ (some 5) _ = _
      simp only [Act.put,sI,sZ,sS,i64_w,i32_w]
      rfl
     clear hK K
     refine one_ (i:=1) (N:=some 61) #[tT,tT,tT,fF,fF,fF,fF,tT,fF,fF] rfl rfl (one_of HT_.out (by kernel_rfl)) (by decide) (fun K hK=>?_)
     refine stepD hK Try.func59 (by kernel_rfl) rfl #[.pointer (some ⟨g,0,none⟩)] (by rfl) rfl rfl (by (try simp only [sM,sC,sN]);first|done|rfl) (drawA Hc BX.s.re) ?_
     rintro e w6 ⟨n2,d2,rfl,hA2,hG2,T⟩
     replace BX:=BX.call T
     refine ⟨_,rfl,hS _ _ (by simp) BX,fun hHeld=>norm_ (a':=_) (by show Act.put _ _ _=_;simp only [Act.put,sI,sZ,sS,i64_w,i32_w];rfl) ?_⟩
     clear hK K
     refine one_ (i:=3) (N:=some 63) #[tT,tT,tT,tT,fF,fF,fF,tT,fF,fF] rfl rfl (one_of HT_.out (by kernel_rfl)) (by decide) (fun K hK=>?_)
     refine stepD hK Try.func39 (by kernel_rfl) rfl #[.agg #[.int .i64 n2,.int .i64 d2],.agg #[.int .i64 n,.int .i64 d]] (by rfl) rfl rfl (by (try simp only [sM,sC,sN]);first|done|rfl) (itinE hA2 hG2 hA _) ?_
     rintro e w7 ⟨p,q,ok,rfl,hz,hb⟩
     replace BX:=BX.below hb
     refine ⟨_,rfl,hS _ _ (by simp) BX,fun hHeld=>norm_ (a':=_) (by show Act.put _ _ _=_;simp only [Act.put,sI,sZ,sS,i64_w,i32_w];rfl) ?_⟩
     clear hK K
     refine pz 59 4 #[tT,tT,tT,tT,tT,fF,fF,tT,fF,fF] HT_ rfl rfl (by kernel_rfl) (fun _ _ _ h=>h) (by rfl) (by intro w';go_simp;with_reducible rfl) (by simp only [Act.put,sI,sZ,sS,i64_w,i32_w];rfl) ?_
     refine pz 64 5 #[tT,tT,tT,tT,tT,tT,fF,tT,fF,fF] HT_ rfl rfl (by kernel_rfl) (fun _ _ _ h=>h) (by rfl) (by intro w';go_simp;with_reducible rfl) (by simp only [Act.put,sI,sZ,sS,i64_w,i32_w];rfl) ?_
     refine pz 65 6 #[tT,tT,tT,tT,tT,tT,tT,tT,fF,fF] HT_ rfl rfl (by kernel_rfl) (fun _ _ _ h=>h) (by rfl) (by intro w';go_simp;with_reducible rfl) (by simp only [Act.put,sI,sZ,sS,i64_w,i32_w];rfl) ?_
     exact norm_ (by simp only [putAll,Act.put,sI,sZ,sS]) (hCont (k5,p,q,ok,n2,d2) _ ⟨hz,BX,NE⟩)
   rintro ⟨k5,p,q,ok,n2,d2⟩ w9 ⟨hz,BX,NE⟩
   refine norm_ (a':=?_) ?_ ?_
   rotate_left
   ·simp only [putAll,Act.put,sI,sZ,sS]
    rfl
   clear S BK2 BK3 BK4
   have S:=aM BX.s
   have BK2:=aM (BX.b (k2,_) (.tail _ (.head _))).2
   have BK3:=aM (BX.b (k3,_) (.tail _ (.tail _ (.head _)))).2
   have BK5:=aM (BX.b (k5,_) (.head _)).2
   have G5:Ge w.heap.size k5:=⟨(BX.b (k5,_) (.head _)).1⟩
   have N25:Ne2 k2 k5:=⟨NE (k2,_) (.head _)⟩
   have N35:Ne2 k3 k5:=⟨NE (k3,_) (.tail _ (.head _))⟩
   have n5:k4 ≠ k5:=NE (k4,_) (.tail _ (.tail _ (.head _)))
   have n3:=N35.h
   have n4:=N35.h.symm
   have ⟨a0,a1,e0,e1⟩:=q2f BK5
   have ⟨c0,c1,d0,d1⟩:=q2f BK3
   refine one_ (i:=8) (N:=none) #[tT,tT,tT,tT,tT,tT,tT,tT,tT,fF] rfl rfl (one_of HT_.out (by kernel_rfl)) (by decide) (fun K hK=>?_)
   refine skip_ (w1:=?_) (by rfl) rfl ?_ ?_
   rotate_left
   ·go_simp
    rfl
   refine hK.out _ _ ⟨((cell_far (p:=⟨k5,_,none⟩) n5 _).trans (cell_far (p:=⟨k5,_,none⟩) n5 _)).trans (hS _ _ (by simp) BX).1,((cell_far (p:=⟨k5,_,none⟩) n5 _).trans (cell_far (p:=⟨k5,_,none⟩) n5 _)).trans (hS _ _ (by simp) BX).2⟩ (fun hHeld=>?_)
   clear hK K
   refine pz 6 9 #[tT,tT,tT,tT,tT,tT,tT,tT,tT,tT] HT_ rfl rfl (by kernel_rfl) (fun _ _ _ h=>h) (by rfl) (by intro w';go_simp;with_reducible rfl) (by simp only [Act.put,sI,sZ,sS,i64_w,i32_w];rfl) ?_
   refine done_ (done_of HT_.out (by kernel_rfl)) ?_
   go_wp2_with ((with_reducible refine gate_callee (f:=58) rfl ?_);refine goesL_ (some 69) rfl rfl Try.func58 (by kernel_rfl) rfl #[.pointer (some ⟨g,0,none⟩)] rfl (by (try simp only [sM,sC,sN]);first|done|rfl) ?_;refine Calls.mono (drawS1 (w0:=w0) Hc ?sS) ?_;(try (case sS=>exact (st S).re));rintro e w4 ⟨p,q,rfl,hz,T⟩;refine ⟨_,rfl,?_⟩;replace BK2:=bnS S BK2 T;replace BK3:=bnS S BK3 T;replace S:=sc S T;clear T;have ⟨c0,c1,d0,d1⟩:=q2f BK3)
   all_goals go_meet
   case rel=>exact ⟨p,q,hz (by assumption),⟨b2 BK3⟩,⟨bn BK2⟩,⟨st S⟩⟩
   case rel=>exact ⟨p,q,by assumption,⟨b2 BK3⟩,⟨bn BK2⟩,⟨st S⟩⟩
  ·go_meet
   case rel=>exact ⟨p,q,hz (by assumption),⟨b2 BK3⟩,⟨bn BK2⟩,⟨st S⟩⟩
  ·go_meet
   case rel=>exact ⟨p,q,by assumption,⟨b2 BK3⟩,⟨bn BK2⟩,⟨st S⟩⟩
  ·clear v0 v1
   have BX:Bs w0 w w4.drew g c [(k2,.cells #[.string ⟨#[]⟩,.string ⟨#[]⟩] 25 (0,0)),(k3,.cells #[.string ⟨#[]⟩,.string ⟨#[]⟩] 25 (0,0))]:=⟨st S,List.forall_mem_cons.2 ⟨⟨G2.h,yD (bn BK2)⟩,List.forall_mem_cons.2 ⟨⟨G3.h,yD (bn BK3)⟩,by simp⟩⟩⟩
   refine start_ (n:=7) (S:=fun _=>True) (ds:=[]) #[fF,fF,fF,fF,fF,fF,fF] (by kernel_rfl) rfl rfl trivial (fun hHeld=>?_);refine with_tabW dtab3 dbits3 (fun HT_ HW_=>?_)
   generalize w4.drew = w5 at BX hHeld ⊢
   refine pz 18 1 #[fF,tT,fF,fF,fF,fF,fF] HT_ rfl rfl (by kernel_rfl) (fun _ _ _ h=>h) (by rfl) (by intro w';go_simp;with_reducible rfl) (by simp only [Act.put,sI,sZ,sS,i64_w,i32_w];rfl) ?_
   refine join_ (σ:=Option Addr × Nat × Int) 3 #[true,true,true,false,false,true,false] (fun s=>[(17,.slice s.1 3 s.2.1),(19,.int .i64 s.2.2),(10,.string ⟨#[]⟩)]) (fun s w'=>(0 ≤ s.2.2 ∧ s.2.2 < 3) ∧ Bs w0 w w' g c [(k2,.cells #[.string ⟨#[]⟩,.string ⟨#[]⟩] 25 (0,0)),(k3,.cells #[.string ⟨#[]⟩,.string ⟨#[]⟩] 25 (0,0))] ∧ Kd.R Kd.string 9 w' w.heap.size (fun _=>True) (.slice s.1 3 s.2.1) [(⟨#[48]⟩:ByteArray),⟨#[49]⟩,⟨#[42]⟩]) ?_ ?_
   rotate_left
   ·intro hCont
    refine two_ (i:=0) (j:=2) (Ni:=some 17) (Nj:=some 19) #[true,true,false,false,false,false,false] #[false,true,true,false,false,false,false] rfl rfl rfl rfl (two_of HT_.out (by kernel_rfl)) (by decide) (by decide) (fun K hK=>?_) (fun K hK=>?_)
    ·refine litS_step ?hg (N:=17) ?hd BX.s.keep.1 [(⟨#[48]⟩:ByteArray),⟨#[49]⟩,⟨#[42]⟩] ?hr (by decide) ?_;(case hd=>rfl);(case hg=>rfl);(case hr=>first|(go_simp;done)|(go_simp;rfl))
     intro A m w6 R hb
     replace BX:=BX.below hb
     refine hK.out _ _ trivial (fun hHeld=>norm_ (a':=?_) ?_ ?_)
     rotate_left
     ·show Act.put _ (some 17) _ = _
      simp only [Act.put,sI,sZ,sS,i64_w,i32_w]
      rfl
     clear hK K
     refine one_ (i:=2) (N:=some 19) #[tT,tT,tT,fF,fF,fF,fF] rfl rfl (one_of HT_.out (by kernel_rfl)) (by decide) (fun K hK=>?_)
     refine stepD hK Try.func35 (by kernel_rfl) rfl #[.pointer (some ⟨g,0,none⟩),.int .i64 3] (by rfl) rfl rfl (by (try simp only [sM,sC,sN]);first|done|rfl) (nextE w0 Hc 3 (by decide) BX.s.re) ?_
     rintro e w7 ⟨x,rfl,x0,x1,T⟩
     replace R:=roD BX.s R T
     replace BX:=BX.call T
     refine ⟨_,rfl,trivial,fun hHeld=>norm_ (a':=_) (by show Act.put _ _ _=_;simp only [Act.put,sI,sZ,sS,i64_w,i32_w];rfl) ?_⟩
     clear hK K
     refine pz 10 5 #[tT,tT,tT,fF,fF,tT,fF] HT_ rfl rfl (by kernel_rfl) (fun _ _ _ h=>h) (by rfl) (by intro w';go_simp;with_reducible rfl) (by simp only [Act.put,sI,sZ,sS,i64_w,i32_w];rfl) ?_
     exact norm_ (by simp only [putAll,Act.put,sI,sZ,sS];rfl) (hCont (A,m,x) _ ⟨⟨x0,x1 (by decide)⟩,BX,R⟩)
    ·refine stepD hK Try.func35 (by kernel_rfl) rfl #[.pointer (some ⟨g,0,none⟩),.int .i64 3] (by rfl) rfl rfl (by (try simp only [sM,sC,sN]);first|done|rfl) (nextE w0 Hc 3 (by decide) BX.s.re) ?_
     rintro e w7 ⟨x,rfl,x0,x1,T⟩
     replace BX:=BX.call T
     refine ⟨_,rfl,trivial,fun hHeld=>norm_ (a':=_) (by show Act.put _ _ _=_;simp only [Act.put,sI,sZ,sS,i64_w,i32_w];rfl) ?_⟩
     clear hK K
     refine pz 10 5 #[fF,tT,tT,fF,fF,tT,fF] HT_ rfl rfl (by kernel_rfl) (fun _ _ _ h=>h) (by rfl) (by intro w';go_simp;with_reducible rfl) (by simp only [Act.put,sI,sZ,sS,i64_w,i32_w];rfl) ?_
     refine one_ (i:=0) (N:=some 17) #[tT,tT,tT,fF,fF,tT,fF] rfl rfl (one_of HT_.out (by kernel_rfl)) (by decide) (fun K hK=>?_)
     refine litS_step ?hg (N:=17) ?hd BX.s.keep.1 [(⟨#[48]⟩:ByteArray),⟨#[49]⟩,⟨#[42]⟩] ?hr (by decide) ?_;(case hd=>rfl);(case hg=>rfl);(case hr=>first|(go_simp;done)|(go_simp;rfl))
     intro A m w6 R hb
     replace BX:=BX.below hb
     refine hK.out _ _ trivial (fun hHeld=>norm_ (a':=?_) ?_ ?_)
     rotate_left
     ·show Act.put _ (some 17) _ = _
      simp only [Act.put,sI,sZ,sS,i64_w,i32_w]
      rfl
     clear hK K
     exact norm_ (by simp only [putAll,Act.put,sI,sZ,sS];rfl) (hCont (A,m,x) _ ⟨⟨x0,x1 (by decide)⟩,BX,R⟩)
   rintro ⟨A,m,x⟩ w8 ⟨⟨x0,x1⟩,BX,R⟩
   refine norm_ (a':=?_) ?_ ?_
   rotate_left
   ·simp only [putAll,Act.put,sI,sZ,sS]
    rfl
   obtain ⟨ad,s,rfl,hm,hx⟩:=pickS R x0 x1
   have hs:=(by decide:∀ z ∈ [(⟨#[48]⟩:ByteArray),⟨#[49]⟩,⟨#[42]⟩],z.size = 1) s hm
   have p1:(0 ≤ x) = True:=eq_true x0
   have p2:(x < 3) = True:=eq_true x1
   refine pz 20 3 #[tT,tT,tT,tT,fF,tT,fF] HT_ rfl rfl (by kernel_rfl) (fun _ _ _ h=>h) (by rfl) (by intro w';go_simp;with_reducible rfl) (by simp only [Act.put,sI,sZ,sS,i64_w,i32_w];rfl) ?_
   refine one_ (i:=4) (N:=some 21) #[tT,tT,tT,tT,tT,tT,fF] rfl rfl (one_of HT_.out (by kernel_rfl)) (by decide) (fun K hK=>?_)
   refine value_ (w1:=w8) (v:=.string s) (by rfl) rfl ?_ ?_
   ·go_simp
   refine hK.out _ _ trivial (fun hHeld=>norm_ (a':=?_) ?_ ?_)
   rotate_left
   ·show Act.put _ (some 21) _ = _
    simp only [Act.put,sI,sZ,sS,i64_w,i32_w]
    rfl
   clear hK K
   refine pz 11 6 #[tT,tT,tT,tT,tT,tT,tT] HT_ rfl rfl (by kernel_rfl) (fun _ _ _ h=>h) (by rfl) (by intro w';go_simp;with_reducible rfl) (by simp only [Act.put,sI,sZ,sS,i64_w,i32_w];rfl) ?_
   refine done_ (done_of HT_.out (by kernel_rfl)) ?_
   clear S BK2 BK3 R
   have S:=aM BX.s
   have BK2:=aM (BX.b (k2,_) (.head _)).2
   have BK3:=aM (BX.b (k3,_) (.tail _ (.head _))).2
   clear BX
   go_wp2_with ((with_reducible refine gate_callee (f:=35) rfl ?_);refine goesL_ (some 23) rfl rfl Try.func35 (by kernel_rfl) rfl #[.pointer (some ⟨g,0,none⟩),.int .i64 4] rfl (by (try simp only [sM,sC,sN]);first|done|rfl) ?_;refine Calls.mono (nextE w0 Hc 4 (by decide) ?sS) ?_;(try (case sS=>exact (st S).re));rintro e w4 ⟨y,rfl,v0,v1,T⟩;refine ⟨_,rfl,?_⟩;replace BK2:=bnS S BK2 T;replace BK3:=bnS S BK3 T;replace S:=sc S T;clear T)
   have hy:=v1 (by decide)
   go_loopg [10,12] y.toNat (fun kq v1 v2 wc=>∃ (a:ByteArray) (k:Int),v1 = .string a ∧ v2 = .int .i64 k ∧ (kq:Int) = k ∧ (0 ≤ a.size ∧ a.size + kq ≤ 3) ∧ Aside0 (wc.heap[k2]? = some (.cells #[.string ⟨#[]⟩,.string ⟨#[]⟩] 25 (0,0))) ∧ Aside0 (wc.heap[k3]? = some (.cells #[.string ⟨#[]⟩,.string ⟨#[]⟩] 25 (0,0))) ∧ Aside0 (St w0 w wc g c))
   case atStart=>exact ⟨_,_,rfl,rfl,by omega,⟨Nat.zero_le _,by show 0 + _ ≤ 3;omega⟩,⟨bn BK2⟩,⟨bn BK3⟩,⟨st S⟩⟩
   case round =>
    clear S BK2 BK3 v0 v1
    obtain ⟨a,k,rfl,rfl,hk,hz,BK2,BK3,S⟩:=hrel
    by_cases ck:0 < k
    ·have d1:decide (0 < k) = true:=decide_eq_true ck
     go_wp2_with (first
     | ((with_reducible refine gate_dst (N:=29) rfl ?_);refine litS (w:=w) ?hg (N:=29) ?hd (st S).keep.1 [(⟨#[48]⟩:ByteArray),⟨#[49]⟩,⟨#[48]⟩,⟨#[49]⟩,⟨#[42]⟩] ?hr (by decide) ?_;(case hd=>rfl);(case hg=>rfl);(case hr=>first|(go_simp;done)|(go_simp;rfl));intro A m w5 R hb;replace BK2:=bnB BK2 hb;replace BK3:=bnB BK3 hb;replace S:=sb S hb;clear hb)
     | ((with_reducible refine gate_callee (f:=35) rfl ?_);refine goesL_ (some 31) rfl rfl Try.func35 (by kernel_rfl) rfl #[.pointer (some ⟨g,0,none⟩),.int .i64 5] rfl (by (try simp only [sM,sC,sN]);first|done|rfl) ?_;refine Calls.mono (nextE w0 Hc 5 (by decide) ?sS) ?_;(try (case sS=>exact (st S).re));rintro e w4 ⟨x,rfl,v0,v1,T⟩;refine ⟨_,rfl,?_⟩;replace BK2:=bnS S BK2 T;replace BK3:=bnS S BK3 T;replace R:=roS S R T;replace S:=sc S T;clear T;obtain ⟨ad,s,rfl,hm,hx⟩:=pickS R.out v0 (v1 (by decide));have hs:=(by decide:∀ z ∈ [(⟨#[48]⟩:ByteArray),⟨#[49]⟩,⟨#[48]⟩,⟨#[49]⟩,⟨#[42]⟩],z.size = 1) s hm;have p1:(0 ≤ x) = True:=eq_true v0;have p2:(x < 5) = True:=eq_true (v1 (by decide));have p3:(9223372036854775807 < a.size + s.size) = False:=eq_false (by omega);clear R hm))
     go_roundg (gk - 1)
     case measure=>omega
     case rel=>exact ⟨a ++ s,k - 1,rfl,by first|rfl|(rw [wrS (by omega) (by omega)]),by omega,by rw [ByteArray.size_append];omega,⟨bn BK2⟩,⟨bn BK3⟩,⟨st S⟩⟩
    ·have d1:decide (0 < k) = false:=decide_eq_false ck
     have hza:=hz
     go_wp2_with ((with_reducible refine gate_callee (f:=35) rfl ?_);refine goesL_ (some 36) rfl rfl Try.func35 (by kernel_rfl) rfl #[.pointer (some ⟨g,0,none⟩),.int .i64 6] rfl (by (try simp only [sM,sC,sN]);first|done|rfl) ?_;refine Calls.mono (nextE w0 Hc 6 (by decide) ?sS) ?_;(try (case sS=>exact (st S).re));rintro e w4 ⟨y,rfl,v0,v1,T⟩;refine ⟨_,rfl,?_⟩;replace BK2:=bnS S BK2 T;replace BK3:=bnS S BK3 T;replace S:=sc S T;clear T)
     have hy:=v1 (by decide)
     clear hk hz d1 ck
     go_loopg [11,13] y.toNat (fun kq v1 v2 wc=>∃ (b:ByteArray) (k:Int),v1 = .string b ∧ v2 = .int .i64 k ∧ (kq:Int) = k ∧ (1 ≤ b.size ∧ b.size + kq ≤ 6) ∧ Aside0 (wc.heap[k2]? = some (.cells #[.string ⟨#[]⟩,.string ⟨#[]⟩] 25 (0,0))) ∧ Aside0 (wc.heap[k3]? = some (.cells #[.string ⟨#[]⟩,.string ⟨#[]⟩] 25 (0,0))) ∧ Aside0 (St w0 w wc g c))
     case atStart=>exact ⟨_,_,rfl,rfl,by omega,⟨by omega,by omega⟩,⟨bn BK2⟩,⟨bn BK3⟩,⟨st S⟩⟩
     case round =>
      clear S BK2 BK3 v0 v1
      obtain ⟨b,k,rfl,rfl,hk,hz,BK2,BK3,S⟩:=hrel
      by_cases ck:0 < k
      ·have d1:decide (0 < k) = true:=decide_eq_true ck
       go_wp2_with (first
       | ((with_reducible refine gate_dst (N:=42) rfl ?_);refine litS (w:=w) ?hg (N:=42) ?hd (st S).keep.1 [(⟨#[48]⟩:ByteArray),⟨#[49]⟩,⟨#[48]⟩,⟨#[49]⟩,⟨#[42]⟩] ?hr (by decide) ?_;(case hd=>rfl);(case hg=>rfl);(case hr=>first|(go_simp;done)|(go_simp;rfl));intro A m w5 R hb;replace BK2:=bnB BK2 hb;replace BK3:=bnB BK3 hb;replace S:=sb S hb;clear hb)
       | ((with_reducible refine gate_callee (f:=35) rfl ?_);refine goesL_ (some 44) rfl rfl Try.func35 (by kernel_rfl) rfl #[.pointer (some ⟨g,0,none⟩),.int .i64 5] rfl (by (try simp only [sM,sC,sN]);first|done|rfl) ?_;refine Calls.mono (nextE w0 Hc 5 (by decide) ?sS) ?_;(try (case sS=>exact (st S).re));rintro e w4 ⟨x,rfl,v0,v1,T⟩;refine ⟨_,rfl,?_⟩;replace BK2:=bnS S BK2 T;replace BK3:=bnS S BK3 T;replace R:=roS S R T;replace S:=sc S T;clear T;obtain ⟨ad,s,rfl,hm,hx⟩:=pickS R.out v0 (v1 (by decide));have hs:=(by decide:∀ z ∈ [(⟨#[48]⟩:ByteArray),⟨#[49]⟩,⟨#[48]⟩,⟨#[49]⟩,⟨#[42]⟩],z.size = 1) s hm;have p1:(0 ≤ x) = True:=eq_true v0;have p2:(x < 5) = True:=eq_true (v1 (by decide));have p3:(9223372036854775807 < b.size + s.size) = False:=eq_false (by omega);clear R hm))
       go_roundg (gk - 1)
       case measure=>omega
       case rel=>exact ⟨b ++ s,k - 1,rfl,by first|rfl|(rw [wrS (by omega) (by omega)]),by omega,by rw [ByteArray.size_append];omega,⟨bn BK2⟩,⟨bn BK3⟩,⟨st S⟩⟩
      ·have d1:decide (0 < k) = false:=decide_eq_false ck
       go_wp2_with ((with_reducible refine gate_callee (f:=40) rfl ?_);refine goesL_ (some 50) rfl rfl Try.func40 (by kernel_rfl) rfl #[.string a,.string b] rfl (by (try simp only [sM,sC,sN]);first|done|rfl) ?_;refine Calls.mono (canonE (p:=a) (q:=b) (by omega) (by omega) _) ?_;(try (case sS=>exact (st S).re));rintro e w4 ⟨p,q,rfl,hp,hb⟩;refine ⟨_,rfl,?_⟩;replace BK2:=bnB BK2 hb;replace BK3:=bnB BK3 hb;replace S:=sb S hb;clear hb;have ⟨c0,c1,d0,d1⟩:=q2f BK3)
       go_meet
       case rel=>exact ⟨p,q,by omega,⟨b2 BK3⟩,⟨bn BK2⟩,⟨st S⟩⟩
 case rest =>
  obtain ⟨p,q,hz,BK3,BK2,S⟩:=hcut
  go_wp2_with ((with_reducible refine gate_callee (f:=35) rfl ?_);refine goesL_ (some 85) rfl rfl Try.func35 (by kernel_rfl) rfl #[.pointer (some ⟨g,0,none⟩),.int .i64 40] rfl (by (try simp only [sM,sC,sN]);first|done|rfl) ?_;refine Calls.mono (nextE w0 Hc 40 (by decide) ?sS) ?_;(try (case sS=>exact (st S).re));rintro e w4 ⟨y,rfl,v0,v1,T⟩;refine ⟨_,rfl,?_⟩;replace BK2:=bnS S BK2 T;replace BK3:=bnS S BK3 T;replace S:=sc S T;clear T;have ⟨a0,a1,e0,e1⟩:=q2f BK2;have ⟨c0,c1,d0,d1⟩:=q2f BK3;have p1:(9223372036854775807 < p.size + q.size) = False:=eq_false (by omega);have p2:(9223372036854775807 < q.size + q.size) = False:=eq_false (by omega);have p3:(9223372036854775807 < 1 + q.size) = False:=eq_false (by omega))
  ·refine bodyPost_ret (results_cell_row rfl _ _ k2 25 #[.string p,.string ⟨#[]⟩] (0,0) _ rfl (b2 BK2) Try.underlying25 rfl (by kernel_rfl)) rfl ?_
   exact ⟨_,_,rfl,by (try simp only [ByteArray.size_append,z0,z1]);omega,st S⟩
  ·refine bodyPost_ret (results_cell_row rfl _ _ k2 25 #[.string (p ++ q),.string q] (0,0) _ rfl (b2 BK2) Try.underlying25 rfl (by kernel_rfl)) rfl ?_
   exact ⟨_,_,rfl,by (try simp only [ByteArray.size_append,z0,z1]);omega,st S⟩
  ·refine bodyPost_ret (results_cell_row rfl _ _ k2 25 #[.string p,.string (q ++ q)] (0,0) _ rfl (b2 BK2) Try.underlying25 rfl (by kernel_rfl)) rfl ?_
   exact ⟨_,_,rfl,by (try simp only [ByteArray.size_append,z0,z1]);omega,st S⟩
  ·refine bodyPost_ret (results_cell_row rfl _ _ k2 25 #[.string p,.string ((⟨#[50]⟩:ByteArray) ++ q)] (0,0) _ rfl (b2 BK2) Try.underlying25 rfl (by kernel_rfl)) rfl ?_
   exact ⟨_,_,rfl,by (try simp only [ByteArray.size_append,z0,z1]);omega,st S⟩
  ·refine bodyPost_ret (results_cell_row rfl _ _ k2 25 #[.string p,.string q] (0,0) _ rfl (b2 BK2) Try.underlying25 rfl (by kernel_rfl)) rfl ?_
   exact ⟨_,_,rfl,by (try simp only [ByteArray.size_append,z0,z1]);omega,st S⟩
end
section
variable {w0 w:World} {g:Nat} {c:List Int}
end
theorem two_den {D:Int} (h:D ∈ ([2,3,4,5,6]:List Int)):∃ E:Int,wrap64 (2 ^ D.toNat) = E ∧ Den (E - 1) ∧ 4 ≤ E ∧ E ≤ 64:=by
 simp only [List.mem_cons,List.not_mem_nil,or_false] at h
 rcases h with rfl|rfl|rfl|rfl|rfl
 ·exact ⟨4,by decide +kernel,den_of1 (D:=3) (by simp),by decide,by decide⟩
 ·exact ⟨8,by decide +kernel,den_of1 (D:=7) (by simp),by decide,by decide⟩
 ·exact ⟨16,by decide +kernel,den_of1 (D:=15) (by simp),by decide,by decide⟩
 ·exact ⟨32,by decide +kernel,den_of1 (D:=31) (by simp),by decide,by decide⟩
 ·exact ⟨64,by decide +kernel,den_of1 (D:=63) (by simp),by decide,by decide⟩
theorem u64_den {D:Int} (h:D ∈ ([2,3,4,5,6]:List Int)):IntKind.u64.wrap D = D:=by
 simp only [List.mem_cons,List.not_mem_nil,or_false] at h
 rcases h with rfl|rfl|rfl|rfl|rfl <;> decide +kernel
theorem shl_den {D E:Int} (h:D ∈ ([2,3,4,5,6]:List Int)) (hE:wrap64 (2 ^ D.toNat) = E):wrap64 (2 ^ min D.toNat 64) = E:=by
 rw [← hE]
 simp only [List.mem_cons,List.not_mem_nil,or_false] at h
 rcases h with rfl|rfl|rfl|rfl|rfl <;> decide +kernel
theorem pos_den {D:Int} (h:D ∈ ([2,3,4,5,6]:List Int)):(0 ≤ D) = True ∧ decide (0 ≤ D) = true:=by
 simp only [List.mem_cons,List.not_mem_nil,or_false] at h
 rcases h with rfl|rfl|rfl|rfl|rfl <;> decide +kernel
section
variable {w0 w:World} {g:Nat} {c:List Int}
set_option maxHeartbeats 8000000 in
set_option maxRecDepth 100000 in
theorem draw6 (Hc:bytesL c) (S0:St w0 w w g c):Calls Try.prog 18 #[.pointer (some ⟨g,0,none⟩)] w fun e w'=>∃ p q,e = .returned (.agg #[.string p,.string q]) ∧ p.size + q.size ≤ 35 ∧ St w0 w w' g c:=by
 have hu25:=Try.underlying25
 have hu63:=Try.underlying63
 have S:=aM S0
 clear S0
 go_enter Try.func18,Try.ntmps18
 go_upto_block 0 with (first
  | ((with_reducible refine gate_dst (N:=2) rfl ?_);refine box_event rfl (N:=2) rfl (cs:=#[.string ⟨#[]⟩,.string ⟨#[]⟩]) (t:=25) (by first|(go_simp;done)|(go_simp;rfl)) ?_;intro k2 hg w1 hbox hb;have G2:=geN S hg;replace S:=sb S hb;have BK2:=aM hbox;clear hb hbox hg)
  | ((with_reducible refine gate_callee (f:=35) rfl ?_);refine goesL_ (some 12) rfl rfl Try.func35 (by kernel_rfl) rfl #[.pointer (some ⟨g,0,none⟩),.int .i64 16] rfl (by (try simp only [sM,sC,sN]);first|done|rfl) ?_;refine Calls.mono (nextE w0 Hc 16 (by decide) ?sS) ?_;(try (case sS=>exact (st S).re));rintro e w4 ⟨v,rfl,v0,v1,T⟩;refine ⟨_,rfl,?_⟩;replace BK2:=bnS S BK2 T;replace S:=sc S T;clear T))
 (try simp only [Act.put,sI,sZ,sS])
 clear v0 v1
 go_cut [] (fun wc=>Aside0 (wc.heap[k2]? = some (.cells #[.string ⟨#[]⟩,.string ⟨#[]⟩] 25 (0,0))) ∧ Aside0 (St w0 w wc g c))
 case first =>
  by_cases c0:v = 0
  ·have d1:(v == 0) = true:=beq_iff_eq.mpr c0
   go_wp2_with ((with_reducible refine gate_callee (f:=36) rfl ?_);refine goesL_ (some 16) rfl rfl Try.func36 (by kernel_rfl) rfl #[.pointer (some ⟨g,0,none⟩)] rfl (by (try simp only [sM,sC,sN]);first|done|rfl) ?_;refine Calls.mono (drawW (w0:=w0) Hc ?sS) ?_;(try (case sS=>exact (st S).re));rintro e w4 ⟨p,q,rfl,hz,T⟩;refine ⟨_,rfl,?_⟩;replace BK2:=bnS S BK2 T;replace S:=sc S T;clear T;have ⟨a0,a1,e0,e1⟩:=q2f BK2)
   refine bodyPost_ret (results_cell_row rfl _ _ k2 25 #[.string p,.string q] (0,0) _ rfl (b2 BK2) Try.underlying25 rfl (by kernel_rfl)) rfl ?_
   exact ⟨_,_,rfl,hz,st S⟩
  ·have d1:(v == 0) = false:=beq_eq_false_iff_ne.mpr c0
   go_upto_if 17 with (fail)
   go_cut [17] (fun v17 wc=>∃ b,v17 = .bool b ∧ Aside0 (wc.heap[k2]? = some (.cells #[.string ⟨#[]⟩,.string ⟨#[]⟩] 25 (0,0))) ∧ Aside0 (St w0 w wc g c))
   case first =>
    go_wp2
    all_goals go_meet
    all_goals exact ⟨_,rfl,BK2,S⟩
   case rest =>
    clear S BK2
    obtain ⟨b,rfl,BK2,S⟩:=hcut
    cases b
    ·go_wp2
     go_meet
     case rel=>exact ⟨BK2,S⟩
    ·go_wp2_with (first
     | ((with_reducible refine gate_dst (N:=24) rfl ?_);refine litI ?hg (N:=24) ?hd [2,3,4,5,6] ?hr (by simp) ?_;(case hd=>rfl);(case hg=>rfl);(case hr=>first|(go_simp;done)|(go_simp;rfl));intro A n w2 hC hn hf hb;have C:=aM hC;have F:=hf g (st S).re.lt;replace BK2:=bnB BK2 hb;replace S:=sb S hb;clear hb hC hf)
     | ((with_reducible refine gate_callee (f:=37) rfl ?_);refine goesL_ (some 25) rfl rfl Try.func37 (by kernel_rfl) rfl #[.pointer (some ⟨g,0,none⟩),.slice A 5 n] rfl (by (try simp only [sM,sC,sN]);first|done|rfl) ?_;refine Calls.mono (pickE w0 Hc [2,3,4,5,6] (by decide) (by decide) ?sS ?sC hn F) ?_;(try (case sS=>exact (st S).re));(case sC=>exact ck C);rintro e w4 ⟨D,rfl,hD,T⟩;refine ⟨_,rfl,?_⟩;replace BK2:=bnS S BK2 T;replace S:=sc S T;clear T;clear C F hn;obtain ⟨E,hE,dE,E1,E2⟩:=two_den hD;have u0:=u64_den hD;have u1:=shl_den hD hE;have ⟨u2,u3⟩:=pos_den hD)
     | ((with_reducible refine gate_callee (f:=35) rfl ?_);refine goesL_ (some 32) rfl rfl Try.func35 (by kernel_rfl) rfl #[.pointer (some ⟨g,0,none⟩),.int .i64 (E - 1)] rfl (by (try simp only [sM,sC,sN]);first|done|rfl) ?_;refine Calls.mono (nextE w0 Hc (E - 1) (by omega) ?sS) ?_;(try (case sS=>exact (st S).re));rintro e w4 ⟨x,rfl,x0,x1,T⟩;refine ⟨_,rfl,?_⟩;replace BK2:=bnS S BK2 T;replace S:=sc S T;clear T)
     | ((with_reducible refine gate_callee (f:=38) rfl ?_);refine goesL_ (some 34) rfl rfl Try.func38 (by kernel_rfl) rfl #[.int .i64 x,.int .i64 (E - 1)] rfl (by (try simp only [sM,sC,sN]);first|done|rfl) ?_;refine Calls.mono (ofE x (by omega) (by omega) _) ?_;(try (case sS=>exact (st S).re));rintro e w4 ⟨rfl,hb⟩;refine ⟨_,rfl,?_⟩;replace BK2:=bnB BK2 hb;replace S:=sb S hb;clear hb;obtain ⟨n1,d1,hp⟩:∃ n1 d1,ang x (E - 1) = (n1,d1):=⟨_,_,rfl⟩;have hA:=(den_ang dE x).1;have hG:=(den_ang dE x).2;rw [hp] at hA hG;rw [hp])
     | ((with_reducible refine gate_dst (N:=5) rfl ?_);refine box_event rfl (N:=5) rfl (cs:=#[.int .i64 0,.int .i64 0]) (t:=63) (by first|(go_simp;done)|(go_simp;rfl)) ?_;intro k5 hg w1 hbox hb;have G5:=geN S hg;have N25:=neN BK2 hg;replace S:=sb S hb;replace BK2:=bnB BK2 hb;have BK5:=aM hbox;have ⟨a0,a1,e0,e1⟩:=q2f BK5;clear hb hbox hg)
     | ((with_reducible refine gate_callee (f:=39) rfl ?_);refine goesL_ (some 38) rfl rfl Try.func39 (by kernel_rfl) rfl #[.agg #[.int .i64 n1,.int .i64 d1],.agg #[.int .i64 n1,.int .i64 d1]] rfl (by (try simp only [sM,sC,sN]);first|done|rfl) ?_;refine Calls.mono (itinE hA hG hA _) ?_;(try (case sS=>exact (st S).re));rintro e w4 ⟨p,q,ok,rfl,hz,hb⟩;refine ⟨_,rfl,?_⟩;replace BK2:=bnB BK2 hb;replace S:=sb S hb;clear hb)
     | ((with_reducible refine gate_dst (N:=6) rfl ?_);refine box_event rfl (N:=6) rfl (cs:=#[.string ⟨#[]⟩,.string ⟨#[]⟩]) (t:=25) (by first|(go_simp;done)|(go_simp;rfl)) ?_;intro k6 hg w1 hbox hb;have G6:=geN S hg;have N26:=neN BK2 hg;have n3:=N26.h;have n4:=N26.h.symm;replace S:=sb S hb;replace BK2:=bnB BK2 hb;have BK6:=aM hbox;have ⟨a0,a1,e0,e1⟩:=q2f BK6;have ⟨c0,c1,d0,d1⟩:=q2f BK2;clear hb hbox hg))
     ·refine bodyPost_ret (results_cell_row rfl _ _ k2 25 #[.string p,.string q] (0,0) _ rfl (b2 BK2) Try.underlying25 rfl (by kernel_rfl)) rfl ?_
      exact ⟨_,_,rfl,(by have:=hz (by assumption);omega),st S⟩
     ·go_meet
      case rel=>exact ⟨⟨bn BK2⟩,⟨st S⟩⟩
 case rest =>
  clear S BK2
  obtain ⟨BK2,S⟩:=hcut
  go_wp2_with (first
   | ((with_reducible refine gate_dst (N:=44) rfl ?_);refine litI ?hg (N:=44) ?hd [1,2,3,4,5,6,6,7] ?hr (by simp) ?_;(case hd=>rfl);(case hg=>rfl);(case hr=>first|(go_simp;done)|(go_simp;rfl));intro A n w2 hC hn hf hb;have C:=aM hC;have F:=hf g (st S).re.lt;replace BK2:=bnB BK2 hb;replace S:=sb S hb;clear hb hC hf)
   | ((with_reducible refine gate_callee (f:=37) rfl ?_);refine goesL_ (some 45) rfl rfl Try.func37 (by kernel_rfl) rfl #[.pointer (some ⟨g,0,none⟩),.slice A 8 n] rfl (by (try simp only [sM,sC,sN]);first|done|rfl) ?_;refine Calls.mono (pickE w0 Hc [1,2,3,4,5,6,6,7] (by decide) (by decide) ?sS ?sC hn F) ?_;(try (case sS=>exact (st S).re));(case sC=>exact ck C);rintro e w4 ⟨D,rfl,hD,T⟩;refine ⟨_,rfl,?_⟩;replace BK2:=bnS S BK2 T;replace S:=sc S T;clear T;clear C F hn)
   | ((with_reducible refine gate_dst (N:=46) rfl ?_);refine lit0 (w:=w) ?hg (N:=46) ?hd ?hz ?hr ?_;(case hd=>rfl);(case hg=>rfl);(case hz=>exact (st S).keep.1);(case hr=>first|(go_simp;done)|(go_simp;rfl));intro v0 w4 R hb;replace BK2:=bnB BK2 hb;replace S:=sb S hb;clear hb))
  replace hD:1 ≤ D ∧ D ≤ 7:=by simp only [List.mem_cons,List.not_mem_nil,or_false] at hD;omega
  have hD1:wrap64 (D - 1) = D - 1:=wrS (by omega) (by omega)
  go_loopg [9,10] 9 (fun kq v4 v5 wc=>∃ l:List Int,v5 = .int .i64 l.length ∧ kq + l.length = 9 ∧ Aside0 (RB w.heap.size wc v4 l) ∧ Aside0 (wc.heap[k2]? = some (.cells #[.string ⟨#[]⟩,.string ⟨#[]⟩] 25 (0,0))) ∧ Aside0 (St w0 w wc g c))
  case atStart=>exact ⟨[],rfl,rfl,R,BK2,S⟩
  case round =>
   clear R S BK2
   obtain ⟨l,rfl,hk,R,BK2,S⟩:=hrel
   by_cases c1:(l.length:Int) < wrap64 (D - 1)
   ·have d1:decide ((l.length:Int) < wrap64 (D - 1)) = true:=decide_eq_true c1
    rw [hD1] at c1
    go_wp2_with (first
     | ((with_reducible refine gate_callee (f:=35) rfl ?_);refine goesL_ (some 55) rfl rfl Try.func35 (by kernel_rfl) rfl #[.pointer (some ⟨g,0,none⟩),.int .i64 2] rfl (by (try simp only [sM,sC,sN]);first|done|rfl) ?_;refine Calls.mono (nextE w0 Hc 2 (by decide) ?sS) ?_;(try (case sS=>exact (st S).re));rintro e w4 ⟨x,rfl,x0,x1,T⟩;refine ⟨_,rfl,?_⟩;replace BK2:=bnS S BK2 T;replace R:=roS S R T;replace S:=sc S T;clear T)
     | ((with_reducible refine gate_builtin (b:=.append) (xs:=#[.tmp 53,.tmp 58]) rfl ?_);at_builtin;refine app8 S R BK2 (by decide) (by first|omega|(rw [List.length_set];omega)) _ (.tmp 53) (.tmp 58) rfl rfl rfl rfl ?_;intro v6 w6 R1 S1 B1;clear R S BK2;have R:=R1;have S:=S1;have BK2:=B1;clear R1 S1 B1))
    go_roundg (gk - 1)
    case measure=>omega
    case rel=>exact ⟨_,by rw [List.length_append,List.length_singleton,Int.natCast_add];rfl,by rw [List.length_append,List.length_singleton];omega,R,BK2,S⟩
   ·have d1:decide ((l.length:Int) < wrap64 (D - 1)) = false:=decide_eq_false c1
    rw [hD1] at c1
    by_cases c2:1 < D
    ·have d2:decide (1 < D) = true:=decide_eq_true c2
     obtain ⟨g1,n1,rfl,hg1,hl1,_⟩:=Kd.R_form R.out (by omega)
     have ⟨hx,hf⟩:=Kd.R_celln 0 R.out 0 (by decide) (by omega)
     have HP:=Kd.R_putg R.out (0:Int) 49
     rw [show (0:Int).toNat = 0 from rfl] at hx hf HP
     have G1:Ge w.heap.size g1:=⟨hg1⟩
     have N1:Ne2 k2 g1:=⟨fun e=>Kd.R_ne R.out BK2.out (by decide) (by rw [e];rfl)⟩
     have R1:=aM HP.1
     have S1:=aM (st (V:=wr.setCell ⟨g1,0,none⟩ (.int .u8 49)) S)
     have B1:=aM (bn (V:=wr.setCell ⟨g1,0,none⟩ (.int .u8 49)) BK2)
     have d3:decide (0 < l.length) = true:=decide_eq_true (by omega)
     have d4:(0 < l.length) = True:=eq_true (by omega)
     go_wp2_with (first
      | ((with_reducible refine gate_store (t:=5) (p:=63) rfl ?_);refine store_event (t:=5) (p:=63) (v:=?vo) (w1:=wr.setCell ⟨g1,0,none⟩ (.int .u8 49)) ?hg ?ho ?hn ?hr ?_;(case ho=>rfl);(case hg=>rfl);(case hn=>rfl);(case hr=>first|(go_simp;done)|(go_simp;rfl));intro w7 hw;rw [← hw] at R1 S1 B1;clear R S BK2 hw;have R:=R1;have S:=S1;have BK2:=B1;clear R1 S1 B1)
      | ((with_reducible refine gate_builtin (b:=.append) (xs:=#[.tmp 64,.tmp 65]) rfl ?_);at_builtin;refine app8 S R BK2 (by decide) (by first|omega|(rw [List.length_set];omega)) _ (.tmp 64) (.tmp 65) rfl rfl rfl rfl ?_;intro v6 w6 R1 S1 B1;clear R S BK2;have R:=R1;have S:=S1;have BK2:=B1;clear R1 S1 B1;have hcv:=own_string (P:=Try.prog) Try.underlying22 Try.underlying5 Try.underlying9 (Kd.own_of_R R.out);have ⟨a0,a1,e0,e1⟩:=q2f BK2))
     refine bodyPost_ret (results_cell_row rfl _ _ k2 25 #[.string ⟨#[]⟩,.string (strOfNums (l.set 0 49 ++ [42]))] (0,0) _ rfl (b2 BK2) Try.underlying25 rfl (by kernel_rfl)) rfl ?_
     exact ⟨_,_,rfl,(by simp only [son_size,List.length_append,List.length_singleton,List.length_set];show 0 + (l.length + 1) ≤ 35;omega),st S⟩
    ·have d2:decide (1 < D) = false:=decide_eq_false c2
     go_wp2_with ((with_reducible refine gate_builtin (b:=.append) (xs:=#[.tmp 64,.tmp 65]) rfl ?_);at_builtin;refine app8 S R BK2 (by decide) (by first|omega|(rw [List.length_set];omega)) _ (.tmp 64) (.tmp 65) rfl rfl rfl rfl ?_;intro v6 w6 R1 S1 B1;clear R S BK2;have R:=R1;have S:=S1;have BK2:=B1;clear R1 S1 B1;have hcv:=own_string (P:=Try.prog) Try.underlying22 Try.underlying5 Try.underlying9 (Kd.own_of_R R.out);have ⟨a0,a1,e0,e1⟩:=q2f BK2)
     refine bodyPost_ret (results_cell_row rfl _ _ k2 25 #[.string ⟨#[]⟩,.string (strOfNums (l ++ [42]))] (0,0) _ rfl (b2 BK2) Try.underlying25 rfl (by kernel_rfl)) rfl ?_
     exact ⟨_,_,rfl,(by simp only [son_size,List.length_append,List.length_singleton,List.length_set];show 0 + (l.length + 1) ≤ 35;omega),st S⟩
end
end Go.Proofs.Ytmhpbilkocnlnaa.Q
end
section
namespace Go.Proofs.Ytmhpbilkocnlnaa.Q
open Go.Proofs.YtmhpbilkocnlnaaW.Ext
open Go.RowKit Go.Proofs.YtmhpbilkocnlnaaW.PrintWords Go.Proofs.YtmhpbilkocnlnaaW.PrintLast Go.Proofs.YtmhpbilkocnlnaaW.PrintMore
attribute [local go_sem] max2_int min2_int max_two min_two max_three min_three max_four min_four   -- for this text's walks alone
set_option linter.unusedVariables false
set_option linter.unusedSimpArgs false
mutual
def spec_l02Star.j0:Nat → Int → Bool → ByteArray → ByteArray → Option (Bool)
 | 0,_,_,_,_=>none
 | k + 1,x3,x28,x334000,x334001=>if x28 = true then (some false) else (spec_l02Star.l0 k x3 0 x334000 x334001)
def spec_l02Star.l0:Nat → Int → Int → ByteArray → ByteArray → Option (Bool)
 | 0,_,_,_,_=>none
 | k + 1,x3,x4,x334000,x334001=>if x4 < (wrap64 (x3 - 1)) then (if 0 ≤ x4 then (if x4 < (x334001.size:Int) then (if (bt x334001 x4) = 42 then (some false) else (spec_l02Star.l0 k x3 (wrap64 (x4 + 1)) x334000 x334001)) else (none)) else (none)) else (some true)
end
def spec_l02Star.f (k:Nat) (a0_0:ByteArray) (a0_1:ByteArray):Option (Bool):=if a0_0.toList = ([]:List UInt8) then (if 0 ≤ (wrap64 ((a0_1.size:Int) - 1)) then (if (wrap64 ((a0_1.size:Int) - 1)) < (a0_1.size:Int) then (if (bt a0_1 (wrap64 ((a0_1.size:Int) - 1))) = 42 then (if (a0_1.size:Int) > 1 then (if 0 < (a0_1.size:Int) then (spec_l02Star.j0 k (a0_1.size:Int) ((bt a0_1 0) != 49) a0_0 a0_1) else (none)) else (spec_l02Star.j0 k (a0_1.size:Int) false a0_0 a0_1)) else (spec_l02Star.j0 k (a0_1.size:Int) true a0_0 a0_1)) else (none)) else (none)) else (spec_l02Star.j0 k (a0_1.size:Int) true a0_0 a0_1)
theorem spec_l02Star.mono_l:∀ k,(∀ y0 y1 y2 y3,LeO (spec_l02Star.j0 k y0 y1 y2 y3) (spec_l02Star.j0 (k + 1) y0 y1 y2 y3)) ∧ (∀ y0 y1 y2 y3,LeO (spec_l02Star.l0 k y0 y1 y2 y3) (spec_l02Star.l0 (k + 1) y0 y1 y2 y3))
 | 0=>⟨fun _ _ _ _ r h=>by simp [spec_l02Star.j0] at h,fun _ _ _ _ r h=>by simp [spec_l02Star.l0] at h⟩
 | k + 1=>by
  obtain ⟨ih0,ih1⟩:=spec_l02Star.mono_l k
  refine ⟨?_,?_⟩
  ·intro y0 y1 y2 y3
   unfold spec_l02Star.j0
   repeat' first
   | (with_reducible exact ih0 _ _ _ _)
   | (with_reducible exact ih1 _ _ _ _)
   | (with_reducible exact LeO.refl _)
   | (with_reducible exact LeO.none _)
   | (with_reducible refine LeO.ite ?_ ?_)
   | (with_reducible refine LeO.bind ?_ (fun _=>?_))
   | exact ih0 _ _ _ _
   | exact ih1 _ _ _ _
   | exact LeO.none _
   | refine LeO.ite ?_ ?_
   | refine LeO.bind ?_ (fun _=>?_)
  ·intro y0 y1 y2 y3
   unfold spec_l02Star.l0
   repeat' first
   | (with_reducible exact ih0 _ _ _ _)
   | (with_reducible exact ih1 _ _ _ _)
   | (with_reducible exact LeO.refl _)
   | (with_reducible exact LeO.none _)
   | (with_reducible refine LeO.ite ?_ ?_)
   | (with_reducible refine LeO.bind ?_ (fun _=>?_))
   | exact ih0 _ _ _ _
   | exact ih1 _ _ _ _
   | exact LeO.none _
   | refine LeO.ite ?_ ?_
   | refine LeO.bind ?_ (fun _=>?_)
theorem spec_l02Star.mono:∀ a0 a1 k,LeO (spec_l02Star.f k a0 a1) (spec_l02Star.f (k + 1) a0 a1):=by
 intro a0 a1 k
 obtain ⟨ih0,ih1⟩:=spec_l02Star.mono_l k
 unfold spec_l02Star.f
 repeat' first
   | (with_reducible exact ih0 _ _ _ _)
   | (with_reducible exact ih1 _ _ _ _)
   | (with_reducible exact LeO.refl _)
   | (with_reducible exact LeO.none _)
   | (with_reducible refine LeO.ite ?_ ?_)
   | (with_reducible refine LeO.bind ?_ (fun _=>?_))
   | exact ih0 _ _ _ _
   | exact ih1 _ _ _ _
   | exact LeO.none _
   | refine LeO.ite ?_ ?_
   | refine LeO.bind ?_ (fun _=>?_)
set_option maxHeartbeats 8000000 in
set_option maxRecDepth 100000 in
theorem spec_l02Star.calls (k:Nat) (a0_0:ByteArray) (a0_1:ByteArray) (r:Bool) (w:World) (h:spec_l02Star.f k a0_0 a0_1 = some r) :
  Calls Try.prog 24 #[.agg #[.string a0_0,.string a0_1]] w fun e w'=>e = .returned (.bool r) ∧ Below w.heap.size w w':=by
 have hu25:=Try.underlying25
 have HB:=aM (Below.refl w.heap.size w)
 have H:(if a0_0.toList = ([]:List UInt8) then (if 0 ≤ (wrap64 ((a0_1.size:Int) - 1)) then (if (wrap64 ((a0_1.size:Int) - 1)) < (a0_1.size:Int) then (if (bt a0_1 (wrap64 ((a0_1.size:Int) - 1))) = 42 then (if (a0_1.size:Int) > 1 then (if 0 < (a0_1.size:Int) then (spec_l02Star.j0 k (a0_1.size:Int) ((bt a0_1 0) != 49) a0_0 a0_1) else (none)) else (spec_l02Star.j0 k (a0_1.size:Int) false a0_0 a0_1)) else (spec_l02Star.j0 k (a0_1.size:Int) true a0_0 a0_1)) else (none)) else (none)) else (spec_l02Star.j0 k (a0_1.size:Int) true a0_0 a0_1)) = some r:=h
 clear h
 have HC2:=aM H
 clear H
 go_enter Try.func24,Try.ntmps24
 go_upto_region 2 with (first|((with_reducible refine gate_dst (N:=1) rfl ?_);refine box_event rfl (N:=1) rfl (cs:=#[.string a0_0,.string a0_1]) (t:=25) (by first|(go_simp;done)|(go_simp;rfl)) ?_;intro gb333 hg w3 hbox hb;have BK333:=aM (hbox);have GW333:=wl hg HB;have GE333:=wl hg HB;replace HB:=bs HB hb;clear hb hbox hg;have⟨a0,a1,b0,b1⟩:=q2f BK333))
 (try simp only [Act.put,sI,sZ,sS])
 go_cut [28] (fun v28 wc=>∃ (kq:Nat) (x28_1:Bool),v28 = .bool x28_1 ∧ Aside0 (spec_l02Star.j0 kq (a0_1.size:Int) x28_1 a0_0 a0_1 = some r) ∧ Aside0 (kq ≤ k) ∧ Aside0 (wc.heap[gb333]? = some (.cells #[.string a0_0,.string a0_1] 25 (0,0))) ∧ Aside0 (Below w.heap.size w wc))
 case first =>
  have H:=HC2.out
  clear HC2
  by_cases c5:a0_0.toList = ([]:List UInt8)
  ·rw [if_pos c5] at H
   have c5b0:(a0_0.toList == ([]:List UInt8)) = true:=beq_iff_eq.mpr c5
   have c5b1:(a0_0.toList != ([]:List UInt8)) = false:=bne_eq_false_iff_eq.mpr c5
   clear c5
   (first|rw [c5b0]|(simp only [i64_w,i32_w];rw [c5b0])|skip)
   obtain ⟨ji6,hji6⟩:∃ j_:Int,(wrap64 ((a0_1.size:Int) - 1)) = j_:=⟨_,rfl⟩
   replace H:(if 0 ≤ (ji6) then (if (ji6) < (a0_1.size:Int) then (if (bt a0_1 (ji6)) = 42 then (if (a0_1.size:Int) > 1 then (if 0 < (a0_1.size:Int) then (spec_l02Star.j0 k (a0_1.size:Int) ((bt a0_1 0) != 49) a0_0 a0_1) else (none)) else (spec_l02Star.j0 k (a0_1.size:Int) false a0_0 a0_1)) else (spec_l02Star.j0 k (a0_1.size:Int) true a0_0 a0_1)) else (none)) else (none)) = some r:=by first|(rw [hji6] at H;exact H)|(simp only [hji6] at H ⊢;exact H)
   have hji6w:(IntKind.i64.wrap ((a0_1.size:Int) - 1)) = ji6:=(i64_w _).trans hji6
   by_cases c7:0 ≤ (ji6)
   ·rw [if_pos c7] at H
    have c7b0:decide (0 ≤ (ji6)) = true:=decide_eq_true c7
    clear c7
    by_cases c8:(ji6) < (a0_1.size:Int)
    ·rw [if_pos c8] at H
     have c8b0:decide ((ji6) < (a0_1.size:Int)) = true:=decide_eq_true c8
     clear c8
     by_cases c10:(bt a0_1 (ji6)) = 42
     ·rw [if_pos c10] at H
      have c10b0:((bt a0_1 (ji6)) == 42) = true:=beq_iff_eq.mpr c10
      have c10b1:((bt a0_1 (ji6)) != 42) = false:=bne_eq_false_iff_eq.mpr c10
      clear c10
      by_cases c11:(a0_1.size:Int) > 1
      ·rw [if_pos c11] at H
       have c11b0:decide (1 < (a0_1.size:Int)) = true:=decide_eq_true c11
       have c11b1:decide (1 < a0_1.size) = true:=decide_eq_true (by omega)
       clear c11
       by_cases c12:0 < (a0_1.size:Int)
       ·rw [if_pos c12] at H
        have c12b0:decide (0 < (a0_1.size:Int)) = true:=decide_eq_true c12
        have c12b1:decide (0 < a0_1.size) = true:=decide_eq_true (by omega)
        clear c12
        have H':=aM H
        clear H
        have⟨a0,a1,b0,b1⟩:=q2f BK333
        have p9:0 ≤ ((ji6):Int):=of_decide_eq_true (by assumption)
        have q9:(ji6) < (a0_1.size:Int):=of_decide_eq_true (by assumption)
        have hx9:=bt_at a0_1 (ji6)
        replace p9:=eq_true p9;replace q9:=eq_true q9
        have p13:0 ≤ (0:Int):=(by omega)
        have q13:0 < a0_1.size:=(by have:(0:Int) < (a0_1.size:Int):=of_decide_eq_true (by assumption);omega)
        have hx13:∀ h:0 < a0_1.size,((a0_1[0]'h).toNat:Int) = bt a0_1 0:=bt_at a0_1 0
        clear p13
        have qi13:(0 < (a0_1.size:Int)) = True:=eq_true (of_decide_eq_true (by assumption))
        replace q13:=eq_true q13
        go_wp2
        go_meet
        case rel=>exact ⟨_,(((bt a0_1 0) != 49)),(by first|rfl|(simp;done)|(simp [*];done)),H',⟨by first|omega|exact Nat.le_refl _⟩,⟨bk BK333⟩,⟨bb HB⟩⟩
       ·rw [if_neg c12] at H
        exact absurd H (by simp)
      ·rw [if_neg c11] at H
       have c11b0:decide (1 < (a0_1.size:Int)) = false:=decide_eq_false c11
       have c11b1:decide (1 < a0_1.size) = false:=decide_eq_false (by omega)
       clear c11
       have H':=aM H
       clear H
       have⟨a0,a1,b0,b1⟩:=q2f BK333
       have p9:0 ≤ ((ji6):Int):=of_decide_eq_true (by assumption)
       have q9:(ji6) < (a0_1.size:Int):=of_decide_eq_true (by assumption)
       have hx9:=bt_at a0_1 (ji6)
       replace p9:=eq_true p9;replace q9:=eq_true q9
       go_wp2
       go_meet
       case rel=>exact ⟨_,(false),(by first|rfl|(simp;done)|(simp [*];done)),H',⟨by first|omega|exact Nat.le_refl _⟩,⟨bk BK333⟩,⟨bb HB⟩⟩
     ·rw [if_neg c10] at H
      have c10b0:((bt a0_1 (ji6)) == 42) = false:=beq_eq_false_iff_ne.mpr c10
      have c10b1:((bt a0_1 (ji6)) != 42) = true:=bne_iff_ne.mpr c10
      have H':=aM H
      clear H
      have⟨a0,a1,b0,b1⟩:=q2f BK333
      have p9:0 ≤ ((ji6):Int):=of_decide_eq_true (by assumption)
      have q9:(ji6) < (a0_1.size:Int):=of_decide_eq_true (by assumption)
      have hx9:=bt_at a0_1 (ji6)
      replace p9:=eq_true p9;replace q9:=eq_true q9
      go_wp2
      go_meet
      case rel=>exact ⟨_,(true),(by first|rfl|(simp;done)|(simp [*];done)),H',⟨by first|omega|exact Nat.le_refl _⟩,⟨bk BK333⟩,⟨bb HB⟩⟩
    ·rw [if_neg c8] at H
     exact absurd H (by simp)
   ·rw [if_neg c7] at H
    exact absurd H (by simp)
  ·rw [if_neg c5] at H
   have c5b0:(a0_0.toList == ([]:List UInt8)) = false:=beq_eq_false_iff_ne.mpr c5
   have c5b1:(a0_0.toList != ([]:List UInt8)) = true:=bne_iff_ne.mpr c5
   (first|rw [c5b0]|(simp only [i64_w,i32_w];rw [c5b0])|skip)
   have H':=aM H
   clear H
   have⟨a0,a1,b0,b1⟩:=q2f BK333
   go_wp2
   go_meet
   case rel=>exact ⟨_,(true),(by first|rfl|(simp;done)|(simp [*];done)),H',⟨by first|omega|exact Nat.le_refl _⟩,⟨bk BK333⟩,⟨bb HB⟩⟩
 case rest =>
  clear HC2
  try clear c1
  try clear p1
  try clear q1
  try clear hx1
  try clear qi1
  try clear c2
  try clear p2
  try clear c5
  try clear c5b0
  try clear c5b1
  try clear p6
  try clear c7
  try clear c7b0
  try clear c8
  try clear c8b0
  try clear p9
  try clear q9
  try clear hx9
  try clear c10
  try clear c10b0
  try clear c10b1
  try clear c11
  try clear c11b0
  try clear c11b1
  try clear c12
  try clear c12b0
  try clear c12b1
  try clear p13
  try clear q13
  try clear hx13
  try clear qi13
  try clear hcz14_0
  try clear hcz14_1
  try clear hcz15_0
  try clear hcz15_1
  try clear hcz16_0
  try clear hcz16_1
  try clear hcz17_0
  try clear hcz17_1
  try clear hcz4_0
  try clear hcz4_1
  try clear hfz14_0
  try clear hfz14_1
  try clear hfz15_0
  try clear hfz15_1
  try clear hfz16_0
  try clear hfz16_1
  try clear hfz17_0
  try clear hfz17_1
  try clear hfz4_0
  try clear hfz4_1
  try clear p13
  try clear p9
  try clear q13
  try clear q9
  obtain ⟨kq,x28_1,rfl,HA,HJ1,BK333,HB⟩:=hcut
  cases kq with
  | zero=>exact absurd HA.out (by simp [spec_l02Star.j0])
  | succ kj1 =>
   have H:=HA.out
   clear HA
   simp only [spec_l02Star.j0] at H
   by_cases c18:x28_1 = true
   ·subst c18
    have H1:(some false) = some r:=by rw [if_pos rfl] at H;exact H
    clear H
    have H:=H1
    clear H1
    obtain rfl:=Option.some.inj H
    go_wp2
    go_ret
    exact ⟨rfl,bb HB⟩
   ·replace c18:=Bool.eq_false_iff.mpr c18
    subst c18
    have H1:(spec_l02Star.l0 kj1 (a0_1.size:Int) 0 a0_0 a0_1) = some r:=by rw [if_neg (show ¬ (false = true) by decide)] at H;exact H
    clear H
    have H:=H1
    clear H1
    have H':=aM H
    clear H
    go_wp2
    go_loopg [4] kj1 (fun kq v4 w'=>∃ (x4_2:Int),v4 = .int .i64 x4_2 ∧ Aside0 (spec_l02Star.l0 kq (a0_1.size:Int) x4_2 a0_0 a0_1 = some r) ∧ Aside0 (kq ≤ kj1) ∧ Aside0 (w'.heap[gb333]? = some (.cells #[.string a0_0,.string a0_1] 25 (0,0))) ∧ Aside0 (Below w.heap.size w w'))
    case atStart=>exact ⟨(0),(by first|rfl|(simp;done)|(simp [*];done)),H',⟨Nat.le_refl _⟩,⟨bk BK333⟩,⟨bb HB⟩⟩
    case round =>
     clear H'
     try clear c1
     try clear p1
     try clear q1
     try clear hx1
     try clear qi1
     try clear c2
     try clear p2
     try clear c5
     try clear c5b0
     try clear c5b1
     try clear p6
     try clear c7
     try clear c7b0
     try clear c8
     try clear c8b0
     try clear p9
     try clear q9
     try clear hx9
     try clear c10
     try clear c10b0
     try clear c10b1
     try clear c11
     try clear c11b0
     try clear c11b1
     try clear c12
     try clear c12b0
     try clear c12b1
     try clear p13
     try clear q13
     try clear hx13
     try clear qi13
     try clear c18
     try clear hcz14_0
     try clear hcz14_1
     try clear hcz15_0
     try clear hcz15_1
     try clear hcz16_0
     try clear hcz16_1
     try clear hcz17_0
     try clear hcz17_1
     try clear hcz4_0
     try clear hcz4_1
     try clear hfz14_0
     try clear hfz14_1
     try clear hfz15_0
     try clear hfz15_1
     try clear hfz16_0
     try clear hfz16_1
     try clear hfz17_0
     try clear hfz17_1
     try clear hfz4_0
     try clear hfz4_1
     try clear p1
     try clear p13
     try clear p2
     try clear p6
     try clear p9
     try clear q1
     try clear q13
     try clear q9
     obtain ⟨x4_2,rfl,HA,HK2,BK333,HB⟩:=hrel
     cases gk with
     | zero=>exact absurd HA.out (by simp [spec_l02Star.l0])
     | succ k2 =>
      have H:=HA.out
      clear HA
      simp only [spec_l02Star.l0] at H
      by_cases c19:x4_2 < (wrap64 ((a0_1.size:Int) - 1))
      ·rw [if_pos c19] at H
       have c19b0:decide (x4_2 < (wrap64 ((a0_1.size:Int) - 1))) = true:=decide_eq_true c19
       clear c19
       by_cases c20:0 ≤ x4_2
       ·rw [if_pos c20] at H
        have c20b0:decide (0 ≤ x4_2) = true:=decide_eq_true c20
        clear c20
        by_cases c21:x4_2 < (a0_1.size:Int)
        ·rw [if_pos c21] at H
         have c21b0:decide (x4_2 < (a0_1.size:Int)) = true:=decide_eq_true c21
         clear c21
         by_cases c23:(bt a0_1 x4_2) = 42
         ·rw [if_pos c23] at H
          have c23b0:((bt a0_1 x4_2) == 42) = true:=beq_iff_eq.mpr c23
          have c23b1:((bt a0_1 x4_2) != 42) = false:=bne_eq_false_iff_eq.mpr c23
          clear c23
          obtain rfl:=Option.some.inj H
          have⟨a0,a1,b0,b1⟩:=q2f BK333
          have p22:0 ≤ (x4_2:Int):=of_decide_eq_true (by assumption)
          have q22:x4_2 < (a0_1.size:Int):=of_decide_eq_true (by assumption)
          have hx22:=bt_at a0_1 x4_2
          replace p22:=eq_true p22;replace q22:=eq_true q22
          go_wp2
          go_ret
          exact ⟨rfl,bb HB⟩
         ·rw [if_neg c23] at H
          have c23b0:((bt a0_1 x4_2) == 42) = false:=beq_eq_false_iff_ne.mpr c23
          have c23b1:((bt a0_1 x4_2) != 42) = true:=bne_iff_ne.mpr c23
          have H':=aM H
          clear H
          have⟨a0,a1,b0,b1⟩:=q2f BK333
          have p22:0 ≤ (x4_2:Int):=of_decide_eq_true (by assumption)
          have q22:x4_2 < (a0_1.size:Int):=of_decide_eq_true (by assumption)
          have hx22:=bt_at a0_1 x4_2
          replace p22:=eq_true p22;replace q22:=eq_true q22
          go_wp2
          go_roundg k2
          case measure=>have:=HJ1.out;have:=HK2.out;omega
          case rel=>exact ⟨(wrap64 (x4_2 + 1)),(by first|rfl|(simp;done)|(simp [*];done)),H',⟨by have:=HJ1.out;have:=HK2.out;omega⟩,⟨bk BK333⟩,⟨bb HB⟩⟩
        ·rw [if_neg c21] at H
         exact absurd H (by simp)
       ·rw [if_neg c20] at H
        exact absurd H (by simp)
      ·rw [if_neg c19] at H
       have c19b0:decide (x4_2 < (wrap64 ((a0_1.size:Int) - 1))) = false:=decide_eq_false c19
       clear c19
       obtain rfl:=Option.some.inj H
       go_wp2
       go_ret
       exact ⟨rfl,bb HB⟩
def strings_IndexByte.f (a0:ByteArray) (a1:Int):Option Int:=if 0 ≤ a1 then some (Lib.indexByte a0.data.toList a1.toNat.toUInt8) else none
theorem strings_IndexByte.calls (a0:ByteArray) (a1:Int) (r:Int) (w:World) (h:strings_IndexByte.f a0 a1 = some r) :
  Calls Try.prog 44 #[.string a0,.int .u8 a1] w fun e w'=>e = .returned (.int .i64 r) ∧ Below w.heap.size w w':=by
 unfold strings_IndexByte.f at h
 split at h
 ·rename_i hc
  obtain rfl:=Option.some.inj h
  exact (Try.strings_IndexByte a0 a1 w).mono fun e w' ⟨he,hw⟩=>⟨he,by rw [hw];exact Below.refl _ _⟩
 ·cases h
def impl_Sequence_isStar.f (a0_0:ByteArray) (a0_1:ByteArray):Option (Bool):=if a0_0.toList = ([]:List UInt8) then ((strings_IndexByte.f a0_1 42).bind fun t423=>(if t423 = (wrap64 ((a0_1.size:Int) - 1)) then (if (a0_1.size:Int) = 1 then (some true) else (if 0 < (a0_1.size:Int) then (some ((bt a0_1 0) == 49)) else (none))) else (some false))) else (some false)
def impl_Sequence_isStar.T1:Bool × List (List Nat × List Nat):=(true,[([],[]),([0],[0]),([1],[1]),([2],[2]),([3],[3]),([4,3],[3,4]),([5,3,3],[3,5]),([3],[3]),([7,3],[3,7]),([8,3],[3,8]),([9,3],[3,9]),([6,10,3],[3,6,10]),([3,11],[3,11]),([12,6],[12]),([13],[13]),([14,13],[13,14]),([15,13],[13,15]),([16,13],[13,16]),([17,13,13],[13,17]),([18],[18]),([19,18],[18,19]),([20,18],[18,20]),([21,18],[18,21]),([18,22,13],[13,18,22]),([13,23],[13,23]),([24,18,0,1,2,3,4,5,6,7,8,9,10,11,12,13,14,15,16,17,18,19,20,21,22,23,24],[24])])
def impl_Sequence_isStar.B1:List Nat:=[0,1,3,7,15,31,63,15,143,399,911,2047,4095,8191,16383,32767,65535,131071,262143,524287,1048575,2097151,4194303,8388607,16777215,33554431]
theorem impl_Sequence_isStar.tab1:rtab .any (opsOf Try.f21 1) = impl_Sequence_isStar.T1:=by kernel_rfl
theorem impl_Sequence_isStar.bits1:waitsOk impl_Sequence_isStar.T1.2 impl_Sequence_isStar.B1 = true:=by kernel_rfl
set_option maxHeartbeats 8000000 in
set_option maxRecDepth 100000 in
theorem impl_Sequence_isStar.calls (a0_0:ByteArray) (a0_1:ByteArray) (r:Bool) (w:World) (h:impl_Sequence_isStar.f a0_0 a0_1 = some r) :
  Calls Try.prog 21 #[.agg #[.string a0_0,.string a0_1]] w fun e w'=>e = .returned (.bool r) ∧ Below w.heap.size w w':=by
 have hu25:=Try.underlying25
 have HB:=aM (Below.refl w.heap.size w)
 have H:(if a0_0.toList = ([]:List UInt8) then ((strings_IndexByte.f a0_1 42).bind fun t423=>(if t423 = (wrap64 ((a0_1.size:Int) - 1)) then (if (a0_1.size:Int) = 1 then (some true) else (if 0 < (a0_1.size:Int) then (some ((bt a0_1 0) == 49)) else (none))) else (some false))) else (some false)) = some r:=h
 clear h
 by_cases c2:a0_0.toList = ([]:List UInt8)
 ·rw [if_pos c2] at H
  have c2b0:(a0_0.toList == ([]:List UInt8)) = true:=beq_iff_eq.mpr c2
  have c2b1:(a0_0.toList != ([]:List UInt8)) = false:=bne_eq_false_iff_eq.mpr c2
  clear c2
  replace H:=Option.bind_eq_some_iff.mp H
  obtain ⟨t423,A30,H⟩:=H
  replace H:(if t423 = (wrap64 ((a0_1.size:Int) - 1)) then (if (a0_1.size:Int) = 1 then (some true) else (if 0 < (a0_1.size:Int) then (some ((bt a0_1 0) == 49)) else (none))) else (some false)) = some r:=H;have A3:=aM A30
  clear A30
  by_cases c4:t423 = (wrap64 ((a0_1.size:Int) - 1))
  ·rw [if_pos c4] at H
   have c4b0:(t423 == (wrap64 ((a0_1.size:Int) - 1))) = true:=beq_iff_eq.mpr c4
   have c4b1:(t423 != (wrap64 ((a0_1.size:Int) - 1))) = false:=bne_eq_false_iff_eq.mpr c4
   clear c4
   by_cases c5:(a0_1.size:Int) = 1
   ·rw [if_pos c5] at H
    have c5b0:((a0_1.size:Int) == 1) = true:=beq_iff_eq.mpr c5
    have c5b1:((a0_1.size:Int) != 1) = false:=bne_eq_false_iff_eq.mpr c5
    clear c5
    obtain rfl:=Option.some.inj H
    go_enter Try.func21,Try.ntmps21
    try go_wp2_with (first|((with_reducible refine gate_dst (N:=1) rfl ?_);(try (refine gate_guard (by rfl) ?_;dsimp only));refine box_event rfl (N:=1) rfl (cs:=#[.string a0_0,.string a0_1]) (t:=25) (by first|(go_simp;done)|(go_simp;rfl)) ?_;intro gb422 hg w6 hbox hb;have BK422:=aM (hbox);have GW422:=wl hg HB;have GE422:=wl hg HB;replace HB:=bs HB hb;clear hb hbox hg))
    replace BK422:=aM (yD BK422.out);replace HB:=aM (zD HB.out)
    refine start_ (n:=26) (S:=fun w'=>w'.cell? ⟨gb422,0,none⟩ = some (.string a0_0) ∧ w'.cell? ⟨gb422,1,none⟩ = some (.string a0_1)) (ds:=[]) #[fF,fF,fF,fF,fF,fF,fF,fF,fF,fF,fF,fF,fF,fF,fF,fF,fF,fF,fF,fF,fF,fF,fF,fF,fF,fF] (by kernel_rfl) rfl rfl ⟨(blk_cell BK422.out 0).trans rfl,(blk_cell BK422.out 1).trans rfl⟩ (fun hHeld=>?_);refine with_tabW impl_Sequence_isStar.tab1 impl_Sequence_isStar.bits1 (fun HT_ HW_=>?_)
    generalize w6.drew = w7 at BK422 HB hHeld ⊢
    refine pz 3 0 #[tT,fF,fF,fF,fF,fF,fF,fF,fF,fF,fF,fF,fF,fF,fF,fF,fF,fF,fF,fF,fF,fF,fF,fF,fF,fF] HT_ rfl rfl (by kernel_rfl) (fun _ _ _ h=>h) (by rfl) (by intro w';go_simp;with_reducible rfl) (by simp only [Act.put,sI,sZ,sS,i64_w,i32_w];rfl) ?_
    refine tz 4 1 #[tT,tT,fF,fF,fF,fF,fF,fF,fF,fF,fF,fF,fF,fF,fF,fF,fF,fF,fF,fF,fF,fF,fF,fF,fF,fF] HT_ HW_ hHeld rfl rfl (by kernel_rfl) (fun _ _ _ h=>h) (by rfl) (by rintro w' ⟨s0,s1⟩;go_simp;with_reducible rfl) (by simp only [Act.put,sI,sZ,sS,i64_w,i32_w];rfl) ?_
    refine pz 5 2 #[tT,tT,tT,fF,fF,fF,fF,fF,fF,fF,fF,fF,fF,fF,fF,fF,fF,fF,fF,fF,fF,fF,fF,fF,fF,fF] HT_ rfl rfl (by kernel_rfl) (fun _ _ _ h=>h) (by rfl) (by intro w';go_simp;with_reducible rfl) (by simp only [Act.put,sI,sZ,sS,i64_w,i32_w];rfl) ?_
    refine pz 6 3 #[tT,tT,tT,tT,fF,fF,fF,fF,fF,fF,fF,fF,fF,fF,fF,fF,fF,fF,fF,fF,fF,fF,fF,fF,fF,fF] HT_ rfl rfl (by kernel_rfl) (fun _ _ _ h=>h) (by rfl) (by intro w';go_simp;with_reducible rfl) (by simp only [Act.put,sI,sZ,sS,i64_w,i32_w];rfl) ?_
    refine pz 7 4 #[tT,tT,tT,tT,tT,fF,fF,fF,fF,fF,fF,fF,fF,fF,fF,fF,fF,fF,fF,fF,fF,fF,fF,fF,fF,fF] HT_ rfl rfl (by kernel_rfl) (fun _ _ _ h=>h) (by rfl) (by intro w';go_simp;with_reducible rfl) (by simp only [Act.put,sI,sZ,sS,i64_w,i32_w];rfl) ?_
    refine pz 10 7 #[tT,tT,tT,tT,tT,fF,fF,tT,fF,fF,fF,fF,fF,fF,fF,fF,fF,fF,fF,fF,fF,fF,fF,fF,fF,fF] HT_ rfl rfl (by kernel_rfl) (fun _ _ _ h=>h) (by rfl) (by intro w';go_simp;with_reducible rfl) (by simp only [Act.put,sI,sZ,sS,i64_w,i32_w];rfl) ?_
    refine tz 8 5 #[tT,tT,tT,tT,tT,tT,fF,tT,fF,fF,fF,fF,fF,fF,fF,fF,fF,fF,fF,fF,fF,fF,fF,fF,fF,fF] HT_ HW_ hHeld rfl rfl (by kernel_rfl) (fun _ _ _ h=>h) (by rfl) (by rintro w' ⟨s0,s1⟩;go_simp;with_reducible rfl) (by simp only [Act.put,sI,sZ,sS,i64_w,i32_w];rfl) ?_
    refine tz 11 8 #[tT,tT,tT,tT,tT,tT,fF,tT,tT,fF,fF,fF,fF,fF,fF,fF,fF,fF,fF,fF,fF,fF,fF,fF,fF,fF] HT_ HW_ hHeld rfl rfl (by kernel_rfl) (fun _ _ _ h=>h) (by rfl) (by rintro w' ⟨s0,s1⟩;go_simp;with_reducible rfl) (by simp only [Act.put,sI,sZ,sS,i64_w,i32_w];rfl) ?_
    refine pz 12 9 #[tT,tT,tT,tT,tT,tT,fF,tT,tT,tT,fF,fF,fF,fF,fF,fF,fF,fF,fF,fF,fF,fF,fF,fF,fF,fF] HT_ rfl rfl (by kernel_rfl) (fun _ _ _ h=>h) (by rfl) (by intro w';go_simp;with_reducible rfl) (by simp only [Act.put,sI,sZ,sS,i64_w,i32_w];rfl) ?_
    refine pz 13 10 #[tT,tT,tT,tT,tT,tT,fF,tT,tT,tT,tT,fF,fF,fF,fF,fF,fF,fF,fF,fF,fF,fF,fF,fF,fF,fF] HT_ rfl rfl (by kernel_rfl) (fun _ _ _ h=>h) (by rfl) (by intro w';go_simp;with_reducible rfl) (by simp only [Act.put,sI,sZ,sS,i64_w,i32_w];rfl) ?_
    refine one_ (i:=6) (N:=some 9) #[tT,tT,tT,tT,tT,tT,tT,tT,tT,tT,tT,fF,fF,fF,fF,fF,fF,fF,fF,fF,fF,fF,fF,fF,fF,fF] rfl rfl (one_of HT_.out (by kernel_rfl)) (by decide) (fun K hK=>?_)
    refine goes_ Try.func44 (by kernel_rfl) rfl #[.string a0_1,.int .u8 42] (by rfl) rfl rfl (by (try simp only [sM,sC,sN]);first|done|rfl) ?_
    with_reducible refine (strings_IndexByte.calls a0_1 42 t423 _ A3.out).mono ?_
    rintro e w8 ⟨rfl,hb⟩
    refine ⟨_,rfl,?_⟩
    replace BK422:=kb BK422 hb;replace HB:=bs HB hb;(try clear hb)
    refine hK.out _ _ ⟨(blk_cell BK422.out 0).trans rfl,(blk_cell BK422.out 1).trans rfl⟩ (fun hHeld=>?_)
    clear hK K
    refine norm_ (a':=_) (by show Act.put _ _ _=_;simp only [Act.put,sI,sZ,sS,i64_w,i32_w];rfl) ?_
    refine pz 14 11 #[tT,tT,tT,tT,tT,tT,tT,tT,tT,tT,tT,tT,fF,fF,fF,fF,fF,fF,fF,fF,fF,fF,fF,fF,fF,fF] HT_ rfl rfl (by kernel_rfl) (fun _ _ _ h=>h) (by rfl) (by intro w';go_simp;with_reducible rfl) (by simp only [Act.put,sI,sZ,sS,i64_w,i32_w];rfl) ?_
    refine pz 15 12 #[tT,tT,tT,tT,tT,tT,tT,tT,tT,tT,tT,tT,tT,fF,fF,fF,fF,fF,fF,fF,fF,fF,fF,fF,fF,fF] HT_ rfl rfl (by kernel_rfl) (fun _ _ _ h=>h) (by rfl) (by intro w';go_simp;with_reducible rfl) (by simp only [Act.put,sI,sZ,sS,i64_w,i32_w];rfl) ?_
    refine pz 16 13 #[tT,tT,tT,tT,tT,tT,tT,tT,tT,tT,tT,tT,tT,tT,fF,fF,fF,fF,fF,fF,fF,fF,fF,fF,fF,fF] HT_ rfl rfl (by kernel_rfl) (fun _ _ _ h=>h) (by rfl) (by intro w';go_simp;with_reducible rfl) (by simp only [Act.put,sI,sZ,sS,i64_w,i32_w];rfl) ?_
    refine pz 17 14 #[tT,tT,tT,tT,tT,tT,tT,tT,tT,tT,tT,tT,tT,tT,tT,fF,fF,fF,fF,fF,fF,fF,fF,fF,fF,fF] HT_ rfl rfl (by kernel_rfl) (fun _ _ _ h=>h) (by rfl) (by intro w';go_simp;with_reducible rfl) (by simp only [Act.put,sI,sZ,sS,i64_w,i32_w];rfl) ?_
    refine tz 18 15 #[tT,tT,tT,tT,tT,tT,tT,tT,tT,tT,tT,tT,tT,tT,tT,tT,fF,fF,fF,fF,fF,fF,fF,fF,fF,fF] HT_ HW_ hHeld rfl rfl (by kernel_rfl) (fun _ _ _ h=>h) (by rfl) (by rintro w' ⟨s0,s1⟩;go_simp;with_reducible rfl) (by simp only [Act.put,sI,sZ,sS,i64_w,i32_w];rfl) ?_
    refine pz 19 16 #[tT,tT,tT,tT,tT,tT,tT,tT,tT,tT,tT,tT,tT,tT,tT,tT,tT,fF,fF,fF,fF,fF,fF,fF,fF,fF] HT_ rfl rfl (by kernel_rfl) (fun _ _ _ h=>h) (by rfl) (by intro w';go_simp;with_reducible rfl) (by simp only [Act.put,sI,sZ,sS,i64_w,i32_w];rfl) ?_
    refine pz 20 17 #[tT,tT,tT,tT,tT,tT,tT,tT,tT,tT,tT,tT,tT,tT,tT,tT,tT,tT,fF,fF,fF,fF,fF,fF,fF,fF] HT_ rfl rfl (by kernel_rfl) (fun _ _ _ h=>h) (by rfl) (by intro w';go_simp;with_reducible rfl) (by simp only [Act.put,sI,sZ,sS,i64_w,i32_w];rfl) ?_
    refine pz 21 18 #[tT,tT,tT,tT,tT,tT,tT,tT,tT,tT,tT,tT,tT,tT,tT,tT,tT,tT,tT,fF,fF,fF,fF,fF,fF,fF] HT_ rfl rfl (by kernel_rfl) (fun _ _ _ h=>h) (by rfl) (by intro w';go_simp;with_reducible rfl) (by simp only [Act.put,sI,sZ,sS,i64_w,i32_w];rfl) ?_
    refine pu 22 19 #[tT,tT,tT,tT,tT,tT,tT,tT,tT,tT,tT,tT,tT,tT,tT,tT,tT,tT,tT,tT,fF,fF,fF,fF,fF,fF] HT_ rfl rfl (by kernel_rfl) (fun _ _ _ h=>h) (by rfl) (by simp only [Act.put,sI,sZ,sS,i64_w,i32_w];rfl) ?_
    refine pu 23 20 #[tT,tT,tT,tT,tT,tT,tT,tT,tT,tT,tT,tT,tT,tT,tT,tT,tT,tT,tT,tT,tT,fF,fF,fF,fF,fF] HT_ rfl rfl (by kernel_rfl) (fun _ _ _ h=>h) (by rfl) (by simp only [Act.put,sI,sZ,sS,i64_w,i32_w];rfl) ?_
    refine pu 24 21 #[tT,tT,tT,tT,tT,tT,tT,tT,tT,tT,tT,tT,tT,tT,tT,tT,tT,tT,tT,tT,tT,tT,fF,fF,fF,fF] HT_ rfl rfl (by kernel_rfl) (fun _ _ _ h=>h) (by rfl) (by simp only [Act.put,sI,sZ,sS,i64_w,i32_w];rfl) ?_
    refine pu 25 22 #[tT,tT,tT,tT,tT,tT,tT,tT,tT,tT,tT,tT,tT,tT,tT,tT,tT,tT,tT,tT,tT,tT,tT,fF,fF,fF] HT_ rfl rfl (by kernel_rfl) (fun _ _ _ h=>h) (by rfl) (by simp only [Act.put,sI,sZ,sS,i64_w,i32_w];rfl) ?_
    refine pz 26 23 #[tT,tT,tT,tT,tT,tT,tT,tT,tT,tT,tT,tT,tT,tT,tT,tT,tT,tT,tT,tT,tT,tT,tT,tT,fF,fF] HT_ rfl rfl (by kernel_rfl) (fun _ _ _ h=>h) (by rfl) (by intro w';go_simp;with_reducible rfl) (by simp only [Act.put,sI,sZ,sS,i64_w,i32_w];rfl) ?_
    refine pz 27 24 #[tT,tT,tT,tT,tT,tT,tT,tT,tT,tT,tT,tT,tT,tT,tT,tT,tT,tT,tT,tT,tT,tT,tT,tT,tT,fF] HT_ rfl rfl (by kernel_rfl) (fun _ _ _ h=>h) (by rfl) (by intro w';go_simp;with_reducible rfl) (by simp only [Act.put,sI,sZ,sS,i64_w,i32_w];rfl) ?_
    refine pz 2 25 #[tT,tT,tT,tT,tT,tT,tT,tT,tT,tT,tT,tT,tT,tT,tT,tT,tT,tT,tT,tT,tT,tT,tT,tT,tT,tT] HT_ rfl rfl (by kernel_rfl) (fun _ _ _ h=>h) (by rfl) (by intro w';go_simp;with_reducible rfl) (by simp only [Act.put,sI,sZ,sS,i64_w,i32_w];rfl) ?_
    refine done_ (done_of HT_.out (by kernel_rfl)) ?_
    try go_wp2
    go_ret
    exact ⟨rfl,bb HB⟩
   ·rw [if_neg c5] at H
    have c5b0:((a0_1.size:Int) == 1) = false:=beq_eq_false_iff_ne.mpr c5
    have c5b1:((a0_1.size:Int) != 1) = true:=bne_iff_ne.mpr c5
    by_cases c9:0 < (a0_1.size:Int)
    ·rw [if_pos c9] at H
     have c9b0:decide (0 < (a0_1.size:Int)) = true:=decide_eq_true c9
     have c9b1:decide (0 < a0_1.size) = true:=decide_eq_true (by omega)
     clear c9
     obtain rfl:=Option.some.inj H
     go_enter Try.func21,Try.ntmps21
     try go_wp2_with (first|((with_reducible refine gate_dst (N:=1) rfl ?_);(try (refine gate_guard (by rfl) ?_;dsimp only));refine box_event rfl (N:=1) rfl (cs:=#[.string a0_0,.string a0_1]) (t:=25) (by first|(go_simp;done)|(go_simp;rfl)) ?_;intro gb422 hg w11 hbox hb;have BK422:=aM (hbox);have GW422:=wl hg HB;have GE422:=wl hg HB;replace HB:=bs HB hb;clear hb hbox hg))
     replace BK422:=aM (yD BK422.out);replace HB:=aM (zD HB.out)
     refine start_ (n:=26) (S:=fun w'=>w'.cell? ⟨gb422,0,none⟩ = some (.string a0_0) ∧ w'.cell? ⟨gb422,1,none⟩ = some (.string a0_1)) (ds:=[]) #[fF,fF,fF,fF,fF,fF,fF,fF,fF,fF,fF,fF,fF,fF,fF,fF,fF,fF,fF,fF,fF,fF,fF,fF,fF,fF] (by kernel_rfl) rfl rfl ⟨(blk_cell BK422.out 0).trans rfl,(blk_cell BK422.out 1).trans rfl⟩ (fun hHeld=>?_);refine with_tabW impl_Sequence_isStar.tab1 impl_Sequence_isStar.bits1 (fun HT_ HW_=>?_)
     generalize w11.drew = w12 at BK422 HB hHeld ⊢
     refine pz 3 0 #[tT,fF,fF,fF,fF,fF,fF,fF,fF,fF,fF,fF,fF,fF,fF,fF,fF,fF,fF,fF,fF,fF,fF,fF,fF,fF] HT_ rfl rfl (by kernel_rfl) (fun _ _ _ h=>h) (by rfl) (by intro w';go_simp;with_reducible rfl) (by simp only [Act.put,sI,sZ,sS,i64_w,i32_w];rfl) ?_
     refine tz 4 1 #[tT,tT,fF,fF,fF,fF,fF,fF,fF,fF,fF,fF,fF,fF,fF,fF,fF,fF,fF,fF,fF,fF,fF,fF,fF,fF] HT_ HW_ hHeld rfl rfl (by kernel_rfl) (fun _ _ _ h=>h) (by rfl) (by rintro w' ⟨s0,s1⟩;go_simp;with_reducible rfl) (by simp only [Act.put,sI,sZ,sS,i64_w,i32_w];rfl) ?_
     refine pz 5 2 #[tT,tT,tT,fF,fF,fF,fF,fF,fF,fF,fF,fF,fF,fF,fF,fF,fF,fF,fF,fF,fF,fF,fF,fF,fF,fF] HT_ rfl rfl (by kernel_rfl) (fun _ _ _ h=>h) (by rfl) (by intro w';go_simp;with_reducible rfl) (by simp only [Act.put,sI,sZ,sS,i64_w,i32_w];rfl) ?_
     refine pz 6 3 #[tT,tT,tT,tT,fF,fF,fF,fF,fF,fF,fF,fF,fF,fF,fF,fF,fF,fF,fF,fF,fF,fF,fF,fF,fF,fF] HT_ rfl rfl (by kernel_rfl) (fun _ _ _ h=>h) (by rfl) (by intro w';go_simp;with_reducible rfl) (by simp only [Act.put,sI,sZ,sS,i64_w,i32_w];rfl) ?_
     refine pz 7 4 #[tT,tT,tT,tT,tT,fF,fF,fF,fF,fF,fF,fF,fF,fF,fF,fF,fF,fF,fF,fF,fF,fF,fF,fF,fF,fF] HT_ rfl rfl (by kernel_rfl) (fun _ _ _ h=>h) (by rfl) (by intro w';go_simp;with_reducible rfl) (by simp only [Act.put,sI,sZ,sS,i64_w,i32_w];rfl) ?_
     refine pz 10 7 #[tT,tT,tT,tT,tT,fF,fF,tT,fF,fF,fF,fF,fF,fF,fF,fF,fF,fF,fF,fF,fF,fF,fF,fF,fF,fF] HT_ rfl rfl (by kernel_rfl) (fun _ _ _ h=>h) (by rfl) (by intro w';go_simp;with_reducible rfl) (by simp only [Act.put,sI,sZ,sS,i64_w,i32_w];rfl) ?_
     refine tz 8 5 #[tT,tT,tT,tT,tT,tT,fF,tT,fF,fF,fF,fF,fF,fF,fF,fF,fF,fF,fF,fF,fF,fF,fF,fF,fF,fF] HT_ HW_ hHeld rfl rfl (by kernel_rfl) (fun _ _ _ h=>h) (by rfl) (by rintro w' ⟨s0,s1⟩;go_simp;with_reducible rfl) (by simp only [Act.put,sI,sZ,sS,i64_w,i32_w];rfl) ?_
     refine tz 11 8 #[tT,tT,tT,tT,tT,tT,fF,tT,tT,fF,fF,fF,fF,fF,fF,fF,fF,fF,fF,fF,fF,fF,fF,fF,fF,fF] HT_ HW_ hHeld rfl rfl (by kernel_rfl) (fun _ _ _ h=>h) (by rfl) (by rintro w' ⟨s0,s1⟩;go_simp;with_reducible rfl) (by simp only [Act.put,sI,sZ,sS,i64_w,i32_w];rfl) ?_
     refine pz 12 9 #[tT,tT,tT,tT,tT,tT,fF,tT,tT,tT,fF,fF,fF,fF,fF,fF,fF,fF,fF,fF,fF,fF,fF,fF,fF,fF] HT_ rfl rfl (by kernel_rfl) (fun _ _ _ h=>h) (by rfl) (by intro w';go_simp;with_reducible rfl) (by simp only [Act.put,sI,sZ,sS,i64_w,i32_w];rfl) ?_
     refine pz 13 10 #[tT,tT,tT,tT,tT,tT,fF,tT,tT,tT,tT,fF,fF,fF,fF,fF,fF,fF,fF,fF,fF,fF,fF,fF,fF,fF] HT_ rfl rfl (by kernel_rfl) (fun _ _ _ h=>h) (by rfl) (by intro w';go_simp;with_reducible rfl) (by simp only [Act.put,sI,sZ,sS,i64_w,i32_w];rfl) ?_
     refine one_ (i:=6) (N:=some 9) #[tT,tT,tT,tT,tT,tT,tT,tT,tT,tT,tT,fF,fF,fF,fF,fF,fF,fF,fF,fF,fF,fF,fF,fF,fF,fF] rfl rfl (one_of HT_.out (by kernel_rfl)) (by decide) (fun K hK=>?_)
     refine goes_ Try.func44 (by kernel_rfl) rfl #[.string a0_1,.int .u8 42] (by rfl) rfl rfl (by (try simp only [sM,sC,sN]);first|done|rfl) ?_
     with_reducible refine (strings_IndexByte.calls a0_1 42 t423 _ A3.out).mono ?_
     rintro e w13 ⟨rfl,hb⟩
     refine ⟨_,rfl,?_⟩
     replace BK422:=kb BK422 hb;replace HB:=bs HB hb;(try clear hb)
     have p10:0 ≤ (0:Int):=(by omega)
     have q10:0 < a0_1.size:=(by have:(0:Int) < (a0_1.size:Int):=of_decide_eq_true (by assumption);omega)
     have hx10:∀ h:0 < a0_1.size,((a0_1[0]'h).toNat:Int) = bt a0_1 0:=bt_at a0_1 0
     clear p10
     have qi10:(0 < (a0_1.size:Int)) = True:=eq_true (of_decide_eq_true (by assumption))
     replace q10:=eq_true q10
     refine hK.out _ _ ⟨(blk_cell BK422.out 0).trans rfl,(blk_cell BK422.out 1).trans rfl⟩ (fun hHeld=>?_)
     clear hK K
     refine norm_ (a':=_) (by show Act.put _ _ _=_;simp only [Act.put,sI,sZ,sS,i64_w,i32_w];rfl) ?_
     refine pz 14 11 #[tT,tT,tT,tT,tT,tT,tT,tT,tT,tT,tT,tT,fF,fF,fF,fF,fF,fF,fF,fF,fF,fF,fF,fF,fF,fF] HT_ rfl rfl (by kernel_rfl) (fun _ _ _ h=>h) (by rfl) (by intro w';go_simp;with_reducible rfl) (by simp only [Act.put,sI,sZ,sS,i64_w,i32_w];rfl) ?_
     refine pz 15 12 #[tT,tT,tT,tT,tT,tT,tT,tT,tT,tT,tT,tT,tT,fF,fF,fF,fF,fF,fF,fF,fF,fF,fF,fF,fF,fF] HT_ rfl rfl (by kernel_rfl) (fun _ _ _ h=>h) (by rfl) (by intro w';go_simp;with_reducible rfl) (by simp only [Act.put,sI,sZ,sS,i64_w,i32_w];rfl) ?_
     refine pz 16 13 #[tT,tT,tT,tT,tT,tT,tT,tT,tT,tT,tT,tT,tT,tT,fF,fF,fF,fF,fF,fF,fF,fF,fF,fF,fF,fF] HT_ rfl rfl (by kernel_rfl) (fun _ _ _ h=>h) (by rfl) (by intro w';go_simp;with_reducible rfl) (by simp only [Act.put,sI,sZ,sS,i64_w,i32_w];rfl) ?_
     refine pz 17 14 #[tT,tT,tT,tT,tT,tT,tT,tT,tT,tT,tT,tT,tT,tT,tT,fF,fF,fF,fF,fF,fF,fF,fF,fF,fF,fF] HT_ rfl rfl (by kernel_rfl) (fun _ _ _ h=>h) (by rfl) (by intro w';go_simp;with_reducible rfl) (by simp only [Act.put,sI,sZ,sS,i64_w,i32_w];rfl) ?_
     refine tz 18 15 #[tT,tT,tT,tT,tT,tT,tT,tT,tT,tT,tT,tT,tT,tT,tT,tT,fF,fF,fF,fF,fF,fF,fF,fF,fF,fF] HT_ HW_ hHeld rfl rfl (by kernel_rfl) (fun _ _ _ h=>h) (by rfl) (by rintro w' ⟨s0,s1⟩;go_simp;with_reducible rfl) (by simp only [Act.put,sI,sZ,sS,i64_w,i32_w];rfl) ?_
     refine pz 19 16 #[tT,tT,tT,tT,tT,tT,tT,tT,tT,tT,tT,tT,tT,tT,tT,tT,tT,fF,fF,fF,fF,fF,fF,fF,fF,fF] HT_ rfl rfl (by kernel_rfl) (fun _ _ _ h=>h) (by rfl) (by intro w';go_simp;with_reducible rfl) (by simp only [Act.put,sI,sZ,sS,i64_w,i32_w];rfl) ?_
     refine pz 20 17 #[tT,tT,tT,tT,tT,tT,tT,tT,tT,tT,tT,tT,tT,tT,tT,tT,tT,tT,fF,fF,fF,fF,fF,fF,fF,fF] HT_ rfl rfl (by kernel_rfl) (fun _ _ _ h=>h) (by rfl) (by intro w';go_simp;with_reducible rfl) (by simp only [Act.put,sI,sZ,sS,i64_w,i32_w];rfl) ?_
     refine pz 21 18 #[tT,tT,tT,tT,tT,tT,tT,tT,tT,tT,tT,tT,tT,tT,tT,tT,tT,tT,tT,fF,fF,fF,fF,fF,fF,fF] HT_ rfl rfl (by kernel_rfl) (fun _ _ _ h=>h) (by rfl) (by intro w';go_simp;with_reducible rfl) (by simp only [Act.put,sI,sZ,sS,i64_w,i32_w];rfl) ?_
     refine pz 22 19 #[tT,tT,tT,tT,tT,tT,tT,tT,tT,tT,tT,tT,tT,tT,tT,tT,tT,tT,tT,tT,fF,fF,fF,fF,fF,fF] HT_ rfl rfl (by kernel_rfl) (fun _ _ _ h=>h) (by rfl) (by intro w';go_simp;with_reducible rfl) (by simp only [Act.put,sI,sZ,sS,i64_w,i32_w];rfl) ?_
     refine tz 23 20 #[tT,tT,tT,tT,tT,tT,tT,tT,tT,tT,tT,tT,tT,tT,tT,tT,tT,tT,tT,tT,tT,fF,fF,fF,fF,fF] HT_ HW_ hHeld rfl rfl (by kernel_rfl) (fun _ _ _ h=>h) (by rfl) (by rintro w' ⟨s0,s1⟩;go_simp;with_reducible rfl) (by simp only [Act.put,sI,sZ,sS,i64_w,i32_w];rfl) ?_
     refine tz 24 21 #[tT,tT,tT,tT,tT,tT,tT,tT,tT,tT,tT,tT,tT,tT,tT,tT,tT,tT,tT,tT,tT,tT,fF,fF,fF,fF] HT_ HW_ hHeld rfl rfl (by kernel_rfl) (fun _ _ _ h=>h) (by rfl) (by rintro w' ⟨s0,s1⟩;go_simp;with_reducible rfl) (by simp only [Act.put,sI,sZ,sS,i64_w,i32_w];rfl) ?_
     refine pz 25 22 #[tT,tT,tT,tT,tT,tT,tT,tT,tT,tT,tT,tT,tT,tT,tT,tT,tT,tT,tT,tT,tT,tT,tT,fF,fF,fF] HT_ rfl rfl (by kernel_rfl) (fun _ _ _ h=>h) (by rfl) (by intro w';go_simp;with_reducible rfl) (by simp only [Act.put,sI,sZ,sS,i64_w,i32_w];rfl) ?_
     refine pz 26 23 #[tT,tT,tT,tT,tT,tT,tT,tT,tT,tT,tT,tT,tT,tT,tT,tT,tT,tT,tT,tT,tT,tT,tT,tT,fF,fF] HT_ rfl rfl (by kernel_rfl) (fun _ _ _ h=>h) (by rfl) (by intro w';go_simp;with_reducible rfl) (by simp only [Act.put,sI,sZ,sS,i64_w,i32_w];rfl) ?_
     refine pz 27 24 #[tT,tT,tT,tT,tT,tT,tT,tT,tT,tT,tT,tT,tT,tT,tT,tT,tT,tT,tT,tT,tT,tT,tT,tT,tT,fF] HT_ rfl rfl (by kernel_rfl) (fun _ _ _ h=>h) (by rfl) (by intro w';go_simp;with_reducible rfl) (by simp only [Act.put,sI,sZ,sS,i64_w,i32_w];rfl) ?_
     refine pz 2 25 #[tT,tT,tT,tT,tT,tT,tT,tT,tT,tT,tT,tT,tT,tT,tT,tT,tT,tT,tT,tT,tT,tT,tT,tT,tT,tT] HT_ rfl rfl (by kernel_rfl) (fun _ _ _ h=>h) (by rfl) (by intro w';go_simp;with_reducible rfl) (by simp only [Act.put,sI,sZ,sS,i64_w,i32_w];rfl) ?_
     refine done_ (done_of HT_.out (by kernel_rfl)) ?_
     try go_wp2
     go_ret
     exact ⟨rfl,bb HB⟩
    ·rw [if_neg c9] at H
     exact absurd H (by simp)
  ·rw [if_neg c4] at H
   have c4b0:(t423 == (wrap64 ((a0_1.size:Int) - 1))) = false:=beq_eq_false_iff_ne.mpr c4
   have c4b1:(t423 != (wrap64 ((a0_1.size:Int) - 1))) = true:=bne_iff_ne.mpr c4
   obtain rfl:=Option.some.inj H
   go_enter Try.func21,Try.ntmps21
   try go_wp2_with (first|((with_reducible refine gate_dst (N:=1) rfl ?_);(try (refine gate_guard (by rfl) ?_;dsimp only));refine box_event rfl (N:=1) rfl (cs:=#[.string a0_0,.string a0_1]) (t:=25) (by first|(go_simp;done)|(go_simp;rfl)) ?_;intro gb422 hg w14 hbox hb;have BK422:=aM (hbox);have GW422:=wl hg HB;have GE422:=wl hg HB;replace HB:=bs HB hb;clear hb hbox hg))
   replace BK422:=aM (yD BK422.out);replace HB:=aM (zD HB.out)
   refine start_ (n:=26) (S:=fun w'=>w'.cell? ⟨gb422,0,none⟩ = some (.string a0_0) ∧ w'.cell? ⟨gb422,1,none⟩ = some (.string a0_1)) (ds:=[]) #[fF,fF,fF,fF,fF,fF,fF,fF,fF,fF,fF,fF,fF,fF,fF,fF,fF,fF,fF,fF,fF,fF,fF,fF,fF,fF] (by kernel_rfl) rfl rfl ⟨(blk_cell BK422.out 0).trans rfl,(blk_cell BK422.out 1).trans rfl⟩ (fun hHeld=>?_);refine with_tabW impl_Sequence_isStar.tab1 impl_Sequence_isStar.bits1 (fun HT_ HW_=>?_)
   generalize w14.drew = w15 at BK422 HB hHeld ⊢
   refine pz 3 0 #[tT,fF,fF,fF,fF,fF,fF,fF,fF,fF,fF,fF,fF,fF,fF,fF,fF,fF,fF,fF,fF,fF,fF,fF,fF,fF] HT_ rfl rfl (by kernel_rfl) (fun _ _ _ h=>h) (by rfl) (by intro w';go_simp;with_reducible rfl) (by simp only [Act.put,sI,sZ,sS,i64_w,i32_w];rfl) ?_
   refine tz 4 1 #[tT,tT,fF,fF,fF,fF,fF,fF,fF,fF,fF,fF,fF,fF,fF,fF,fF,fF,fF,fF,fF,fF,fF,fF,fF,fF] HT_ HW_ hHeld rfl rfl (by kernel_rfl) (fun _ _ _ h=>h) (by rfl) (by rintro w' ⟨s0,s1⟩;go_simp;with_reducible rfl) (by simp only [Act.put,sI,sZ,sS,i64_w,i32_w];rfl) ?_
   refine pz 5 2 #[tT,tT,tT,fF,fF,fF,fF,fF,fF,fF,fF,fF,fF,fF,fF,fF,fF,fF,fF,fF,fF,fF,fF,fF,fF,fF] HT_ rfl rfl (by kernel_rfl) (fun _ _ _ h=>h) (by rfl) (by intro w';go_simp;with_reducible rfl) (by simp only [Act.put,sI,sZ,sS,i64_w,i32_w];rfl) ?_
   refine pz 6 3 #[tT,tT,tT,tT,fF,fF,fF,fF,fF,fF,fF,fF,fF,fF,fF,fF,fF,fF,fF,fF,fF,fF,fF,fF,fF,fF] HT_ rfl rfl (by kernel_rfl) (fun _ _ _ h=>h) (by rfl) (by intro w';go_simp;with_reducible rfl) (by simp only [Act.put,sI,sZ,sS,i64_w,i32_w];rfl) ?_
   refine pz 7 4 #[tT,tT,tT,tT,tT,fF,fF,fF,fF,fF,fF,fF,fF,fF,fF,fF,fF,fF,fF,fF,fF,fF,fF,fF,fF,fF] HT_ rfl rfl (by kernel_rfl) (fun _ _ _ h=>h) (by rfl) (by intro w';go_simp;with_reducible rfl) (by simp only [Act.put,sI,sZ,sS,i64_w,i32_w];rfl) ?_
   refine pz 10 7 #[tT,tT,tT,tT,tT,fF,fF,tT,fF,fF,fF,fF,fF,fF,fF,fF,fF,fF,fF,fF,fF,fF,fF,fF,fF,fF] HT_ rfl rfl (by kernel_rfl) (fun _ _ _ h=>h) (by rfl) (by intro w';go_simp;with_reducible rfl) (by simp only [Act.put,sI,sZ,sS,i64_w,i32_w];rfl) ?_
   refine tz 8 5 #[tT,tT,tT,tT,tT,tT,fF,tT,fF,fF,fF,fF,fF,fF,fF,fF,fF,fF,fF,fF,fF,fF,fF,fF,fF,fF] HT_ HW_ hHeld rfl rfl (by kernel_rfl) (fun _ _ _ h=>h) (by rfl) (by rintro w' ⟨s0,s1⟩;go_simp;with_reducible rfl) (by simp only [Act.put,sI,sZ,sS,i64_w,i32_w];rfl) ?_
   refine tz 11 8 #[tT,tT,tT,tT,tT,tT,fF,tT,tT,fF,fF,fF,fF,fF,fF,fF,fF,fF,fF,fF,fF,fF,fF,fF,fF,fF] HT_ HW_ hHeld rfl rfl (by kernel_rfl) (fun _ _ _ h=>h) (by rfl) (by rintro w' ⟨s0,s1⟩;go_simp;with_reducible rfl) (by simp only [Act.put,sI,sZ,sS,i64_w,i32_w];rfl) ?_
   refine pz 12 9 #[tT,tT,tT,tT,tT,tT,fF,tT,tT,tT,fF,fF,fF,fF,fF,fF,fF,fF,fF,fF,fF,fF,fF,fF,fF,fF] HT_ rfl rfl (by kernel_rfl) (fun _ _ _ h=>h) (by rfl) (by intro w';go_simp;with_reducible rfl) (by simp only [Act.put,sI,sZ,sS,i64_w,i32_w];rfl) ?_
   refine pz 13 10 #[tT,tT,tT,tT,tT,tT,fF,tT,tT,tT,tT,fF,fF,fF,fF,fF,fF,fF,fF,fF,fF,fF,fF,fF,fF,fF] HT_ rfl rfl (by kernel_rfl) (fun _ _ _ h=>h) (by rfl) (by intro w';go_simp;with_reducible rfl) (by simp only [Act.put,sI,sZ,sS,i64_w,i32_w];rfl) ?_
   refine one_ (i:=6) (N:=some 9) #[tT,tT,tT,tT,tT,tT,tT,tT,tT,tT,tT,fF,fF,fF,fF,fF,fF,fF,fF,fF,fF,fF,fF,fF,fF,fF] rfl rfl (one_of HT_.out (by kernel_rfl)) (by decide) (fun K hK=>?_)
   refine goes_ Try.func44 (by kernel_rfl) rfl #[.string a0_1,.int .u8 42] (by rfl) rfl rfl (by (try simp only [sM,sC,sN]);first|done|rfl) ?_
   with_reducible refine (strings_IndexByte.calls a0_1 42 t423 _ A3.out).mono ?_
   rintro e w16 ⟨rfl,hb⟩
   refine ⟨_,rfl,?_⟩
   replace BK422:=kb BK422 hb;replace HB:=bs HB hb;(try clear hb)
   refine hK.out _ _ ⟨(blk_cell BK422.out 0).trans rfl,(blk_cell BK422.out 1).trans rfl⟩ (fun hHeld=>?_)
   clear hK K
   refine norm_ (a':=_) (by show Act.put _ _ _=_;simp only [Act.put,sI,sZ,sS,i64_w,i32_w];rfl) ?_
   refine pz 14 11 #[tT,tT,tT,tT,tT,tT,tT,tT,tT,tT,tT,tT,fF,fF,fF,fF,fF,fF,fF,fF,fF,fF,fF,fF,fF,fF] HT_ rfl rfl (by kernel_rfl) (fun _ _ _ h=>h) (by rfl) (by intro w';go_simp;with_reducible rfl) (by simp only [Act.put,sI,sZ,sS,i64_w,i32_w];rfl) ?_
   refine pz 15 12 #[tT,tT,tT,tT,tT,tT,tT,tT,tT,tT,tT,tT,tT,fF,fF,fF,fF,fF,fF,fF,fF,fF,fF,fF,fF,fF] HT_ rfl rfl (by kernel_rfl) (fun _ _ _ h=>h) (by rfl) (by intro w';go_simp;with_reducible rfl) (by simp only [Act.put,sI,sZ,sS,i64_w,i32_w];rfl) ?_
   refine pz 16 13 #[tT,tT,tT,tT,tT,tT,tT,tT,tT,tT,tT,tT,tT,tT,fF,fF,fF,fF,fF,fF,fF,fF,fF,fF,fF,fF] HT_ rfl rfl (by kernel_rfl) (fun _ _ _ h=>h) (by rfl) (by intro w';go_simp;with_reducible rfl) (by simp only [Act.put,sI,sZ,sS,i64_w,i32_w];rfl) ?_
   refine pu 17 14 #[tT,tT,tT,tT,tT,tT,tT,tT,tT,tT,tT,tT,tT,tT,tT,fF,fF,fF,fF,fF,fF,fF,fF,fF,fF,fF] HT_ rfl rfl (by kernel_rfl) (fun _ _ _ h=>h) (by rfl) (by simp only [Act.put,sI,sZ,sS,i64_w,i32_w];rfl) ?_
   refine pu 18 15 #[tT,tT,tT,tT,tT,tT,tT,tT,tT,tT,tT,tT,tT,tT,tT,tT,fF,fF,fF,fF,fF,fF,fF,fF,fF,fF] HT_ rfl rfl (by kernel_rfl) (fun _ _ _ h=>h) (by rfl) (by simp only [Act.put,sI,sZ,sS,i64_w,i32_w];rfl) ?_
   refine pu 19 16 #[tT,tT,tT,tT,tT,tT,tT,tT,tT,tT,tT,tT,tT,tT,tT,tT,tT,fF,fF,fF,fF,fF,fF,fF,fF,fF] HT_ rfl rfl (by kernel_rfl) (fun _ _ _ h=>h) (by rfl) (by simp only [Act.put,sI,sZ,sS,i64_w,i32_w];rfl) ?_
   refine pu 20 17 #[tT,tT,tT,tT,tT,tT,tT,tT,tT,tT,tT,tT,tT,tT,tT,tT,tT,tT,fF,fF,fF,fF,fF,fF,fF,fF] HT_ rfl rfl (by kernel_rfl) (fun _ _ _ h=>h) (by rfl) (by simp only [Act.put,sI,sZ,sS,i64_w,i32_w];rfl) ?_
   refine pu 21 18 #[tT,tT,tT,tT,tT,tT,tT,tT,tT,tT,tT,tT,tT,tT,tT,tT,tT,tT,tT,fF,fF,fF,fF,fF,fF,fF] HT_ rfl rfl (by kernel_rfl) (fun _ _ _ h=>h) (by rfl) (by simp only [Act.put,sI,sZ,sS,i64_w,i32_w];rfl) ?_
   refine pu 22 19 #[tT,tT,tT,tT,tT,tT,tT,tT,tT,tT,tT,tT,tT,tT,tT,tT,tT,tT,tT,tT,fF,fF,fF,fF,fF,fF] HT_ rfl rfl (by kernel_rfl) (fun _ _ _ h=>h) (by rfl) (by simp only [Act.put,sI,sZ,sS,i64_w,i32_w];rfl) ?_
   refine pu 23 20 #[tT,tT,tT,tT,tT,tT,tT,tT,tT,tT,tT,tT,tT,tT,tT,tT,tT,tT,tT,tT,tT,fF,fF,fF,fF,fF] HT_ rfl rfl (by kernel_rfl) (fun _ _ _ h=>h) (by rfl) (by simp only [Act.put,sI,sZ,sS,i64_w,i32_w];rfl) ?_
   refine pu 24 21 #[tT,tT,tT,tT,tT,tT,tT,tT,tT,tT,tT,tT,tT,tT,tT,tT,tT,tT,tT,tT,tT,tT,fF,fF,fF,fF] HT_ rfl rfl (by kernel_rfl) (fun _ _ _ h=>h) (by rfl) (by simp only [Act.put,sI,sZ,sS,i64_w,i32_w];rfl) ?_
   refine pu 25 22 #[tT,tT,tT,tT,tT,tT,tT,tT,tT,tT,tT,tT,tT,tT,tT,tT,tT,tT,tT,tT,tT,tT,tT,fF,fF,fF] HT_ rfl rfl (by kernel_rfl) (fun _ _ _ h=>h) (by rfl) (by simp only [Act.put,sI,sZ,sS,i64_w,i32_w];rfl) ?_
   refine pu 26 23 #[tT,tT,tT,tT,tT,tT,tT,tT,tT,tT,tT,tT,tT,tT,tT,tT,tT,tT,tT,tT,tT,tT,tT,tT,fF,fF] HT_ rfl rfl (by kernel_rfl) (fun _ _ _ h=>h) (by rfl) (by simp only [Act.put,sI,sZ,sS,i64_w,i32_w];rfl) ?_
   refine pz 27 24 #[tT,tT,tT,tT,tT,tT,tT,tT,tT,tT,tT,tT,tT,tT,tT,tT,tT,tT,tT,tT,tT,tT,tT,tT,tT,fF] HT_ rfl rfl (by kernel_rfl) (fun _ _ _ h=>h) (by rfl) (by intro w';go_simp;with_reducible rfl) (by simp only [Act.put,sI,sZ,sS,i64_w,i32_w];rfl) ?_
   refine pz 2 25 #[tT,tT,tT,tT,tT,tT,tT,tT,tT,tT,tT,tT,tT,tT,tT,tT,tT,tT,tT,tT,tT,tT,tT,tT,tT,tT] HT_ rfl rfl (by kernel_rfl) (fun _ _ _ h=>h) (by rfl) (by intro w';go_simp;with_reducible rfl) (by simp only [Act.put,sI,sZ,sS,i64_w,i32_w];rfl) ?_
   refine done_ (done_of HT_.out (by kernel_rfl)) ?_
   try go_wp2
   go_ret
   exact ⟨rfl,bb HB⟩
 ·rw [if_neg c2] at H
  have c2b0:(a0_0.toList == ([]:List UInt8)) = false:=beq_eq_false_iff_ne.mpr c2
  have c2b1:(a0_0.toList != ([]:List UInt8)) = true:=bne_iff_ne.mpr c2
  obtain rfl:=Option.some.inj H
  go_enter Try.func21,Try.ntmps21
  try go_wp2_with (first|((with_reducible refine gate_dst (N:=1) rfl ?_);(try (refine gate_guard (by rfl) ?_;dsimp only));refine box_event rfl (N:=1) rfl (cs:=#[.string a0_0,.string a0_1]) (t:=25) (by first|(go_simp;done)|(go_simp;rfl)) ?_;intro gb422 hg w17 hbox hb;have BK422:=aM (hbox);have GW422:=wl hg HB;have GE422:=wl hg HB;replace HB:=bs HB hb;clear hb hbox hg))
  replace BK422:=aM (yD BK422.out);replace HB:=aM (zD HB.out)
  refine start_ (n:=26) (S:=fun w'=>w'.cell? ⟨gb422,0,none⟩ = some (.string a0_0) ∧ w'.cell? ⟨gb422,1,none⟩ = some (.string a0_1)) (ds:=[]) #[fF,fF,fF,fF,fF,fF,fF,fF,fF,fF,fF,fF,fF,fF,fF,fF,fF,fF,fF,fF,fF,fF,fF,fF,fF,fF] (by kernel_rfl) rfl rfl ⟨(blk_cell BK422.out 0).trans rfl,(blk_cell BK422.out 1).trans rfl⟩ (fun hHeld=>?_);refine with_tabW impl_Sequence_isStar.tab1 impl_Sequence_isStar.bits1 (fun HT_ HW_=>?_)
  generalize w17.drew = w18 at BK422 HB hHeld ⊢
  refine pz 3 0 #[tT,fF,fF,fF,fF,fF,fF,fF,fF,fF,fF,fF,fF,fF,fF,fF,fF,fF,fF,fF,fF,fF,fF,fF,fF,fF] HT_ rfl rfl (by kernel_rfl) (fun _ _ _ h=>h) (by rfl) (by intro w';go_simp;with_reducible rfl) (by simp only [Act.put,sI,sZ,sS,i64_w,i32_w];rfl) ?_
  refine tz 4 1 #[tT,tT,fF,fF,fF,fF,fF,fF,fF,fF,fF,fF,fF,fF,fF,fF,fF,fF,fF,fF,fF,fF,fF,fF,fF,fF] HT_ HW_ hHeld rfl rfl (by kernel_rfl) (fun _ _ _ h=>h) (by rfl) (by rintro w' ⟨s0,s1⟩;go_simp;with_reducible rfl) (by simp only [Act.put,sI,sZ,sS,i64_w,i32_w];rfl) ?_
  refine pz 5 2 #[tT,tT,tT,fF,fF,fF,fF,fF,fF,fF,fF,fF,fF,fF,fF,fF,fF,fF,fF,fF,fF,fF,fF,fF,fF,fF] HT_ rfl rfl (by kernel_rfl) (fun _ _ _ h=>h) (by rfl) (by intro w';go_simp;with_reducible rfl) (by simp only [Act.put,sI,sZ,sS,i64_w,i32_w];rfl) ?_
  refine pz 6 3 #[tT,tT,tT,tT,fF,fF,fF,fF,fF,fF,fF,fF,fF,fF,fF,fF,fF,fF,fF,fF,fF,fF,fF,fF,fF,fF] HT_ rfl rfl (by kernel_rfl) (fun _ _ _ h=>h) (by rfl) (by intro w';go_simp;with_reducible rfl) (by simp only [Act.put,sI,sZ,sS,i64_w,i32_w];rfl) ?_
  refine pu 7 4 #[tT,tT,tT,tT,tT,fF,fF,fF,fF,fF,fF,fF,fF,fF,fF,fF,fF,fF,fF,fF,fF,fF,fF,fF,fF,fF] HT_ rfl rfl (by kernel_rfl) (fun _ _ _ h=>h) (by rfl) (by simp only [Act.put,sI,sZ,sS,i64_w,i32_w];rfl) ?_
  refine pu 8 5 #[tT,tT,tT,tT,tT,tT,fF,fF,fF,fF,fF,fF,fF,fF,fF,fF,fF,fF,fF,fF,fF,fF,fF,fF,fF,fF] HT_ rfl rfl (by kernel_rfl) (fun _ _ _ h=>h) (by rfl) (by simp only [Act.put,sI,sZ,sS,i64_w,i32_w];rfl) ?_
  refine pu 9 6 #[tT,tT,tT,tT,tT,tT,tT,fF,fF,fF,fF,fF,fF,fF,fF,fF,fF,fF,fF,fF,fF,fF,fF,fF,fF,fF] HT_ rfl rfl (by kernel_rfl) (fun _ _ _ h=>h) (by rfl) (by simp only [Act.put,sI,sZ,sS,i64_w,i32_w];rfl) ?_
  refine pu 10 7 #[tT,tT,tT,tT,tT,tT,tT,tT,fF,fF,fF,fF,fF,fF,fF,fF,fF,fF,fF,fF,fF,fF,fF,fF,fF,fF] HT_ rfl rfl (by kernel_rfl) (fun _ _ _ h=>h) (by rfl) (by simp only [Act.put,sI,sZ,sS,i64_w,i32_w];rfl) ?_
  refine pu 11 8 #[tT,tT,tT,tT,tT,tT,tT,tT,tT,fF,fF,fF,fF,fF,fF,fF,fF,fF,fF,fF,fF,fF,fF,fF,fF,fF] HT_ rfl rfl (by kernel_rfl) (fun _ _ _ h=>h) (by rfl) (by simp only [Act.put,sI,sZ,sS,i64_w,i32_w];rfl) ?_
  refine pu 12 9 #[tT,tT,tT,tT,tT,tT,tT,tT,tT,tT,fF,fF,fF,fF,fF,fF,fF,fF,fF,fF,fF,fF,fF,fF,fF,fF] HT_ rfl rfl (by kernel_rfl) (fun _ _ _ h=>h) (by rfl) (by simp only [Act.put,sI,sZ,sS,i64_w,i32_w];rfl) ?_
  refine pu 13 10 #[tT,tT,tT,tT,tT,tT,tT,tT,tT,tT,tT,fF,fF,fF,fF,fF,fF,fF,fF,fF,fF,fF,fF,fF,fF,fF] HT_ rfl rfl (by kernel_rfl) (fun _ _ _ h=>h) (by rfl) (by simp only [Act.put,sI,sZ,sS,i64_w,i32_w];rfl) ?_
  refine pu 14 11 #[tT,tT,tT,tT,tT,tT,tT,tT,tT,tT,tT,tT,fF,fF,fF,fF,fF,fF,fF,fF,fF,fF,fF,fF,fF,fF] HT_ rfl rfl (by kernel_rfl) (fun _ _ _ h=>h) (by rfl) (by simp only [Act.put,sI,sZ,sS,i64_w,i32_w];rfl) ?_
  refine pz 15 12 #[tT,tT,tT,tT,tT,tT,tT,tT,tT,tT,tT,tT,tT,fF,fF,fF,fF,fF,fF,fF,fF,fF,fF,fF,fF,fF] HT_ rfl rfl (by kernel_rfl) (fun _ _ _ h=>h) (by rfl) (by intro w';go_simp;with_reducible rfl) (by simp only [Act.put,sI,sZ,sS,i64_w,i32_w];rfl) ?_
  refine pz 16 13 #[tT,tT,tT,tT,tT,tT,tT,tT,tT,tT,tT,tT,tT,tT,fF,fF,fF,fF,fF,fF,fF,fF,fF,fF,fF,fF] HT_ rfl rfl (by kernel_rfl) (fun _ _ _ h=>h) (by rfl) (by intro w';go_simp;with_reducible rfl) (by simp only [Act.put,sI,sZ,sS,i64_w,i32_w];rfl) ?_
  refine pu 17 14 #[tT,tT,tT,tT,tT,tT,tT,tT,tT,tT,tT,tT,tT,tT,tT,fF,fF,fF,fF,fF,fF,fF,fF,fF,fF,fF] HT_ rfl rfl (by kernel_rfl) (fun _ _ _ h=>h) (by rfl) (by simp only [Act.put,sI,sZ,sS,i64_w,i32_w];rfl) ?_
  refine pu 18 15 #[tT,tT,tT,tT,tT,tT,tT,tT,tT,tT,tT,tT,tT,tT,tT,tT,fF,fF,fF,fF,fF,fF,fF,fF,fF,fF] HT_ rfl rfl (by kernel_rfl) (fun _ _ _ h=>h) (by rfl) (by simp only [Act.put,sI,sZ,sS,i64_w,i32_w];rfl) ?_
  refine pu 19 16 #[tT,tT,tT,tT,tT,tT,tT,tT,tT,tT,tT,tT,tT,tT,tT,tT,tT,fF,fF,fF,fF,fF,fF,fF,fF,fF] HT_ rfl rfl (by kernel_rfl) (fun _ _ _ h=>h) (by rfl) (by simp only [Act.put,sI,sZ,sS,i64_w,i32_w];rfl) ?_
  refine pu 20 17 #[tT,tT,tT,tT,tT,tT,tT,tT,tT,tT,tT,tT,tT,tT,tT,tT,tT,tT,fF,fF,fF,fF,fF,fF,fF,fF] HT_ rfl rfl (by kernel_rfl) (fun _ _ _ h=>h) (by rfl) (by simp only [Act.put,sI,sZ,sS,i64_w,i32_w];rfl) ?_
  refine pu 21 18 #[tT,tT,tT,tT,tT,tT,tT,tT,tT,tT,tT,tT,tT,tT,tT,tT,tT,tT,tT,fF,fF,fF,fF,fF,fF,fF] HT_ rfl rfl (by kernel_rfl) (fun _ _ _ h=>h) (by rfl) (by simp only [Act.put,sI,sZ,sS,i64_w,i32_w];rfl) ?_
  refine pu 22 19 #[tT,tT,tT,tT,tT,tT,tT,tT,tT,tT,tT,tT,tT,tT,tT,tT,tT,tT,tT,tT,fF,fF,fF,fF,fF,fF] HT_ rfl rfl (by kernel_rfl) (fun _ _ _ h=>h) (by rfl) (by simp only [Act.put,sI,sZ,sS,i64_w,i32_w];rfl) ?_
  refine pu 23 20 #[tT,tT,tT,tT,tT,tT,tT,tT,tT,tT,tT,tT,tT,tT,tT,tT,tT,tT,tT,tT,tT,fF,fF,fF,fF,fF] HT_ rfl rfl (by kernel_rfl) (fun _ _ _ h=>h) (by rfl) (by simp only [Act.put,sI,sZ,sS,i64_w,i32_w];rfl) ?_
  refine pu 24 21 #[tT,tT,tT,tT,tT,tT,tT,tT,tT,tT,tT,tT,tT,tT,tT,tT,tT,tT,tT,tT,tT,tT,fF,fF,fF,fF] HT_ rfl rfl (by kernel_rfl) (fun _ _ _ h=>h) (by rfl) (by simp only [Act.put,sI,sZ,sS,i64_w,i32_w];rfl) ?_
  refine pu 25 22 #[tT,tT,tT,tT,tT,tT,tT,tT,tT,tT,tT,tT,tT,tT,tT,tT,tT,tT,tT,tT,tT,tT,tT,fF,fF,fF] HT_ rfl rfl (by kernel_rfl) (fun _ _ _ h=>h) (by rfl) (by simp only [Act.put,sI,sZ,sS,i64_w,i32_w];rfl) ?_
  refine pu 26 23 #[tT,tT,tT,tT,tT,tT,tT,tT,tT,tT,tT,tT,tT,tT,tT,tT,tT,tT,tT,tT,tT,tT,tT,tT,fF,fF] HT_ rfl rfl (by kernel_rfl) (fun _ _ _ h=>h) (by rfl) (by simp only [Act.put,sI,sZ,sS,i64_w,i32_w];rfl) ?_
  refine pz 27 24 #[tT,tT,tT,tT,tT,tT,tT,tT,tT,tT,tT,tT,tT,tT,tT,tT,tT,tT,tT,tT,tT,tT,tT,tT,tT,fF] HT_ rfl rfl (by kernel_rfl) (fun _ _ _ h=>h) (by rfl) (by intro w';go_simp;with_reducible rfl) (by simp only [Act.put,sI,sZ,sS,i64_w,i32_w];rfl) ?_
  refine pz 2 25 #[tT,tT,tT,tT,tT,tT,tT,tT,tT,tT,tT,tT,tT,tT,tT,tT,tT,tT,tT,tT,tT,tT,tT,tT,tT,tT] HT_ rfl rfl (by kernel_rfl) (fun _ _ _ h=>h) (by rfl) (by intro w';go_simp;with_reducible rfl) (by simp only [Act.put,sI,sZ,sS,i64_w,i32_w];rfl) ?_
  refine done_ (done_of HT_.out (by kernel_rfl)) ?_
  try go_wp2
  go_ret
  exact ⟨rfl,bb HB⟩
end Go.Proofs.Ytmhpbilkocnlnaa.Q
end
section
namespace Go.Proofs.Ytmhpbilkocnlnaa.Q
open Go.RowKit Go.Proofs.YtmhpbilkocnlnaaW.PrintWords Go.Proofs.YtmhpbilkocnlnaaW.PrintLast Go.Proofs.YtmhpbilkocnlnaaW.Ext
set_option linter.unusedVariables false
set_option linter.unusedSimpArgs false
theorem star_none (a b : ByteArray) (hb : 1 ≤ b.size) (h64 : b.size ≤ 64) (h : ∀ i : Nat, i < b.size - 1 → bt b (i : Int) ≠ 42) : ∀ d i, i + d = b.size - 1 → Ev (fun k => spec_l02Star.l0 k (b.size : Int) (i : Int) a b) true := by
  intro d
  induction d with
  | zero =>
    intro i hi
    exact Ev.step (f := fun _ => some true) (fun k => by rw [spec_l02Star.l0, wrS (x := (b.size : Int) - 1) (by omega) (by omega), if_neg (by omega)]) (Ev.now _)
  | succ d ih =>
    intro i hi
    refine Ev.step (f := fun k => spec_l02Star.l0 k (b.size : Int) ((i + 1 : Nat) : Int) a b) (fun k => ?_) (ih (i + 1) (by omega))
    rw [spec_l02Star.l0, wrS (x := (b.size : Int) - 1) (by omega) (by omega), if_pos (by omega), if_pos (by omega), if_pos (by omega), if_neg (h i (by omega)), wrS (x := (i : Int) + 1) (by omega) (by omega)]
    rfl
theorem star_some (a b : ByteArray) (hb : 1 ≤ b.size) (h64 : b.size ≤ 64) : ∀ d i, i + d = b.size - 1 → (∃ t : Nat, i ≤ t ∧ t < b.size - 1 ∧ bt b (t : Int) = 42) → Ev (fun k => spec_l02Star.l0 k (b.size : Int) (i : Int) a b) false := by
  intro d
  induction d with
  | zero =>
    intro i hi ht
    obtain ⟨t, t1, t2, _⟩ := ht
    omega
  | succ d ih =>
    intro i hi ht
    by_cases e : bt b (i : Int) = 42
    · refine Ev.step (f := fun _ => some false) (fun k => ?_) (Ev.now _)
      rw [spec_l02Star.l0, wrS (x := (b.size : Int) - 1) (by omega) (by omega), if_pos (by omega), if_pos (by omega), if_pos (by omega), if_pos e]
    · obtain ⟨t, t1, t2, t3⟩ := ht
      refine Ev.step (f := fun k => spec_l02Star.l0 k (b.size : Int) ((i + 1 : Nat) : Int) a b) (fun k => ?_) (ih (i + 1) (by omega) ⟨t, ?_, t2, t3⟩)
      · rw [spec_l02Star.l0, wrS (x := (b.size : Int) - 1) (by omega) (by omega), if_pos (by omega), if_pos (by omega), if_pos (by omega), if_neg e, wrS (x := (i : Int) + 1) (by omega) (by omega)]
        rfl
      · rcases Nat.lt_or_ge i t with g | g
        · exact g
        · have : t = i := by omega
          subst this
          exact absurd t3 e
theorem bt_star (b : ByteArray) (i : Nat) (hi : i < b.size) : bt b (i : Int) = 42 ↔ b.data.toList[i]? = some 42 := by
  have hi' : i < b.data.toList.length := by rw [← Lib.size_eq]; exact hi
  rw [List.getElem?_eq_getElem hi']
  unfold bt
  rw [Int.toNat_natCast, dif_pos hi]
  have e1 : b[i] = b.data.toList[i] := by simp [ByteArray.getElem_eq_getElem_data]
  rw [e1]
  constructor
  · intro h
    have : b.data.toList[i].toNat = (42 : UInt8).toNat := by
      show _ = 42
      omega
    rw [UInt8.toNat_inj.1 this]
  · intro h
    rw [Option.some.inj h]
    rfl
theorem index_last (b : ByteArray) (hb : 1 ≤ b.size) : Lib.indexByte b.data.toList 42 = ((b.size - 1 : Nat) : Int) ↔ (bt b ((b.size - 1 : Nat) : Int) = 42 ∧ ∀ i : Nat, i < b.size - 1 → bt b (i : Int) ≠ 42) := by
  constructor
  · intro h
    obtain ⟨h1, h2⟩ := Lib.indexByte_some h
    exact ⟨(bt_star b _ (by omega)).2 h1, fun i hi e => h2 i hi ((bt_star b i (by omega)).1 e)⟩
  · rintro ⟨h1, h2⟩
    have g := Lib.indexByte_ge b.data.toList 42
    have k1 := (bt_star b (b.size - 1) (by omega)).1 h1
    by_cases e : Lib.indexByte b.data.toList 42 = -1
    · exact absurd k1 (Lib.indexByte_none e (b.size - 1))
    · obtain ⟨o, ho⟩ := Int.eq_ofNat_of_zero_le (show 0 ≤ Lib.indexByte b.data.toList 42 by omega)
      obtain ⟨o1, o2⟩ := Lib.indexByte_some ho
      rw [ho]
      rcases Nat.lt_trichotomy o (b.size - 1) with z | z | z
      · exact absurd ((bt_star b o (by omega)).2 o1) (h2 o z)
      · rw [z]
      · exact absurd k1 (o2 _ z)
theorem both_star (a b : ByteArray) (hb : 1 ≤ b.size) (h64 : a.size + b.size ≤ 64) : ∃ r : Bool, Ev (fun k => spec_l02Star.f k a b) r ∧ impl_Sequence_isStar.f a b = some r ∧
    (r = true → a.size = 0 ∧ bt b ((b.size - 1 : Nat) : Int) = 42 ∧ ∀ i : Nat, i < b.size - 1 → bt b (i : Int) ≠ 42) := by
  have jt : Ev (fun k => spec_l02Star.j0 k (b.size : Int) true a b) false := Ev.step (f := fun _ => some false) (fun k => by rw [spec_l02Star.j0, if_pos rfl]) (Ev.now _)
  have jf : ∀ r, Ev (fun k => spec_l02Star.l0 k (b.size : Int) 0 a b) r → Ev (fun k => spec_l02Star.j0 k (b.size : Int) false a b) r := fun r h => Ev.step (f := fun k => spec_l02Star.l0 k (b.size : Int) 0 a b) (fun k => by rw [spec_l02Star.j0, if_neg (by decide)]) h
  have ix : strings_IndexByte.f b 42 = some (Lib.indexByte b.data.toList 42) := by
    unfold strings_IndexByte.f
    rw [if_pos (by omega)]
    rfl
  by_cases ha : a.size = 0
  · have hs : ∀ r, Ev (fun k => if bt b ((b.size - 1 : Nat) : Int) = 42 then (if (b.size : Int) > 1 then spec_l02Star.j0 k (b.size : Int) (bt b 0 != 49) a b else spec_l02Star.j0 k (b.size : Int) false a b) else spec_l02Star.j0 k (b.size : Int) true a b) r → Ev (fun k => spec_l02Star.f k a b) r := by
      intro r h
      refine Ev.congr (fun k => ?_) h
      unfold spec_l02Star.f
      rw [if_pos ((nil_iff a).2 ha), wrS (x := (b.size : Int) - 1) (by omega) (by omega), show (b.size : Int) - 1 = ((b.size - 1 : Nat) : Int) by omega, if_pos (by omega), if_pos (by omega)]
      by_cases h1 : (b.size : Int) > 1
      · rw [if_pos h1, if_pos h1, if_pos (show 0 < (b.size : Int) by omega)]
      · rw [if_neg h1, if_neg h1]
    have hi : impl_Sequence_isStar.f a b = if Lib.indexByte b.data.toList 42 = ((b.size - 1 : Nat) : Int) then (if (b.size : Int) = 1 then some true else some (bt b 0 == 49)) else some false := by
      unfold impl_Sequence_isStar.f
      rw [if_pos ((nil_iff a).2 ha), ix, Option.bind_some, wrS (x := (b.size : Int) - 1) (by omega) (by omega), show (b.size : Int) - 1 = ((b.size - 1 : Nat) : Int) by omega, if_pos (show 0 < (b.size : Int) by omega)]
    by_cases hl : bt b ((b.size - 1 : Nat) : Int) = 42
    · by_cases hn : ∀ i : Nat, i < b.size - 1 → bt b (i : Int) ≠ 42
      · have hidx := (index_last b hb).2 ⟨hl, hn⟩
        rw [if_pos hidx] at hi
        have lp := star_none a b hb (by omega) hn (b.size - 1) 0 (by omega)
        by_cases h1 : b.size = 1
        · refine ⟨true, hs _ ?_, by rw [hi, if_pos (by omega)], fun _ => ⟨ha, hl, hn⟩⟩
          simp only [if_pos hl, if_neg (show ¬ (b.size : Int) > 1 by omega)]
          exact jf _ lp
        · refine ⟨bt b 0 == 49, hs _ ?_, by rw [hi, if_neg (by omega)], fun _ => ⟨ha, hl, hn⟩⟩
          simp only [if_pos hl, if_pos (show (b.size : Int) > 1 by omega)]
          by_cases h0 : bt b 0 = 49
          · have e1 : (bt b 0 != 49) = false := bne_eq_false_iff_eq.2 h0
            have e2 : (bt b 0 == 49) = true := beq_iff_eq.2 h0
            simp only [e1, e2]
            exact jf _ lp
          · have e1 : (bt b 0 != 49) = true := bne_iff_ne.2 h0
            have e2 : (bt b 0 == 49) = false := beq_eq_false_iff_ne.2 h0
            simp only [e1, e2]
            exact jt
      · have hidx : ¬ Lib.indexByte b.data.toList 42 = ((b.size - 1 : Nat) : Int) := fun e => hn ((index_last b hb).1 e).2
        rw [if_neg hidx] at hi
        refine ⟨false, hs _ ?_, hi, by simp⟩
        have ht : ∃ t : Nat, 0 ≤ t ∧ t < b.size - 1 ∧ bt b (t : Int) = 42 := by
          by_cases g : ∃ t : Nat, 0 ≤ t ∧ t < b.size - 1 ∧ bt b (t : Int) = 42
          · exact g
          · exact absurd (fun i hi e => g ⟨i, by omega, hi, e⟩) hn
        have lp := star_some a b hb (by omega) (b.size - 1) 0 (by omega) ht
        obtain ⟨t, _, t2, _⟩ := ht
        simp only [if_pos hl, if_pos (show (b.size : Int) > 1 by omega)]
        cases e : (bt b 0 != 49)
        · exact jf _ lp
        · exact jt
    · have hidx : ¬ Lib.indexByte b.data.toList 42 = ((b.size - 1 : Nat) : Int) := fun e => hl ((index_last b hb).1 e).1
      rw [if_neg hidx] at hi
      refine ⟨false, hs _ ?_, hi, by simp⟩
      simp only [if_neg hl]
      exact jt
  · refine ⟨false, ?_, ?_, by simp⟩
    · unfold spec_l02Star.f
      simp only [if_neg (fun z => ha ((nil_iff a).1 z))]
      exact jt
    · unfold impl_Sequence_isStar.f
      rw [if_neg (fun z => ha ((nil_iff a).1 z))]
end Go.Proofs.Ytmhpbilkocnlnaa.Q
end
