/-
  The reference's way to the spans: round after round over the tables in the book's order, until nothing changes.
  The least of all sets of readings, one after another.
-/
import Derived.Test.YtohgladndklciaaBc
import Derived.Test.YtohgladndklciaaBd
import Derived.Test.YtohgladndklciaaEnga
set_option linter.unusedSimpArgs false
set_option linter.unusedVariables false
namespace Go.Hard
section
variable {n : Nat} {ts : List TabD} {s0 x y : h_3} {q : Nat}
def k_2 (n : Nat) : h_3 := List.replicate n rng0
theorem freeN_len (n : Nat) : (k_2 n).length = n := by simp [k_2]
theorem freeN_at {n i : Nat} (h : i < n) : at' (k_2 n) i = rng0 := by unfold at' k_2; simp [List.getD, h]
theorem free4_at {i : Nat} (h : i < 4) : at' f_3 i = rng0 := by
  match i, h with
  | 0, _ => rfl
  | 1, _ => rfl
  | 2, _ => rfl
  | 3, _ => rfl
theorem freeN_snoc (k : Nat) : k_2 k ++ [((0 : Int), (100000 : Int))] = k_2 (k + 1) := by unfold k_2; rw [List.replicate_succ']; rfl
theorem startN_at {b : h_7} {l : List (Int × Int)} (hb : l_3 b) (hl : p_8 b l) {i : Nat} (hi : i < b.scales.toNat) : ∀ k, k ≤ l.length → at' (c_3 b l (k_2 b.scales.toNat) k) i = at' (c_3 b l f_3 k) i
  | 0, _ => by have := hb.four; show at' (k_2 _) i = at' f_3 i; rw [freeN_at hi, free4_at (by omega)]
  | k + 1, hk => by
    have ih := startN_at hb hl hi k (by omega)
    have hsc := w_9 hb hl (k := k) (by omega)
    have h1 := o_0 b l (k_2 b.scales.toNat) k
    have h2 := o_0 b l f_3 k
    rw [freeN_len] at h1
    have h4 : f_3.length = 4 := rfl
    have hn := hb.four
    rw [s_0, s_0, at_set (by omega), at_set (by omega)]
    split
    · rename_i e; subst e; rw [ih]
    · exact ih
theorem Sub.congr {s s' : h_3} (h : ∀ i, i < n → at' s i = at' s' i) : Sub n y s ↔ Sub n y s' :=
  ⟨fun g i hi => by rw [← h i hi]; exact g i hi, fun g i hi => by rw [h i hi]; exact g i hi⟩
theorem q_0.start {s s' : h_3} {r : Option h_3} (h : ∀ i, i < n → at' s i = at' s' i) (g : q_0 n ts s r) : q_0 n ts s' r := by
  have key : ∀ z, Sol n ts s z ↔ Sol n ts s' z := fun z => ⟨fun k => ⟨(Sub.congr h).1 k.sub, k.full, k.stable⟩, fun k => ⟨(Sub.congr h).2 k.sub, k.full, k.stable⟩⟩
  cases r with
  | none => exact fun z hz => g z ((key z).2 hz)
  | some t => exact ⟨g.1, (key t).1 g.2.1, fun z hz => g.2.2 z ((key z).2 hz)⟩
structure RndI (n : Nat) (ts : List TabD) (s0 x : h_3) : Prop where
  len : x.length = n
  ub : Ub n ts s0 x
structure RndJ (n : Nat) (ts : List TabD) (s0 x : h_3) (q : Nat) (y : h_3) (ch : Bool) : Prop where
  len : y.length = n
  ub : Ub n ts s0 y
  same : ch = false → y = x ∧ ∀ i, i < q → x_3 (ts.getD i tab0) x
  less : ch = true → Full n y → width y < width x
theorem RndJ.start (h : RndI n ts s0 x) : RndJ n ts s0 x 0 x false := ⟨h.len, h.ub, fun _ => ⟨rfl, fun _ h => absurd h (Nat.not_lt_zero _)⟩, fun h => by cases h⟩
theorem full_sub {y' : h_3} (h : Sub n y' y) (hf : Full n y') : Full n y := fun i hi => by have := h i hi; have := hf i hi; omega
theorem RndJ.skip {ch : Bool} (h : RndJ n ts s0 x q y ch) (hf : Full n x) (hV : TabV n (ts.getD q tab0)) (hs : (at' y (ts.getD q tab0).dst.toNat).2 < (at' y (ts.getD q tab0).dst.toNat).1 ∨ (at' y (ts.getD q tab0).frm.toNat).2 < (at' y (ts.getD q tab0).frm.toNat).1 ∨ o_8 (ts.getD q tab0) (at' y (ts.getD q tab0).frm.toNat) = false) : RndJ n ts s0 x (q + 1) y ch := by
  refine ⟨h.len, h.ub, fun hc => ?_, h.less⟩
  obtain ⟨rfl, h2⟩ := h.same hc
  refine ⟨rfl, fun i hi => ?_⟩
  rcases Nat.lt_succ_iff_lt_or_eq.1 hi with hi | rfl
  · exact h2 i hi
  · have h3 := hV.dst; have h4 := hV.frm
    have h5 := hf (ts.getD i tab0).dst.toNat (by omega)
    have h6 := hf (ts.getD i tab0).frm.toNat (by omega)
    rcases hs with hs | hs | hs
    · omega
    · omega
    · intro hc; rw [hs] at hc; cases hc
theorem RndJ.keep {ch : Bool} (h : RndJ n ts s0 x q y ch) (he : cutR (at' y (ts.getD q tab0).dst.toNat) (g_1 (ts.getD q tab0) (at' y (ts.getD q tab0).frm.toNat)) = at' y (ts.getD q tab0).dst.toNat) : RndJ n ts s0 x (q + 1) y ch := by
  refine ⟨h.len, h.ub, fun hc => ?_, h.less⟩
  obtain ⟨rfl, h2⟩ := h.same hc
  refine ⟨rfl, fun i hi => ?_⟩
  rcases Nat.lt_succ_iff_lt_or_eq.1 hi with hi | rfl
  · exact h2 i hi
  · intro _
    have e1 := congrArg Prod.fst he
    have e2 := congrArg Prod.snd he
    dsimp only [cutR] at e1 e2
    constructor <;> omega
theorem RndJ.cut {ch : Bool} (h : RndJ n ts s0 x q y ch) (hn : n ≤ 4) (hf : Full n x) (hV : TabV n (ts.getD q tab0)) (ht : ts.getD q tab0 ∈ ts) (hc : o_8 (ts.getD q tab0) (at' y (ts.getD q tab0).frm.toNat) = true) (he : ¬ cutR (at' y (ts.getD q tab0).dst.toNat) (g_1 (ts.getD q tab0) (at' y (ts.getD q tab0).frm.toNat)) = at' y (ts.getD q tab0).dst.toNat) :
    RndJ n ts s0 x (q + 1) (y.set (ts.getD q tab0).dst.toNat (cutR (at' y (ts.getD q tab0).dst.toNat) (g_1 (ts.getD q tab0) (at' y (ts.getD q tab0).frm.toNat)))) true := by
  have e : t_5 (ts.getD q tab0) y = y.set (ts.getD q tab0).dst.toNat (cutR (at' y (ts.getD q tab0).dst.toNat) (g_1 (ts.getD q tab0) (at' y (ts.getD q tab0).frm.toNat))) := by unfold t_5; rw [if_pos hc]
  have hd := hV.dst
  have hl := h.len
  have hle := step_le hV (s := y) (by omega)
  have hub := h.ub.step hV ht (by omega)
  have hlen := step_len (ts.getD q tab0) y
  rw [← e]
  refine ⟨by omega, hub, (fun h => by cases h), fun _ hf' => ?_⟩
  -- width of y': less than that of y, and y's is at most that of x
  have hfy := full_sub hle hf'
  have h1 : width (t_5 (ts.getD q tab0) y) < width y := by
    have each : ∀ i, wide (at' (t_5 (ts.getD q tab0) y) i) ≤ wide (at' y i) ∧ (i = (ts.getD q tab0).dst.toNat → wide (at' (t_5 (ts.getD q tab0) y) i) < wide (at' y i)) := fun i => by
      by_cases hi : i < n
      · have := hle i hi
        refine ⟨wide_le this.1 this.2, fun e2 => wide_lt this.1 this.2 (hf' i hi) ?_⟩
        subst e2
        rw [e, at_set (by omega), if_pos rfl]; exact he
      · refine ⟨?_, fun e2 => by omega⟩
        rw [e, at_set (by omega), if_neg (by omega)]; exact Nat.le_refl _
    have e0 := each 0; have e1 := each 1; have e2 := each 2; have e3 := each 3
    unfold width
    have : (ts.getD q tab0).dst.toNat = 0 ∨ (ts.getD q tab0).dst.toNat = 1 ∨ (ts.getD q tab0).dst.toNat = 2 ∨ (ts.getD q tab0).dst.toNat = 3 := by omega
    rcases this with g | g | g | g
    · have := e0.2 g.symm; omega
    · have := e1.2 g.symm; omega
    · have := e2.2 g.symm; omega
    · have := e3.2 g.symm; omega
  cases ch with
  | false => rw [(h.same rfl).1] at h1 ⊢; exact h1
  | true => have := h.less rfl hfy; omega
def measR (n : Nat) (x : h_3) (ch : Bool) : Nat := if ch = true then (if ad_4 n x then width x + 2 else 1) else 0
theorem meas_dec {ch : Bool} (hf : Full n x) (h : RndJ n ts s0 x q y ch) : measR n y ch < measR n x true := by
  unfold measR
  rw [if_pos rfl, if_pos (q_3.2 hf)]
  cases ch with
  | false => rw [if_neg (by decide)]; omega
  | true =>
    rw [if_pos rfl]
    split
    · rename_i hy; have := h.less rfl (q_3.1 hy); omega
    · omega
end
section
variable {b : h_7} {l : List (Int × Int)} {x : h_3}
theorem ref_some (hb : l_3 b) (hl : p_8 b l) (h : RndI b.scales.toNat b.tabs (c_3 b l (k_2 b.scales.toNat) l.length) x) (hf : Full b.scales.toNat x) (hs : ∀ i, i < b.tabs.length → x_3 (b.tabs.getD i tab0) x) : k_5 b l = some x := by
  have hw := (h.ub.some (by rw [h.len]; exact Nat.le_refl _) hf (fun t ht => hb.natV t ht) (fun t ht => by
    obtain ⟨i, hi, rfl⟩ := List.getElem_of_mem ht
    have := hs i hi
    simpa only [List.getD, List.getElem?_eq_getElem hi, Option.getD_some] using this)).start (s' := r_1 b l) (fun i hi => startN_at hb hl hi _ (Nat.le_refl _))
  rw [List.take_of_length_le (by rw [h.len]; exact Nat.le_refl _)] at hw
  exact widest_one (spans_is hb hl) hw
theorem ref_none (hb : l_3 b) (hl : p_8 b l) (h : RndI b.scales.toNat b.tabs (c_3 b l (k_2 b.scales.toNat) l.length) x) {i : Nat} (hi : i < b.scales.toNat) (he : (at' x i).2 < (at' x i).1) : k_5 b l = none :=
  widest_one (spans_is hb hl) ((h.ub.none hi he).start (s' := r_1 b l) (fun i hi => startN_at hb hl hi _ (Nat.le_refl _)))
theorem ref_start (b : h_7) (l : List (Int × Int)) : RndI b.scales.toNat b.tabs (c_3 b l (k_2 b.scales.toNat) l.length) (c_3 b l (k_2 b.scales.toNat) l.length) := ⟨by rw [o_0, freeN_len], Ub.start⟩
theorem pair_neq {a1 a2 b1 b2 : Int} (h : (decide (a1 = b1) && decide (a2 = b2)) = false) : ¬ ((a1, a2) : Rng) = (b1, b2) := fun e => by
  have e1 := congrArg Prod.fst e; have e2 := congrArg Prod.snd e; dsimp only at e1 e2
  rw [decide_eq_true e1, decide_eq_true e2] at h; cases h
theorem pair_eq' {a1 a2 b1 b2 : Int} (h : (decide (a1 = b1) && decide (a2 = b2)) = true) : ((a1, a2) : Rng) = (b1, b2) := by
  rw [Bool.and_eq_true, decide_eq_true_eq, decide_eq_true_eq] at h; rw [h.1, h.2]
end
end Go.Hard

namespace Go.Proofs.Ytohgladndklciaa
open Go.RowKit Go.Shelf Go.Eng Go.Hard
set_option maxHeartbeats 4000000 in
theorem rspans_ok (b : h_7) (vt vm : Value) (lr lb lk : Nat → Value) (w : World) (hT : j_1 w vt lr lb b.tabs) (hM : k_0 w vm lk b.macs) (hth : n_5 b) (hb : l_3 b) (l : List (Int × Int)) (xl : Value) (hxl : SlAt w xl 2 l.length (pairs l)) (hl : p_8 b l) :
  Calls Try.prog 28 #[(Value.agg #[(iv b.scales), vt, vm]), xl] w (Ret fun v w' => (k_5 b l = none ∧ v = .tuple #[.slice none 0 0, .bool false] ∧ Ext NoB w w') ∨ ∃ t u, k_5 b l = some t ∧ v = .tuple #[u, .bool true] ∧ Sep NoB w w' [row u 27 2 t.length (pairs t)]) := by
 refine a_8 Try.func28 rfl fun a0 BA => ?_
 replace BA : Fr 164 [] [(0, (Value.agg #[(iv b.scales), vt, vm])), (1, xl)] a0 := BA
 have hsc := hb.scales; have htl9 := hth.tl; have hml9 := hth.ml; have hll := hl.len; have FU := hb.four
 have DQ : Sep NoB w w [(d_3 false vt lr lb b.tabs), (d_9 false vm lk b.macs), (sl xl 2 l.length (pairs l))] := f_2 ⟨rfl, hT, rfl, hM, rfl, hxl, trivial⟩
 refine m2 (s2 BA (f_4 DQ rfl BA.e (cs := [(iv b.scales), vt, vm]) rfl) ?_)
 rintro a1 _ w3 ⟨B, rfl, DR⟩ DN; clear BA DQ a0
 refine s1 DN (a_0 rfl (evc _ _)) fun a6 DO => ?_; clear DN a1
 refine s1 DO (a_0 rfl (evc _ _)) fun a8 DP => ?_; clear DO a6
 refine n4 (s1 DP (a_0 rfl (evc _ _)) fun EZ Ch => ?_); clear DP a8
 have Cu := DR.p_4 27 2; clear DR
 refine n2 (m2 (s1 Ch (a_0 rfl (evc _ _)) fun Ea Ci => ?_)); clear Ch EZ
 refine n1 (c_2 ?_)
 have Cj := Ci.as [(7, (iv 0)), (6, (Value.slice none 0 0)), (2, (bptr B 0)), (1, xl)] rfl; clear Ci
 refine g_7 (G := Nat) (fun (k : Nat) a_ w_ => ∃ v6_ : Value, Fr 164 [] [(7, (iv (k : Int))), (6, v6_), (2, (bptr B 0)), (1, xl)] a_ ∧ Sep NoB w w_ [(row v6_ 27 2 ((k_2 k).length) (pairs (k_2 k))), (blk B 25 [(iv b.scales), vt, vm]), (d_3 false vt lr lb b.tabs), (d_9 false vm lk b.macs), (sl xl 2 l.length (pairs l))] ∧ (k ≤ b.scales.toNat)) (fun k => b.scales.toNat - k) 0 ⟨(Value.slice none 0 0), Cj.as _ rfl, (Cu.f_6 (i := 0) rfl (by rfl) (by rfl)), by omega⟩ ?_
 clear Cj Cu Ea
 rintro k Eb FV ⟨v6_, BB, AF, hk⟩
 have hfl := freeN_len k
 refine b_5 (m2 (s1 BB (a_1 rfl BB.e) fun Ec BC => ?_)); clear BB Eb
 refine s1 BC (a_4 rfl fd_25_0 BC.e) fun Ed BD => ?_; clear BC Ec
 refine s1 BD (a_3 rfl ty_3 BD.e (AF.bk 1 rfl) rfl) fun Ee Ac => ?_; clear BD Ed
 refine s1 Ac (f_5 rfl Ac.e Ac.e) fun DL P => ?_; clear Ac Ee
 refine n1 ?_
 by_cases C1 : (k : Int) < b.scales
 ·skip
  rw [decide_eq_true C1] at P
  refine b_7 P rfl (c_6 (a_7 (b_5 (c_2 (a_5 (s1 P (a_1 rfl P.e) fun Ef Ck => ?_)))))); clear P DL
  refine s1 Ck (e_8 rfl (pv2 (evc _ _) (evc _ _)) (n_7 _ _)) fun Eg BE => ?_; clear Ck Ef
  refine s2 BE (f_9 AF rfl (pv1 BE.e) x_9 k_6 ze_27 (by decide) (cs := [(iv 0), (iv 100000)]) (bs_27_1_0iia _ _)) ?_
  rintro Eh _ FW ⟨FSa, rfl, BO⟩ Ao; clear BE AF Eg
  refine s2 Ao (j_9 BO rfl x_9 el_27 Ao.e Ao.e (i := 1) rfl (SlAt.of_blk (BO.bk 0 rfl) rfl (Nat.le_of_ble_eq_true rfl)) rfl (by simp only [maxLen]; omega) (by omega)) ?_
  intro Ei DS FX Cv BF
  have Cw := Cv.f_6 (i := 1) rfl (n' := (k_2 (k + 1)).length) (xs' := (pairs (k_2 (k + 1)))) (by rw [← freeN_snoc]; simp) (by rw [← freeN_snoc]; simp [pairs]); clear Cv Ao BO Eh
  refine s1 BF (a_0 rfl BF.e) fun Ej Cl => ?_; clear BF Ei
  refine e_2 (g_6 (a_7 ?_))
  have BG := Cl.as [(6, DS), (7, (iv (k : Int))), (2, (bptr B 0)), (1, xl)] rfl; clear Cl
  refine a_5 (s1 BG (a_1 rfl BG.e) fun Ek BH => ?_); clear BG Ej
  refine s1 BH (f_0 rfl BH.e (evc _ _) (by omega) (by omega)) fun El BI => ?_; clear BH Ek
  refine s1 BI (a_0 rfl BI.e) fun FP ES => ?_; clear BI El
  refine e_2 ?_
  have ET := Cw.gkp (gpc 1 (gpc 2 (gpc 3 (gpc 4 (gpc 5 gpn))))); clear Cw
  exact a_7 ⟨k + 1, ⟨DS, ES.as _ rfl, (ET.f_6 (i := 0) rfl rfl rfl), by omega⟩, by omega⟩
 skip
 rw [decide_eq_false C1] at P
 refine b_4 P rfl (g_3 (b_1 (b_1 (f_1 (a_7 (b_5 (m2 (s1 P (a_0 rfl (evc _ _)) fun Em Cm => ?_)))))))); clear P DL
 refine n1 (c_2 ?_)
 have Cn := Cm.as [(8, (iv 0)), (6, v6_), (2, (bptr B 0)), (1, xl)] rfl; clear Cm
 refine g_7 (G := Nat) (fun (k : Nat) a_ w_ => Fr 164 [] [(8, (iv (k : Int))), (6, v6_), (2, (bptr B 0)), (1, xl)] a_ ∧ Sep NoB w w_ [(row v6_ 27 2 ((c_3 b l (k_2 b.scales.toNat) k).length) (pairs (c_3 b l (k_2 b.scales.toNat) k))), (blk B 25 [(iv b.scales), vt, vm]), (d_3 false vt lr lb b.tabs), (d_9 false vm lk b.macs), (sl xl 2 l.length (pairs l))] ∧ (k ≤ l.length)) (fun k => l.length - k) 0 ⟨Cn.as _ rfl, (AF.f_6 (i := 0) rfl (by rw [show k = b.scales.toNat by omega]; rfl) (by rw [show k = b.scales.toNat by omega]; rfl)), Nat.zero_le _⟩ ?_
 clear Cn AF Em
 rintro k En FY ⟨BJ, AG, hk⟩
 have hsl := o_0 b l (k_2 b.scales.toNat) k; have hfn := freeN_len b.scales.toNat
 refine b_5 (m2 (s1 BJ (a_1 rfl BJ.e) fun Eo BK => ?_)); clear BJ En
 refine s1 BK (a_1 rfl BK.e) fun Ep BL => ?_; clear BK Eo
 refine s1 BL (c_9 rfl u_8 BL.e (AG.sk 4 rfl)) fun Eq Aw => ?_; clear BL Ep
 refine s1 Aw (f_5 rfl Aw.e Aw.e) fun Er R => ?_; clear Aw Eq
 refine n1 ?_
 by_cases C2 : (k : Int) < (l.length : Int)
 ·skip
  rw [decide_eq_true C2] at R
  have hscl := w_9 hb hl (k := k) (by omega); unfold o_5 at hscl; have hmv := hl.macV hb (k := k) (by omega); have hsv := hmv.scale; have hbb := biasF_bd hmv; have hlm := hl.mac k (by omega); have hlr := hl.read k (by omega)
  refine b_7 R rfl (c_6 (a_7 (b_5 (c_2 (b_5 ?_)))))
  have Co := R.as [(8, (iv (k : Int))), (6, v6_), (2, (bptr B 0)), (1, xl)] rfl; clear R
  refine x_4 mixed Co AG 10 [[], [0], [], [], [2, 3], [4], [5], [1, 6], [7], []] [(yw (bptr B 2)), (yw vm), (yw xl), (yw (iv (k : Int))), (yw (eptr xl (k * 2))), (yw (eptr xl (k * 2 + 0))), (yw (iv ((l.getD k (0, 0)).1))), (yw (eptr vm (((l.getD k (0, 0)).1).toNat * 2))), (yw (Value.agg #[(iv ((b.macs.getD (((l.getD k (0, 0)).1).toNat) mac0).scale)), (lk (((l.getD k (0, 0)).1).toNat))])), (fun (J : Nat → Value) (v_ : Value) (rs_ : List Res) => ∃ (b9_ : Nat), v_ = (bptr b9_ 0) ∧ rs_ = [(blk b9_ 61 [(iv 0), (Value.slice none 0 0)])])] (by decide +kernel) (by decide +kernel) rfl rfl ⟨dw, dw, dw, dw, dw, dw, dw, dw, dw, (fun _ _ _ _ _ h_ => h_), trivial⟩ ?_ ?_
  ·skip
   refine ⟨fun a w J hA hS hd => gv1 (a_4 rfl q_2 hA.e), ?_⟩
   refine ⟨fun a w J hA hS hd => gv1 (a_3 rfl ac_5 (gu hd 0) (hS.bk 1 rfl) rfl), ?_⟩
   refine ⟨fun a w J hA hS hd => gv1 (a_1 rfl hA.e), ?_⟩
   refine ⟨fun a w J hA hS hd => gv1 (a_1 rfl hA.e), ?_⟩
   refine ⟨fun a w J hA hS hd => gv1 (b_0 rfl u_8 ad_5 (gu hd 2) (i := k) (gu hd 3) (hS.sk 4 rfl) (by decide) (by omega)), ?_⟩
   refine ⟨fun a w J hA hS hd => gv1 (d_1 rfl fd_67_0 (gu hd 4) (hS.sk 4 rfl) (by rw [((hS.sk 4 rfl)).1]; omega)), ?_⟩
   refine ⟨fun a w J hA hS hd => gv1 (b_9 rfl ty_3 (gu hd 5) (hS.sk 4 rfl) (f_8 (by omega))), ?_⟩
   refine ⟨fun a w J hA hS hd => gv1 (b_0 rfl ac_8 ab_3 (gu hd 1) (i := ((l.getD k (0, 0)).1).toNat) ((gu hd 6).trans (h_4 (by omega))) (c_8 (hS.ok 3 _ rfl)).macs (by decide) (by omega)), ?_⟩
   refine ⟨fun a w J hA hS hd => gv1 (e_7 rfl ab_3 (gu hd 7) (c_8 (hS.ok 3 _ rfl)).macs (w_7 (by omega)) rfl (by decide)), ?_⟩
   refine ⟨fun a w J hA hS hd => d_4 rfl (valloc rfl ze_61 (cs := [(iv 0), (Value.slice none 0 0)]) rfl (fun b_ => ⟨b_, rfl, rfl⟩)), ?_⟩
   trivial
  intro DM Ev J rsf77 Cp F BP; clear Co AG
  obtain ⟨BR, EU⟩ := F 9 (by decide)
  obtain ⟨b9_, C4, C3⟩ := EU
  have BQ : Sep NoB w Ev [(blk b9_ 61 [(iv 0), (Value.slice none 0 0)]), (row v6_ 27 2 ((c_3 b l (k_2 b.scales.toNat) k).length) (pairs (c_3 b l (k_2 b.scales.toNat) k))), (blk B 25 [(iv b.scales), vt, vm]), (d_3 false vt lr lb b.tabs), (d_9 false vm lk b.macs), (sl xl 2 l.length (pairs l))] := by rw [show catR rsf77 0 10 = ([(blk b9_ 61 [(iv 0), (Value.slice none 0 0)])] : List Res) by (try simp only [catR, gr (F 0 (by decide)), gr (F 1 (by decide)), gr (F 2 (by decide)), gr (F 3 (by decide)), gr (F 4 (by decide)), gr (F 5 (by decide)), gr (F 6 (by decide)), gr (F 7 (by decide)), gr (F 8 (by decide)), C3]); (try rfl)] at BP; exact BP
  have Cq := Cp.add (gs (F 8 (by decide))); clear Cp
  rw [C4] at BR
  have Ax : Fr 164 [] [(9, (bptr b9_ 0)), (40, (Value.agg #[(iv ((b.macs.getD (((l.getD k (0, 0)).1).toNat) mac0).scale)), (lk (((l.getD k (0, 0)).1).toNat))])), (8, (iv (k : Int))), (6, v6_), (2, (bptr B 0)), (1, xl)] DM := Cq.add (h_2 BR rfl); clear Cq
  clear F BP BR
  clear C3
  clear C4
  refine s7 Ax (c_0 BQ rfl ab_3 Ax.e Ax.e (i := 0) rfl (vs := [(iv ((b.macs.getD (((l.getD k (0, 0)).1).toNat) mac0).scale)), (lk (((l.getD k (0, 0)).1).toNat))]) rfl rfl (i_8 rfl (i_8 (SlAt.one ((c_8 (BQ.ok 4 _ rfl)).blk (i := ((l.getD k (0, 0)).1).toNat) (by omega))) w_1)) (Nat.le_of_ble_eq_true rfl)) ?_
  intro _ Ew Cx BM; clear Ax
  have A4 : Sep NoB w Ew [(blk b9_ 61 [(iv ((b.macs.getD (((l.getD k (0, 0)).1).toNat) mac0).scale)), (lk (((l.getD k (0, 0)).1).toNat))]), (row v6_ 27 2 ((c_3 b l (k_2 b.scales.toNat) k).length) (pairs (c_3 b l (k_2 b.scales.toNat) k))), (blk B 25 [(iv b.scales), vt, vm]), (d_3 false vt lr lb b.tabs), (d_9 false vm lk b.macs), (sl xl 2 l.length (pairs l))] := Cx; clear Cx BQ
  refine n4 (s1 BM (c_5 rfl ab_3 (BM.ev rfl) (A4.bk 0 rfl) (l := [(iv ((b.macs.getD (((l.getD k (0, 0)).1).toNat) mac0).scale)), (lk (((l.getD k (0, 0)).1).toNat))]) rfl rfl) fun Es BN => ?_); clear BM DM
  refine s2 BN (b_3 rfl en_37 (ev1 BN.e) (rbias_ok _ (b.macs.getD (((l.getD k (0, 0)).1).toNat) mac0) _ _ ((c_8 (A4.ok 4 _ rfl)).blk (i := ((l.getD k (0, 0)).1).toNat) (by omega)) (hl.macV hb (by omega)) (hth.kl _))) ?_
  rintro Et _ FZ ⟨rfl, Ct⟩ Cr; have Cy := A4.step Ct; clear Ct BN A4 Es
  refine s2 Cr (e_0 Cy rfl ze_27 (cs := [(iv 0), (iv 0)]) rfl) ?_
  rintro FQ _ Fa ⟨BS, rfl, Cz⟩ Ay; clear Cr Cy Et
  refine s7 Ay (c_0 Cz rfl k_6 Ay.e Ay.e (i := 0) rfl (vs := [(iv ((e_1 (b.macs.getD (((l.getD k (0, 0)).1).toNat) mac0)).1)), (iv ((e_1 (b.macs.getD (((l.getD k (0, 0)).1).toNat) mac0)).2))]) rfl rfl rfl (Nat.le_of_ble_eq_true rfl)) ?_
  intro _ Ex C0 Cs; clear Ay
  have CI : Sep NoB w Ex [(blk BS 27 [(iv ((e_1 (b.macs.getD (((l.getD k (0, 0)).1).toNat) mac0)).1)), (iv ((e_1 (b.macs.getD (((l.getD k (0, 0)).1).toNat) mac0)).2))]), (blk b9_ 61 [(iv ((b.macs.getD (((l.getD k (0, 0)).1).toNat) mac0).scale)), (lk (((l.getD k (0, 0)).1).toNat))]), (row v6_ 27 2 ((c_3 b l (k_2 b.scales.toNat) k).length) (pairs (c_3 b l (k_2 b.scales.toNat) k))), (blk B 25 [(iv b.scales), vt, vm]), (d_3 false vt lr lb b.tabs), (d_9 false vm lk b.macs), (sl xl 2 l.length (pairs l))] := C0; clear C0 Cz
  refine n1 ?_
  have BT := Cs.as [(10, (bptr BS 0)), (9, (bptr b9_ 0)), (8, (iv (k : Int))), (6, v6_), (2, (bptr B 0)), (1, xl)] rfl; clear Cs
  refine g_2 mixed BT CI 26 [[], [], [1], [], [], [4], [3, 5], [6], [], [], [8, 9], [10], [11], [], [13], [12, 14], [], [], [16, 17], [18], [19], [], [21], [20, 22], [15, 23], [7, 24]] [(Yd.val v6_), (Yd.val (bptr b9_ 0)), (Yd.val (iv ((b.macs.getD (((l.getD k (0, 0)).1).toNat) mac0).scale))), (Yd.val v6_), (Yd.val (bptr b9_ 0)), (Yd.val (iv ((b.macs.getD (((l.getD k (0, 0)).1).toNat) mac0).scale))), (Yd.val (eptr v6_ (((b.macs.getD (((l.getD k (0, 0)).1).toNat) mac0).scale).toNat * 2))), (Yd.val (Value.agg #[(iv (((c_3 b l (k_2 b.scales.toNat) k).getD (((b.macs.getD (((l.getD k (0, 0)).1).toNat) mac0).scale).toNat) (0, 0)).1)), (iv (((c_3 b l (k_2 b.scales.toNat) k).getD (((b.macs.getD (((l.getD k (0, 0)).1).toNat) mac0).scale).toNat) (0, 0)).2))])), (Yd.val xl), (Yd.val (iv (k : Int))), (Yd.val (eptr xl (k * 2))), (Yd.val (eptr xl (k * 2 + 1))), (Yd.val (iv ((l.getD k (0, 0)).2))), (Yd.val (bptr BS 1)), (Yd.val (iv ((e_1 (b.macs.getD (((l.getD k (0, 0)).1).toNat) mac0)).2))), (Yd.val (iv (((l.getD k (0, 0)).2) - ((e_1 (b.macs.getD (((l.getD k (0, 0)).1).toNat) mac0)).2)))), (Yd.val xl), (Yd.val (iv (k : Int))), (Yd.val (eptr xl (k * 2))), (Yd.val (eptr xl (k * 2 + 1))), (Yd.val (iv ((l.getD k (0, 0)).2))), (Yd.val (bptr BS 0)), (Yd.val (iv ((e_1 (b.macs.getD (((l.getD k (0, 0)).1).toNat) mac0)).1))), (Yd.val (iv (((l.getD k (0, 0)).2) - ((e_1 (b.macs.getD (((l.getD k (0, 0)).1).toNat) mac0)).1)))), (Yd.val (Value.agg #[(iv (((l.getD k (0, 0)).2) - ((e_1 (b.macs.getD (((l.getD k (0, 0)).1).toNat) mac0)).2))), (iv (((l.getD k (0, 0)).2) - ((e_1 (b.macs.getD (((l.getD k (0, 0)).1).toNat) mac0)).1)))])), (Yd.val (Value.agg #[(iv ((cutR (((c_3 b l (k_2 b.scales.toNat) k).getD (((b.macs.getD (((l.getD k (0, 0)).1).toNat) mac0).scale).toNat) (0, 0)).1, ((c_3 b l (k_2 b.scales.toNat) k).getD (((b.macs.getD (((l.getD k (0, 0)).1).toNat) mac0).scale).toNat) (0, 0)).2) (((l.getD k (0, 0)).2) - ((e_1 (b.macs.getD (((l.getD k (0, 0)).1).toNat) mac0)).2), ((l.getD k (0, 0)).2) - ((e_1 (b.macs.getD (((l.getD k (0, 0)).1).toNat) mac0)).1))).1)), (iv ((cutR (((c_3 b l (k_2 b.scales.toNat) k).getD (((b.macs.getD (((l.getD k (0, 0)).1).toNat) mac0).scale).toNat) (0, 0)).1, ((c_3 b l (k_2 b.scales.toNat) k).getD (((b.macs.getD (((l.getD k (0, 0)).1).toNat) mac0).scale).toNat) (0, 0)).2) (((l.getD k (0, 0)).2) - ((e_1 (b.macs.getD (((l.getD k (0, 0)).1).toNat) mac0)).2), ((l.getD k (0, 0)).2) - ((e_1 (b.macs.getD (((l.getD k (0, 0)).1).toNat) mac0)).1))).2))]))] (by decide +kernel) rfl rfl ?_ ?_
  ·skip
   refine dq (fun a w hA hS hd => a_1 rfl hA.e) ?_
   refine dq (fun a w hA hS hd => a_4 rfl fd_61_0 hA.e) ?_
   refine dq (fun a w hA hS hd => a_3 rfl ty_3 (hq hd 1) (hS.bk 1 rfl) rfl) ?_
   refine dq (fun a w hA hS hd => a_1 rfl hA.e) ?_
   refine dq (fun a w hA hS hd => a_4 rfl fd_61_0 hA.e) ?_
   refine dq (fun a w hA hS hd => a_3 rfl ty_3 (hq hd 4) (hS.bk 1 rfl) rfl) ?_
   refine dq (fun a w hA hS hd => b_0 rfl x_9 k_6 (hq hd 3) (i := ((b.macs.getD (((l.getD k (0, 0)).1).toNat) mac0).scale).toNat) ((hq hd 5).trans (h_4 (by omega))) (SlAt.d_6 (hS.e_4 2 rfl)) (by decide) (by omega)) ?_
   refine dq (fun a w hA hS hd => e_7 rfl k_6 (hq hd 6) (SlAt.d_6 (hS.e_4 2 rfl)) (g_8 (by omega)) rfl (by decide)) ?_
   refine dq (fun a w hA hS hd => a_1 rfl hA.e) ?_
   refine dq (fun a w hA hS hd => a_1 rfl hA.e) ?_
   refine dq (fun a w hA hS hd => b_0 rfl u_8 ad_5 (hq hd 8) (i := k) (hq hd 9) (hS.sk 6 rfl) (by decide) (by omega)) ?_
   refine dq (fun a w hA hS hd => d_1 rfl fd_67_1 (hq hd 10) (hS.sk 6 rfl) (by rw [((hS.sk 6 rfl)).1]; omega)) ?_
   refine dq (fun a w hA hS hd => b_9 rfl ty_3 (hq hd 11) (hS.sk 6 rfl) (h_6 (by omega))) ?_
   refine dq (fun a w hA hS hd => a_4 rfl l_7 hA.e) ?_
   refine dq (fun a w hA hS hd => a_3 rfl ty_3 (hq hd 13) (hS.bk 0 rfl) rfl) ?_
   refine dq (fun a w hA hS hd => h_9 rfl (hq hd 12) (hq hd 14) (by omega) (by omega)) ?_
   refine dq (fun a w hA hS hd => a_1 rfl hA.e) ?_
   refine dq (fun a w hA hS hd => a_1 rfl hA.e) ?_
   refine dq (fun a w hA hS hd => b_0 rfl u_8 ad_5 (hq hd 16) (i := k) (hq hd 17) (hS.sk 6 rfl) (by decide) (by omega)) ?_
   refine dq (fun a w hA hS hd => d_1 rfl fd_67_1 (hq hd 18) (hS.sk 6 rfl) (by rw [((hS.sk 6 rfl)).1]; omega)) ?_
   refine dq (fun a w hA hS hd => b_9 rfl ty_3 (hq hd 19) (hS.sk 6 rfl) (h_6 (by omega))) ?_
   refine dq (fun a w hA hS hd => a_4 rfl l_6 hA.e) ?_
   refine dq (fun a w hA hS hd => a_3 rfl ty_3 (hq hd 21) (hS.bk 0 rfl) rfl) ?_
   refine dq (fun a w hA hS hd => h_9 rfl (hq hd 20) (hq hd 22) (by omega) (by omega)) ?_
   refine dq (fun a w hA hS hd => e_8 rfl (pv2 (hq hd 15) (hq hd 23)) (n_7 _ _)) ?_
   refine ⟨fun a w hA hS hd => by have e7 := hx hd 7; have Eu := hx hd 24; exact d_4 rfl (dx (b_3 rfl en_60 (ev2 (b_8 e7) (b_8 Eu)) (rcut_ok _ _ _ _ _)) hS (fun _ => rfl)), ?_⟩
   trivial
  intro DT FC BU A1 y; clear BT CI
  have BV := BU.add (hz y 0); clear BU
  have BW := BV.add (hz y 2); clear BV
  have W := BW.add (hz y 25); clear BW
  clear y
  refine s1 W (b_0 rfl x_9 k_6 W.e (i := ((b.macs.getD (((l.getD k (0, 0)).1).toNat) mac0).scale).toNat) (W.e.trans (h_4 (by omega))) (SlAt.d_6 (A1.e_4 2 rfl)) (by decide) (by omega)) fun DU X => ?_; clear W DT
  refine s7 X (op_storeE A1 rfl k_6 X.e X.e (i := 2) rfl (vs := [(iv ((cutR (((c_3 b l (k_2 b.scales.toNat) k).getD (((b.macs.getD (((l.getD k (0, 0)).1).toNat) mac0).scale).toNat) (0, 0)).1, ((c_3 b l (k_2 b.scales.toNat) k).getD (((b.macs.getD (((l.getD k (0, 0)).1).toNat) mac0).scale).toNat) (0, 0)).2) (((l.getD k (0, 0)).2) - ((e_1 (b.macs.getD (((l.getD k (0, 0)).1).toNat) mac0)).2), ((l.getD k (0, 0)).2) - ((e_1 (b.macs.getD (((l.getD k (0, 0)).1).toNat) mac0)).1))).1)), (iv ((cutR (((c_3 b l (k_2 b.scales.toNat) k).getD (((b.macs.getD (((l.getD k (0, 0)).1).toNat) mac0).scale).toNat) (0, 0)).1, ((c_3 b l (k_2 b.scales.toNat) k).getD (((b.macs.getD (((l.getD k (0, 0)).1).toNat) mac0).scale).toNat) (0, 0)).2) (((l.getD k (0, 0)).2) - ((e_1 (b.macs.getD (((l.getD k (0, 0)).1).toNat) mac0)).2), ((l.getD k (0, 0)).2) - ((e_1 (b.macs.getD (((l.getD k (0, 0)).1).toNat) mac0)).1))).2))]) rfl rfl rfl (by simp only [b_2, List.length_set]; omega) (by decide)) ?_
  intro _ FD CJ BX; have CK := CJ.f_6 (i := 2) rfl (n' := ((c_3 b l (k_2 b.scales.toNat) k).set (((b.macs.getD (((l.getD k (0, 0)).1).toNat) mac0).scale).toNat) ((cutR (((c_3 b l (k_2 b.scales.toNat) k).getD (((b.macs.getD (((l.getD k (0, 0)).1).toNat) mac0).scale).toNat) (0, 0)).1, ((c_3 b l (k_2 b.scales.toNat) k).getD (((b.macs.getD (((l.getD k (0, 0)).1).toNat) mac0).scale).toNat) (0, 0)).2) (((l.getD k (0, 0)).2) - ((e_1 (b.macs.getD (((l.getD k (0, 0)).1).toNat) mac0)).2), ((l.getD k (0, 0)).2) - ((e_1 (b.macs.getD (((l.getD k (0, 0)).1).toNat) mac0)).1))).1, (cutR (((c_3 b l (k_2 b.scales.toNat) k).getD (((b.macs.getD (((l.getD k (0, 0)).1).toNat) mac0).scale).toNat) (0, 0)).1, ((c_3 b l (k_2 b.scales.toNat) k).getD (((b.macs.getD (((l.getD k (0, 0)).1).toNat) mac0).scale).toNat) (0, 0)).2) (((l.getD k (0, 0)).2) - ((e_1 (b.macs.getD (((l.getD k (0, 0)).1).toNat) mac0)).2), ((l.getD k (0, 0)).2) - ((e_1 (b.macs.getD (((l.getD k (0, 0)).1).toNat) mac0)).1))).2)).length) (xs' := (pairs ((c_3 b l (k_2 b.scales.toNat) k).set (((b.macs.getD (((l.getD k (0, 0)).1).toNat) mac0).scale).toNat) ((cutR (((c_3 b l (k_2 b.scales.toNat) k).getD (((b.macs.getD (((l.getD k (0, 0)).1).toNat) mac0).scale).toNat) (0, 0)).1, ((c_3 b l (k_2 b.scales.toNat) k).getD (((b.macs.getD (((l.getD k (0, 0)).1).toNat) mac0).scale).toNat) (0, 0)).2) (((l.getD k (0, 0)).2) - ((e_1 (b.macs.getD (((l.getD k (0, 0)).1).toNat) mac0)).2), ((l.getD k (0, 0)).2) - ((e_1 (b.macs.getD (((l.getD k (0, 0)).1).toNat) mac0)).1))).1, (cutR (((c_3 b l (k_2 b.scales.toNat) k).getD (((b.macs.getD (((l.getD k (0, 0)).1).toNat) mac0).scale).toNat) (0, 0)).1, ((c_3 b l (k_2 b.scales.toNat) k).getD (((b.macs.getD (((l.getD k (0, 0)).1).toNat) mac0).scale).toNat) (0, 0)).2) (((l.getD k (0, 0)).2) - ((e_1 (b.macs.getD (((l.getD k (0, 0)).1).toNat) mac0)).2), ((l.getD k (0, 0)).2) - ((e_1 (b.macs.getD (((l.getD k (0, 0)).1).toNat) mac0)).1))).2)))) (by simp) (pairs_set _ _ (_, _)); clear CJ X A1
  refine e_2 (g_6 (a_7 ?_))
  have AH := BX.as [(8, (iv (k : Int))), (6, v6_), (2, (bptr B 0)), (1, xl)] rfl; clear BX
  refine a_5 (s1 AH (a_1 rfl AH.e) fun DV AI => ?_); clear AH DU
  refine s1 AI (f_0 rfl AI.e (evc _ _) (by omega) (by omega)) fun DW AJ => ?_; clear AI DV
  refine s1 AJ (a_0 rfl AJ.e) fun Ez C5 => ?_; clear AJ DW
  refine e_2 ?_
  have DC := CK.gkp (gpc 2 (gpc 3 (gpc 4 (gpc 5 (gpc 6 gpn))))); clear CK
  exact a_7 ⟨k + 1, ⟨C5.as _ rfl, (DC.f_6 (i := 0) rfl rfl rfl), by omega⟩, by omega⟩
 skip
 rw [decide_eq_false C2] at R
 refine b_4 R rfl (g_3 (b_1 (b_1 (f_1 (a_7 (b_5 (b_5 ?_)))))))
 have BY := R.as [(6, v6_), (2, (bptr B 0))] rfl; clear R
 refine a_5 (s1 BY (a_0 rfl (evc _ _)) fun DX BZ => ?_); clear BY Er
 refine n1 (c_2 ?_)
 have Ba := BZ.as [(11, (Value.bool true)), (6, v6_), (2, (bptr B 0))] rfl; clear BZ
 refine g_7 (G := Nat) (fun (g : Nat) a_ w_ => ∃ x_ : List (Int × Int), ∃ ch_ : Bool, Fr 164 [] [(11, (Value.bool ch_)), (6, v6_), (2, (bptr B 0))] a_ ∧ Sep NoB w w_ [(row v6_ 27 2 x_.length (pairs x_)), (blk B 25 [(iv b.scales), vt, vm]), (d_3 false vt lr lb b.tabs), (d_9 false vm lk b.macs), (sl xl 2 l.length (pairs l))] ∧ (g = measR b.scales.toNat x_ ch_) ∧ (RndI b.scales.toNat b.tabs (c_3 b l (k_2 b.scales.toNat) l.length) x_) ∧ (ch_ = false → Full b.scales.toNat x_ ∧ ∀ i, i < b.tabs.length → x_3 (b.tabs.getD i tab0) x_)) (fun g => g) (measR b.scales.toNat (c_3 b l (k_2 b.scales.toNat) k) true) ⟨(c_3 b l (k_2 b.scales.toNat) k), true, Ba.as _ rfl, AG, rfl, (by have hkl : k = l.length := (by omega); subst hkl; exact (ref_start b l)), (fun h => by cases h)⟩ ?_
 clear Ba AG DX
 rintro g DY FE ⟨x_, ch_, AK, A2, hg, hri, hst⟩
 have hxl := hri.len
 refine b_5 (m2 (s1 AK (a_1 rfl AK.e) fun Ca H => ?_)); clear AK DY
 refine n1 ?_
 rcases Bool.eq_false_or_eq_true (ch_) with A5 | A5
 ·skip
  rw [A5] at H
  refine b_7 H rfl (c_6 (a_7 (c_2 (m2 (s1 H (a_0 rfl (evc _ _)) fun DZ Bb => ?_))))); clear H Ca
  refine n2 (m2 (s1 Bb (a_0 rfl (evc _ _)) fun Da Bc => ?_)); clear Bb DZ
  refine n1 (c_2 ?_)
  have Bd := Bc.as [(12, (iv 0)), (11, (Value.bool false)), (6, v6_), (2, (bptr B 0))] rfl; clear Bc
  refine g_7 (G := Nat) (fun (K : Nat) a_ w_ => Fr 164 [] [(12, (iv (K : Int))), (11, (Value.bool false)), (6, v6_), (2, (bptr B 0))] a_ ∧ Sep NoB w w_ [(row v6_ 27 2 x_.length (pairs x_)), (blk B 25 [(iv b.scales), vt, vm]), (d_3 false vt lr lb b.tabs), (d_9 false vm lk b.macs), (sl xl 2 l.length (pairs l))] ∧ (K ≤ b.scales.toNat) ∧ (∀ i, i < K → ¬ (at' x_ i).2 < (at' x_ i).1)) (fun K => b.scales.toNat - K) 0 ⟨Bd.as _ rfl, A2, Nat.zero_le _, (fun _ h => absurd h (Nat.not_lt_zero _))⟩ ?_
  clear Bd A2 Da
  rintro K Db FF ⟨AL, U, FT, hne⟩
  refine b_5 (m2 (s1 AL (a_1 rfl AL.e) fun Dc AM => ?_)); clear AL Db
  refine s1 AM (a_4 rfl fd_25_0 AM.e) fun Dd AN => ?_; clear AM Dc
  refine s1 AN (a_3 rfl ty_3 AN.e (U.bk 1 rfl) rfl) fun De Y => ?_; clear AN Dd
  refine s1 Y (f_5 rfl Y.e Y.e) fun Df L => ?_; clear Y De
  refine n1 ?_
  by_cases CU : (K : Int) < b.scales
  ·skip
   rw [decide_eq_true CU] at L
   refine b_7 L rfl (c_6 (a_7 (b_5 (c_2 (b_5 ?_)))))
   have Be := L.as [(12, (iv (K : Int))), (11, (Value.bool false)), (6, v6_), (2, (bptr B 0))] rfl; clear L
   refine g_2 mixed Be U 10 [[], [], [0, 1], [2], [3], [], [], [5, 6], [7], [8]] [(Yd.val v6_), (Yd.val (iv (K : Int))), (Yd.val (eptr v6_ (K * 2))), (Yd.val (eptr v6_ (K * 2 + 0))), (Yd.val (iv ((x_.getD K (0, 0)).1))), (Yd.val v6_), (Yd.val (iv (K : Int))), (Yd.val (eptr v6_ (K * 2))), (Yd.val (eptr v6_ (K * 2 + 1))), (Yd.val (iv ((x_.getD K (0, 0)).2)))] (by decide +kernel) rfl rfl ?_ ?_
   ·skip
    refine dq (fun a w hA hS hd => a_1 rfl hA.e) ?_
    refine dq (fun a w hA hS hd => a_1 rfl hA.e) ?_
    refine dq (fun a w hA hS hd => b_0 rfl x_9 k_6 (hq hd 0) (i := K) (hq hd 1) (SlAt.d_6 (hS.e_4 0 rfl)) (by decide) (by omega)) ?_
    refine dq (fun a w hA hS hd => d_1 rfl l_6 (hq hd 2) (SlAt.d_6 (hS.e_4 0 rfl)) (by rw [((SlAt.d_6 (hS.e_4 0 rfl))).1]; omega)) ?_
    refine dq (fun a w hA hS hd => b_9 rfl ty_3 (hq hd 3) (SlAt.d_6 (hS.e_4 0 rfl)) (f_8 (by omega))) ?_
    refine dq (fun a w hA hS hd => a_1 rfl hA.e) ?_
    refine dq (fun a w hA hS hd => a_1 rfl hA.e) ?_
    refine dq (fun a w hA hS hd => b_0 rfl x_9 k_6 (hq hd 5) (i := K) (hq hd 6) (SlAt.d_6 (hS.e_4 0 rfl)) (by decide) (by omega)) ?_
    refine dq (fun a w hA hS hd => d_1 rfl l_7 (hq hd 7) (SlAt.d_6 (hS.e_4 0 rfl)) (by rw [((SlAt.d_6 (hS.e_4 0 rfl))).1]; omega)) ?_
    refine dq (fun a w hA hS hd => b_9 rfl ty_3 (hq hd 8) (SlAt.d_6 (hS.e_4 0 rfl)) (h_6 (by omega))) ?_
    trivial
   intro Dg FG Bf CL Az; clear Be U
   have Bg := Bf.add (hz Az 4); clear Bf
   have Z := Bg.add (hz Az 9); clear Bg
   clear Az
   refine s1 Z (i_4 rfl Z.e Z.e) fun Cb I => ?_; clear Z Dg
   refine n1 ?_
   by_cases CV : ((x_.getD K (0, 0)).2) < ((x_.getD K (0, 0)).1)
   ·skip
    rw [decide_eq_true CV] at I
    refine b_7 I rfl (b_5 ?_)
    have Bh := I.as [] rfl; clear I
    refine a_5 (s1 Bh (a_0 rfl (evc _ _)) fun Dh Bi => ?_); clear Bh Cb
    refine s1 Bi (a_0 rfl (evc _ _)) fun E0 Bj => ?_; clear Bi Dh
    exact n1 (c_4 (c_7 (a_6 (a_6 (c_7 (a_6 (c_7 (a_6 (c_7 (a_6 (a_9 Bj (.inl rfl) (d_2 Bj rfl (.tmp rfl) (.tmp rfl)) (.inl ⟨ref_none hb hl hri (i := K) (by omega) (by assumption), rfl, CL.ext⟩))))))))))))
   skip
   rw [decide_eq_false CV] at I
   refine b_4 I rfl (c_6 (g_6 (a_7 (a_5 (s1 I (a_1 rfl I.e) fun Di AO => ?_))))); clear I Cb
   refine s1 AO (f_0 rfl AO.e (evc _ _) (by omega) (by omega)) fun Dj AP => ?_; clear AO Di
   refine s1 AP (a_0 rfl AP.e) fun E1 C6 => ?_; clear AP Dj
   refine e_2 ?_
   exact a_7 ⟨K + 1, ⟨C6.as _ rfl, CL, by omega, (fun i hi => by rcases Nat.lt_succ_iff_lt_or_eq.1 hi with h | h; exact hne i h; subst h; assumption)⟩, by omega⟩
  skip
  rw [decide_eq_false CU] at L
  refine b_4 L rfl (g_3 (b_1 (b_1 (f_1 (a_7 (m2 (s1 L (a_0 rfl (evc _ _)) fun Dk Bk => ?_))))))); clear L Df
  refine n1 (c_2 ?_)
  have hfu : Full b.scales.toNat x_ := fun i hi => by have := hne i (by omega); omega
  have Bl := Bk.as [(13, (iv 0)), (11, (Value.bool false)), (6, v6_), (2, (bptr B 0))] rfl; clear Bk
  refine g_7 (G := Nat) (fun (q : Nat) a_ w_ => ∃ y_ : List (Int × Int), ∃ cg_ : Bool, Fr 164 [] [(13, (iv (q : Int))), (11, (Value.bool cg_)), (6, v6_), (2, (bptr B 0))] a_ ∧ Sep NoB w w_ [(row v6_ 27 2 y_.length (pairs y_)), (blk B 25 [(iv b.scales), vt, vm]), (d_3 false vt lr lb b.tabs), (d_9 false vm lk b.macs), (sl xl 2 l.length (pairs l))] ∧ (q ≤ b.tabs.length) ∧ (RndJ b.scales.toNat b.tabs (c_3 b l (k_2 b.scales.toNat) l.length) x_ q y_ cg_)) (fun q => b.tabs.length - q) 0 ⟨x_, false, Bl.as _ rfl, U, Nat.zero_le _, (RndJ.start hri)⟩ ?_
  clear Bl U Dk
  rintro q Dl FH ⟨y_, cg_, AQ, O, hkq, T⟩
  have hyl := T.len
  refine b_5 (m2 (s1 AQ (a_1 rfl AQ.e) fun Dm AR => ?_)); clear AQ Dl
  refine s1 AR (a_4 rfl r_4 AR.e) fun Dn AS => ?_; clear AR Dm
  refine s1 AS (a_3 rfl ad_1 AS.e (O.bk 1 rfl) rfl) fun Do AT => ?_; clear AS Dn
  refine s1 AT (c_9 rfl ad_2 AT.e (c_1 (O.ok 2 _ rfl)).tabs) fun Dp c => ?_; clear AT Do
  refine s1 c (f_5 rfl c.e c.e) fun Dq M => ?_; clear c Dp
  refine n1 ?_
  by_cases CW : (q : Int) < (b.tabs.length : Int)
  ·skip
   rw [decide_eq_true CW] at M
   have htv := hb.tab (k := q) (by omega); have hfd := htv.frm; have hdd := htv.dst
   refine b_7 M rfl (c_6 (a_7 (b_5 (c_2 (m2 (s1 M (a_4 rfl r_4 M.e) fun Dr AU => ?_)))))); clear M Dq
   refine s1 AU (a_3 rfl ad_1 AU.e (O.bk 1 rfl) rfl) fun Ds AV => ?_; clear AU Dr
   refine s1 AV (a_1 rfl AV.e) fun Dt d => ?_; clear AV Ds
   refine s1 d (b_0 rfl ad_2 z_9 d.e (i := q) d.e (c_1 (O.ok 2 _ rfl)).tabs (by decide) (by omega)) fun Du AW => ?_; clear d Dt
   refine s1 AW (e_7 rfl z_9 AW.e (c_1 (O.ok 2 _ rfl)).tabs (x_2 (by omega)) rfl (by decide)) fun Dv Bm => ?_; clear AW Du
   refine s2 Bm (e_0 O rfl ze_46 (cs := [(iv 0), (iv 0), (Value.slice none 0 0), (Value.slice none 0 0), (iv 0)]) rfl) ?_
   rintro E2 _ FI ⟨A, rfl, AC⟩ f; clear Bm O Dv
   refine s7 f (c_0 AC rfl z_9 f.e f.e (i := 0) rfl (vs := [(iv ((b.tabs.getD q tab0).frm)), (iv ((b.tabs.getD q tab0).dst)), (lr q), (lb q), (iv ((b.tabs.getD q tab0).err))]) rfl rfl (i_8 rfl (i_8 rfl (i_8 (SlAt.one ((c_1 (AC.ok 3 _ rfl)).row (i := q) (by omega))) (i_8 (SlAt.one ((c_1 (AC.ok 3 _ rfl)).brk (i := q) (by omega))) (i_8 rfl w_1))))) (Nat.le_of_ble_eq_true rfl)) ?_
   intro _ EV CM Bn; clear f
   have S : Sep NoB w EV [(blk A 46 [(iv ((b.tabs.getD q tab0).frm)), (iv ((b.tabs.getD q tab0).dst)), (lr q), (lb q), (iv ((b.tabs.getD q tab0).err))]), (row v6_ 27 2 y_.length (pairs y_)), (blk B 25 [(iv b.scales), vt, vm]), (d_3 false vt lr lb b.tabs), (d_9 false vm lk b.macs), (sl xl 2 l.length (pairs l))] := CM; clear CM AC
   refine n2 (b_5 ?_)
   have Bo := Bn.as [(14, (bptr A 0)), (13, (iv (q : Int))), (11, (Value.bool cg_)), (6, v6_), (2, (bptr B 0))] rfl; clear Bn
   have j := Bo.as [(14, (bptr A 0)), (13, (iv (q : Int))), (11, (Value.bool cg_)), (6, v6_), (2, (bptr B 0))] rfl; clear Bo
   by_cases A6 : ((y_.getD (((b.tabs.getD q tab0).dst).toNat) (0, 0)).2) < ((y_.getD (((b.tabs.getD q tab0).dst).toNat) (0, 0)).1)
   ·skip
    have Bp := j.as [(14, (bptr A 0)), (13, (iv (q : Int))), (11, (Value.bool cg_)), (6, v6_), (2, (bptr B 0))] rfl; clear j
    refine g_2 mixed Bp S 35 [[], [], [1], [0, 2], [3], [4], [], [], [7], [6, 8], [9], [10], [5, 11], [12], [13], [13], [13, 15], [13, 14, 16], [13, 17], [13, 18], [13], [13], [13, 21], [13, 20, 22], [13, 23], [13, 24], [13, 19, 25], [13, 26], [27], [28], [28], [28], [28, 31], [28, 30, 32], [28, 33]] [(Yd.val v6_), (Yd.val (bptr A 1)), (Yd.val (iv ((b.tabs.getD q tab0).dst))), (Yd.val (eptr v6_ (((b.tabs.getD q tab0).dst).toNat * 2))), (Yd.val (eptr v6_ (((b.tabs.getD q tab0).dst).toNat * 2 + 0))), (Yd.val (iv ((y_.getD (((b.tabs.getD q tab0).dst).toNat) (0, 0)).1))), (Yd.val v6_), (Yd.val (bptr A 1)), (Yd.val (iv ((b.tabs.getD q tab0).dst))), (Yd.val (eptr v6_ (((b.tabs.getD q tab0).dst).toNat * 2))), (Yd.val (eptr v6_ (((b.tabs.getD q tab0).dst).toNat * 2 + 1))), (Yd.val (iv ((y_.getD (((b.tabs.getD q tab0).dst).toNat) (0, 0)).2))), (Yd.val (Value.bool true)), (Yd.val (Value.bool true)), (Yd.val undef), (Yd.val undef), (Yd.val undef), (Yd.val undef), (Yd.val undef), (Yd.val undef), (Yd.val undef), (Yd.val undef), (Yd.val undef), (Yd.val undef), (Yd.val undef), (Yd.val undef), (Yd.val undef), (Yd.val (Value.bool true)), (Yd.val (Value.bool true)), (Yd.val undef), (Yd.val undef), (Yd.val undef), (Yd.val undef), (Yd.val undef), (Yd.val undef)] (by decide +kernel) rfl rfl ?_ ?_
    ·skip
     refine dq (fun a w hA hS hd => a_1 rfl hA.e) ?_
     refine dq (fun a w hA hS hd => a_4 rfl t_7 hA.e) ?_
     refine dq (fun a w hA hS hd => a_3 rfl ty_3 (hq hd 1) (hS.bk 0 rfl) rfl) ?_
     refine dq (fun a w hA hS hd => b_0 rfl x_9 k_6 (hq hd 0) (i := ((b.tabs.getD q tab0).dst).toNat) ((hq hd 2).trans (h_4 (by omega))) (SlAt.d_6 (hS.e_4 1 rfl)) (by decide) (by omega)) ?_
     refine dq (fun a w hA hS hd => d_1 rfl l_6 (hq hd 3) (SlAt.d_6 (hS.e_4 1 rfl)) (by rw [((SlAt.d_6 (hS.e_4 1 rfl))).1]; omega)) ?_
     refine dq (fun a w hA hS hd => b_9 rfl ty_3 (hq hd 4) (SlAt.d_6 (hS.e_4 1 rfl)) (f_8 (by omega))) ?_
     refine dq (fun a w hA hS hd => a_1 rfl hA.e) ?_
     refine dq (fun a w hA hS hd => a_4 rfl t_7 hA.e) ?_
     refine dq (fun a w hA hS hd => a_3 rfl ty_3 (hq hd 7) (hS.bk 0 rfl) rfl) ?_
     refine dq (fun a w hA hS hd => b_0 rfl x_9 k_6 (hq hd 6) (i := ((b.tabs.getD q tab0).dst).toNat) ((hq hd 8).trans (h_4 (by omega))) (SlAt.d_6 (hS.e_4 1 rfl)) (by decide) (by omega)) ?_
     refine dq (fun a w hA hS hd => d_1 rfl l_7 (hq hd 9) (SlAt.d_6 (hS.e_4 1 rfl)) (by rw [((SlAt.d_6 (hS.e_4 1 rfl))).1]; omega)) ?_
     refine dq (fun a w hA hS hd => b_9 rfl ty_3 (hq hd 10) (SlAt.d_6 (hS.e_4 1 rfl)) (h_6 (by omega))) ?_
     refine ⟨fun a w hA hS hd => by have e5 := hx hd 5; have A9 := hx hd 11; exact d_4 rfl (dv (i_4 rfl (b_8 e5) (b_8 A9)) hS (by show Value.bool _ = _; simp only [decide_eq_true A6, decide_true, decide_false, Bool.not_true, Bool.not_false])), ?_⟩
     refine dq (fun a w hA hS hd => a_1 rfl (hq hd 12)) ?_
     refine dn 13 (dn 13 (dn 13 (dn 13 (dn 13 (dn 13 (dn 13 (dn 13 (dn 13 (dn 13 (dn 13 (dn 13 (dn 13 ?_))))))))))))
     refine dq (fun a w hA hS hd => b_6 rfl (hq hd 13) (evc _ _)) ?_
     refine dq (fun a w hA hS hd => a_1 rfl (hq hd 27)) ?_
     refine dn 28 (dn 28 (dn 28 (dn 28 (dn 28 (dn 28 ?_)))))
     trivial
    intro Dw FJ Bq CN z; clear Bp S
    have Br := Bq.add (hz z 28); clear Bq
    have Bs := Br.add (hz z 29); clear Br
    have Bt := Bs.add (hz z 34); clear Bs
    clear z
    refine s3 Bt fun Dx Bu => ?_; clear Bt Dw
    refine s3 Bu fun Dy AX => ?_; clear Bu Dx
    refine s1 AX (b_6 rfl AX.e (evc _ _)) fun Dz AY => ?_; clear AX Dy
    refine n1 (b_7 AY rfl (g_3 (b_1 (f_1 (a_7 ?_)))))
    have AZ := AY.as [(13, (iv (q : Int))), (11, (Value.bool cg_)), (6, v6_), (2, (bptr B 0))] rfl; clear AY
    refine a_5 (s1 AZ (a_1 rfl AZ.e) fun D0 Aa => ?_); clear AZ Dz
    refine s1 Aa (f_0 rfl Aa.e (evc _ _) (by omega) (by omega)) fun D1 Ab => ?_; clear Aa D0
    refine s1 Ab (a_0 rfl Ab.e) fun E3 C7 => ?_; clear Ab D1
    refine e_2 ?_
    have DD := CN.gkp (gpc 1 (gpc 2 (gpc 3 (gpc 4 (gpc 5 gpn))))); clear CN
    exact a_7 ⟨q + 1, ⟨y_, cg_, C7.as _ rfl, DD, by omega, (T.skip hfu (hb.natV _ (o_9 (by omega))) (by first | exact .inl (by assumption) | exact .inr (.inl (by assumption)) | exact .inr (.inr (by assumption))))⟩, by omega⟩
   skip
   have m := j.as [(14, (bptr A 0)), (13, (iv (q : Int))), (11, (Value.bool cg_)), (6, v6_), (2, (bptr B 0))] rfl; clear j
   by_cases CX : ((y_.getD (((b.tabs.getD q tab0).frm).toNat) (0, 0)).2) < ((y_.getD (((b.tabs.getD q tab0).frm).toNat) (0, 0)).1)
   ·skip
    have Bv := m.as [(14, (bptr A 0)), (13, (iv (q : Int))), (11, (Value.bool cg_)), (6, v6_), (2, (bptr B 0))] rfl; clear m
    refine g_2 mixed Bv S 35 [[], [], [1], [0, 2], [3], [4], [], [], [7], [6, 8], [9], [10], [5, 11], [12], [13], [13], [13, 15], [13, 14, 16], [13, 17], [13, 18], [13], [13], [13, 21], [13, 20, 22], [13, 23], [13, 24], [13, 19, 25], [13, 26], [27], [28], [28], [28], [28, 31], [28, 30, 32], [28, 33]] [(Yd.val v6_), (Yd.val (bptr A 1)), (Yd.val (iv ((b.tabs.getD q tab0).dst))), (Yd.val (eptr v6_ (((b.tabs.getD q tab0).dst).toNat * 2))), (Yd.val (eptr v6_ (((b.tabs.getD q tab0).dst).toNat * 2 + 0))), (Yd.val (iv ((y_.getD (((b.tabs.getD q tab0).dst).toNat) (0, 0)).1))), (Yd.val v6_), (Yd.val (bptr A 1)), (Yd.val (iv ((b.tabs.getD q tab0).dst))), (Yd.val (eptr v6_ (((b.tabs.getD q tab0).dst).toNat * 2))), (Yd.val (eptr v6_ (((b.tabs.getD q tab0).dst).toNat * 2 + 1))), (Yd.val (iv ((y_.getD (((b.tabs.getD q tab0).dst).toNat) (0, 0)).2))), (Yd.val (Value.bool false)), (Yd.val (Value.bool false)), (Yd.val v6_), (Yd.val (bptr A 0)), (Yd.val (iv ((b.tabs.getD q tab0).frm))), (Yd.val (eptr v6_ (((b.tabs.getD q tab0).frm).toNat * 2))), (Yd.val (eptr v6_ (((b.tabs.getD q tab0).frm).toNat * 2 + 0))), (Yd.val (iv ((y_.getD (((b.tabs.getD q tab0).frm).toNat) (0, 0)).1))), (Yd.val v6_), (Yd.val (bptr A 0)), (Yd.val (iv ((b.tabs.getD q tab0).frm))), (Yd.val (eptr v6_ (((b.tabs.getD q tab0).frm).toNat * 2))), (Yd.val (eptr v6_ (((b.tabs.getD q tab0).frm).toNat * 2 + 1))), (Yd.val (iv ((y_.getD (((b.tabs.getD q tab0).frm).toNat) (0, 0)).2))), (Yd.val (Value.bool true)), (Yd.val (Value.bool true)), (Yd.val (Value.bool true)), (Yd.val undef), (Yd.val undef), (Yd.val undef), (Yd.val undef), (Yd.val undef), (Yd.val undef)] (by decide +kernel) rfl rfl ?_ ?_
    ·skip
     refine dq (fun a w hA hS hd => a_1 rfl hA.e) ?_
     refine dq (fun a w hA hS hd => a_4 rfl t_7 hA.e) ?_
     refine dq (fun a w hA hS hd => a_3 rfl ty_3 (hq hd 1) (hS.bk 0 rfl) rfl) ?_
     refine dq (fun a w hA hS hd => b_0 rfl x_9 k_6 (hq hd 0) (i := ((b.tabs.getD q tab0).dst).toNat) ((hq hd 2).trans (h_4 (by omega))) (SlAt.d_6 (hS.e_4 1 rfl)) (by decide) (by omega)) ?_
     refine dq (fun a w hA hS hd => d_1 rfl l_6 (hq hd 3) (SlAt.d_6 (hS.e_4 1 rfl)) (by rw [((SlAt.d_6 (hS.e_4 1 rfl))).1]; omega)) ?_
     refine dq (fun a w hA hS hd => b_9 rfl ty_3 (hq hd 4) (SlAt.d_6 (hS.e_4 1 rfl)) (f_8 (by omega))) ?_
     refine dq (fun a w hA hS hd => a_1 rfl hA.e) ?_
     refine dq (fun a w hA hS hd => a_4 rfl t_7 hA.e) ?_
     refine dq (fun a w hA hS hd => a_3 rfl ty_3 (hq hd 7) (hS.bk 0 rfl) rfl) ?_
     refine dq (fun a w hA hS hd => b_0 rfl x_9 k_6 (hq hd 6) (i := ((b.tabs.getD q tab0).dst).toNat) ((hq hd 8).trans (h_4 (by omega))) (SlAt.d_6 (hS.e_4 1 rfl)) (by decide) (by omega)) ?_
     refine dq (fun a w hA hS hd => d_1 rfl l_7 (hq hd 9) (SlAt.d_6 (hS.e_4 1 rfl)) (by rw [((SlAt.d_6 (hS.e_4 1 rfl))).1]; omega)) ?_
     refine dq (fun a w hA hS hd => b_9 rfl ty_3 (hq hd 10) (SlAt.d_6 (hS.e_4 1 rfl)) (h_6 (by omega))) ?_
     refine ⟨fun a w hA hS hd => by have e5 := hx hd 5; have A9 := hx hd 11; exact d_4 rfl (dv (i_4 rfl (b_8 e5) (b_8 A9)) hS (by show Value.bool _ = _; simp only [decide_eq_false A6, decide_true, decide_false, Bool.not_true, Bool.not_false])), ?_⟩
     refine dq (fun a w hA hS hd => a_1 rfl (hq hd 12)) ?_
     refine dy 13 (fun a w hA hS hd => a_1 rfl hA.e) ?_
     refine dy 13 (fun a w hA hS hd => a_4 rfl z_2 hA.e) ?_
     refine dy 13 (fun a w hA hS hd => a_3 rfl ty_3 (hq hd 15) (hS.bk 0 rfl) rfl) ?_
     refine dy 13 (fun a w hA hS hd => b_0 rfl x_9 k_6 (hq hd 14) (i := ((b.tabs.getD q tab0).frm).toNat) ((hq hd 16).trans (h_4 (by omega))) (SlAt.d_6 (hS.e_4 1 rfl)) (by decide) (by omega)) ?_
     refine dy 13 (fun a w hA hS hd => d_1 rfl l_6 (hq hd 17) (SlAt.d_6 (hS.e_4 1 rfl)) (by rw [((SlAt.d_6 (hS.e_4 1 rfl))).1]; omega)) ?_
     refine dy 13 (fun a w hA hS hd => b_9 rfl ty_3 (hq hd 18) (SlAt.d_6 (hS.e_4 1 rfl)) (f_8 (by omega))) ?_
     refine dy 13 (fun a w hA hS hd => a_1 rfl hA.e) ?_
     refine dy 13 (fun a w hA hS hd => a_4 rfl z_2 hA.e) ?_
     refine dy 13 (fun a w hA hS hd => a_3 rfl ty_3 (hq hd 21) (hS.bk 0 rfl) rfl) ?_
     refine dy 13 (fun a w hA hS hd => b_0 rfl x_9 k_6 (hq hd 20) (i := ((b.tabs.getD q tab0).frm).toNat) ((hq hd 22).trans (h_4 (by omega))) (SlAt.d_6 (hS.e_4 1 rfl)) (by decide) (by omega)) ?_
     refine dy 13 (fun a w hA hS hd => d_1 rfl l_7 (hq hd 23) (SlAt.d_6 (hS.e_4 1 rfl)) (by rw [((SlAt.d_6 (hS.e_4 1 rfl))).1]; omega)) ?_
     refine dy 13 (fun a w hA hS hd => b_9 rfl ty_3 (hq hd 24) (SlAt.d_6 (hS.e_4 1 rfl)) (h_6 (by omega))) ?_
     refine ⟨fun a w hA hS hd => by have Cd := hx hd 13; have Ce := hx hd 19; have Cf := hx hd 25; exact f_7 rfl rfl Cd (dv (i_4 rfl (b_8 Ce) (b_8 Cf)) hS (by show Value.bool _ = _; simp only [decide_eq_true CX, decide_true, decide_false, Bool.not_true, Bool.not_false])), ?_⟩
     refine dq (fun a w hA hS hd => d_0 rfl (hq hd 13) (hq hd 26)) ?_
     refine dq (fun a w hA hS hd => a_1 rfl (hq hd 27)) ?_
     refine dn 28 (dn 28 (dn 28 (dn 28 (dn 28 (dn 28 ?_)))))
     trivial
    intro D2 FK Bw CO AA; clear Bv S
    have Bx := Bw.add (hz AA 28); clear Bw
    have By := Bx.add (hz AA 29); clear Bx
    have Bz := By.add (hz AA 34); clear By
    clear AA
    refine s3 Bz fun D3 B0 => ?_; clear Bz D2
    refine s3 B0 fun D4 Ad => ?_; clear B0 D3
    refine s1 Ad (b_6 rfl Ad.e (evc _ _)) fun D5 Ae => ?_; clear Ad D4
    refine n1 (b_7 Ae rfl (g_3 (b_1 (f_1 (a_7 ?_)))))
    have Af := Ae.as [(13, (iv (q : Int))), (11, (Value.bool cg_)), (6, v6_), (2, (bptr B 0))] rfl; clear Ae
    refine a_5 (s1 Af (a_1 rfl Af.e) fun D6 Ag => ?_); clear Af D5
    refine s1 Ag (f_0 rfl Ag.e (evc _ _) (by omega) (by omega)) fun D7 Ah => ?_; clear Ag D6
    refine s1 Ah (a_0 rfl Ah.e) fun E4 C8 => ?_; clear Ah D7
    refine e_2 ?_
    have DE := CO.gkp (gpc 1 (gpc 2 (gpc 3 (gpc 4 (gpc 5 gpn))))); clear CO
    exact a_7 ⟨q + 1, ⟨y_, cg_, C8.as _ rfl, DE, by omega, (T.skip hfu (hb.natV _ (o_9 (by omega))) (by first | exact .inl (by assumption) | exact .inr (.inl (by assumption)) | exact .inr (.inr (by assumption))))⟩, by omega⟩
   skip
   have B1 := m.as [(14, (bptr A 0)), (13, (iv (q : Int))), (11, (Value.bool cg_)), (6, v6_), (2, (bptr B 0))] rfl; clear m
   refine g_2 mixed B1 S 35 [[], [], [1], [0, 2], [3], [4], [], [], [7], [6, 8], [9], [10], [5, 11], [12], [13], [13], [13, 15], [13, 14, 16], [13, 17], [13, 18], [13], [13], [13, 21], [13, 20, 22], [13, 23], [13, 24], [13, 19, 25], [13, 26], [27], [28], [28], [28], [28, 31], [28, 30, 32], [28, 33]] [(Yd.val v6_), (Yd.val (bptr A 1)), (Yd.val (iv ((b.tabs.getD q tab0).dst))), (Yd.val (eptr v6_ (((b.tabs.getD q tab0).dst).toNat * 2))), (Yd.val (eptr v6_ (((b.tabs.getD q tab0).dst).toNat * 2 + 0))), (Yd.val (iv ((y_.getD (((b.tabs.getD q tab0).dst).toNat) (0, 0)).1))), (Yd.val v6_), (Yd.val (bptr A 1)), (Yd.val (iv ((b.tabs.getD q tab0).dst))), (Yd.val (eptr v6_ (((b.tabs.getD q tab0).dst).toNat * 2))), (Yd.val (eptr v6_ (((b.tabs.getD q tab0).dst).toNat * 2 + 1))), (Yd.val (iv ((y_.getD (((b.tabs.getD q tab0).dst).toNat) (0, 0)).2))), (Yd.val (Value.bool false)), (Yd.val (Value.bool false)), (Yd.val v6_), (Yd.val (bptr A 0)), (Yd.val (iv ((b.tabs.getD q tab0).frm))), (Yd.val (eptr v6_ (((b.tabs.getD q tab0).frm).toNat * 2))), (Yd.val (eptr v6_ (((b.tabs.getD q tab0).frm).toNat * 2 + 0))), (Yd.val (iv ((y_.getD (((b.tabs.getD q tab0).frm).toNat) (0, 0)).1))), (Yd.val v6_), (Yd.val (bptr A 0)), (Yd.val (iv ((b.tabs.getD q tab0).frm))), (Yd.val (eptr v6_ (((b.tabs.getD q tab0).frm).toNat * 2))), (Yd.val (eptr v6_ (((b.tabs.getD q tab0).frm).toNat * 2 + 1))), (Yd.val (iv ((y_.getD (((b.tabs.getD q tab0).frm).toNat) (0, 0)).2))), (Yd.val (Value.bool false)), (Yd.val (Value.bool false)), (Yd.val (Value.bool false)), (Yd.val (Value.agg #[(iv ((b.tabs.getD q tab0).frm)), (iv ((b.tabs.getD q tab0).dst)), (lr q), (lb q), (iv ((b.tabs.getD q tab0).err))])), (Yd.val v6_), (Yd.val (bptr A 0)), (Yd.val (iv ((b.tabs.getD q tab0).frm))), (Yd.val (eptr v6_ (((b.tabs.getD q tab0).frm).toNat * 2))), (Yd.val (Value.agg #[(iv ((y_.getD (((b.tabs.getD q tab0).frm).toNat) (0, 0)).1)), (iv ((y_.getD (((b.tabs.getD q tab0).frm).toNat) (0, 0)).2))]))] (by decide +kernel) rfl rfl ?_ ?_
   ·skip
    refine dq (fun a w hA hS hd => a_1 rfl hA.e) ?_
    refine dq (fun a w hA hS hd => a_4 rfl t_7 hA.e) ?_
    refine dq (fun a w hA hS hd => a_3 rfl ty_3 (hq hd 1) (hS.bk 0 rfl) rfl) ?_
    refine dq (fun a w hA hS hd => b_0 rfl x_9 k_6 (hq hd 0) (i := ((b.tabs.getD q tab0).dst).toNat) ((hq hd 2).trans (h_4 (by omega))) (SlAt.d_6 (hS.e_4 1 rfl)) (by decide) (by omega)) ?_
    refine dq (fun a w hA hS hd => d_1 rfl l_6 (hq hd 3) (SlAt.d_6 (hS.e_4 1 rfl)) (by rw [((SlAt.d_6 (hS.e_4 1 rfl))).1]; omega)) ?_
    refine dq (fun a w hA hS hd => b_9 rfl ty_3 (hq hd 4) (SlAt.d_6 (hS.e_4 1 rfl)) (f_8 (by omega))) ?_
    refine dq (fun a w hA hS hd => a_1 rfl hA.e) ?_
    refine dq (fun a w hA hS hd => a_4 rfl t_7 hA.e) ?_
    refine dq (fun a w hA hS hd => a_3 rfl ty_3 (hq hd 7) (hS.bk 0 rfl) rfl) ?_
    refine dq (fun a w hA hS hd => b_0 rfl x_9 k_6 (hq hd 6) (i := ((b.tabs.getD q tab0).dst).toNat) ((hq hd 8).trans (h_4 (by omega))) (SlAt.d_6 (hS.e_4 1 rfl)) (by decide) (by omega)) ?_
    refine dq (fun a w hA hS hd => d_1 rfl l_7 (hq hd 9) (SlAt.d_6 (hS.e_4 1 rfl)) (by rw [((SlAt.d_6 (hS.e_4 1 rfl))).1]; omega)) ?_
    refine dq (fun a w hA hS hd => b_9 rfl ty_3 (hq hd 10) (SlAt.d_6 (hS.e_4 1 rfl)) (h_6 (by omega))) ?_
    refine ⟨fun a w hA hS hd => by have e5 := hx hd 5; have A9 := hx hd 11; exact d_4 rfl (dv (i_4 rfl (b_8 e5) (b_8 A9)) hS (by show Value.bool _ = _; simp only [decide_eq_false A6, decide_true, decide_false, Bool.not_true, Bool.not_false])), ?_⟩
    refine dq (fun a w hA hS hd => a_1 rfl (hq hd 12)) ?_
    refine dy 13 (fun a w hA hS hd => a_1 rfl hA.e) ?_
    refine dy 13 (fun a w hA hS hd => a_4 rfl z_2 hA.e) ?_
    refine dy 13 (fun a w hA hS hd => a_3 rfl ty_3 (hq hd 15) (hS.bk 0 rfl) rfl) ?_
    refine dy 13 (fun a w hA hS hd => b_0 rfl x_9 k_6 (hq hd 14) (i := ((b.tabs.getD q tab0).frm).toNat) ((hq hd 16).trans (h_4 (by omega))) (SlAt.d_6 (hS.e_4 1 rfl)) (by decide) (by omega)) ?_
    refine dy 13 (fun a w hA hS hd => d_1 rfl l_6 (hq hd 17) (SlAt.d_6 (hS.e_4 1 rfl)) (by rw [((SlAt.d_6 (hS.e_4 1 rfl))).1]; omega)) ?_
    refine dy 13 (fun a w hA hS hd => b_9 rfl ty_3 (hq hd 18) (SlAt.d_6 (hS.e_4 1 rfl)) (f_8 (by omega))) ?_
    refine dy 13 (fun a w hA hS hd => a_1 rfl hA.e) ?_
    refine dy 13 (fun a w hA hS hd => a_4 rfl z_2 hA.e) ?_
    refine dy 13 (fun a w hA hS hd => a_3 rfl ty_3 (hq hd 21) (hS.bk 0 rfl) rfl) ?_
    refine dy 13 (fun a w hA hS hd => b_0 rfl x_9 k_6 (hq hd 20) (i := ((b.tabs.getD q tab0).frm).toNat) ((hq hd 22).trans (h_4 (by omega))) (SlAt.d_6 (hS.e_4 1 rfl)) (by decide) (by omega)) ?_
    refine dy 13 (fun a w hA hS hd => d_1 rfl l_7 (hq hd 23) (SlAt.d_6 (hS.e_4 1 rfl)) (by rw [((SlAt.d_6 (hS.e_4 1 rfl))).1]; omega)) ?_
    refine dy 13 (fun a w hA hS hd => b_9 rfl ty_3 (hq hd 24) (SlAt.d_6 (hS.e_4 1 rfl)) (h_6 (by omega))) ?_
    refine ⟨fun a w hA hS hd => by have Cd := hx hd 13; have Ce := hx hd 19; have Cf := hx hd 25; exact f_7 rfl rfl Cd (dv (i_4 rfl (b_8 Ce) (b_8 Cf)) hS (by show Value.bool _ = _; simp only [decide_eq_false CX, decide_true, decide_false, Bool.not_true, Bool.not_false])), ?_⟩
    refine dq (fun a w hA hS hd => d_0 rfl (hq hd 13) (hq hd 26)) ?_
    refine dq (fun a w hA hS hd => a_1 rfl (hq hd 27)) ?_
    refine dy 28 (fun a w hA hS hd => c_5 rfl z_9 (hA.ev rfl) (hS.bk 0 rfl) (l := [(iv ((b.tabs.getD q tab0).frm)), (iv ((b.tabs.getD q tab0).dst)), (lr q), (lb q), (iv ((b.tabs.getD q tab0).err))]) rfl rfl) ?_
    refine dy 28 (fun a w hA hS hd => a_1 rfl hA.e) ?_
    refine dy 28 (fun a w hA hS hd => a_4 rfl z_2 hA.e) ?_
    refine dy 28 (fun a w hA hS hd => a_3 rfl ty_3 (hq hd 31) (hS.bk 0 rfl) rfl) ?_
    refine dy 28 (fun a w hA hS hd => b_0 rfl x_9 k_6 (hq hd 30) (i := ((b.tabs.getD q tab0).frm).toNat) ((hq hd 32).trans (h_4 (by omega))) (SlAt.d_6 (hS.e_4 1 rfl)) (by decide) (by omega)) ?_
    refine dy 28 (fun a w hA hS hd => e_7 rfl k_6 (hq hd 33) (SlAt.d_6 (hS.e_4 1 rfl)) (g_8 (by omega)) rfl (by decide)) ?_
    trivial
   intro D8 FL B2 AD AB; clear B1 S
   have B3 := B2.add (hz AB 28); clear B2
   have B4 := B3.add (hz AB 29); clear B3
   have n := B4.add (hz AB 34); clear B4
   clear AB
   refine s6 n (b_3 rfl en_23 (ev2 n.e n.e) (rconverts_ok ((y_.getD (((b.tabs.getD q tab0).frm).toNat) (0, 0)).1) ((y_.getD (((b.tabs.getD q tab0).frm).toNat) (0, 0)).2) (b.tabs.getD q tab0) _ _ _ ((c_1 (AD.ok 3 _ rfl)).row (i := q) (by omega)) ((c_1 (AD.ok 3 _ rfl)).brk (i := q) (by omega)) (hth.rl _) (hth.bl _) _ (hb.tab (by omega)))) ?_
   rintro D9 _ FM ⟨rfl, CH⟩ Ai; have AE := AD.step CH; clear CH n AD D8
   refine s5 Ai (g_0 rfl Ai.e) fun EA o => ?_; clear Ai D9
   refine s1 o (d_0 rfl o.e o.e) fun EB N => ?_; clear o EA
   refine n1 ?_
   rcases Bool.eq_false_or_eq_true ((o_8 (b.tabs.getD q tab0) ((y_.getD (((b.tabs.getD q tab0).frm).toNat) (0, 0)).1, (y_.getD (((b.tabs.getD q tab0).frm).toNat) (0, 0)).2))) with A7 | A7
   ·skip
    rw [A7] at N
    refine b_4 N rfl (c_6 (a_7 (b_5 ?_)))
    have B5 := N.as [(14, (bptr A 0)), (13, (iv (q : Int))), (11, (Value.bool cg_)), (6, v6_), (2, (bptr B 0))] rfl; clear N
    have B6 := B5.as [(14, (bptr A 0)), (13, (iv (q : Int))), (11, (Value.bool cg_)), (6, v6_), (2, (bptr B 0))] rfl; clear B5
    refine x_4 mixed B6 AE 14 [[], [], [1], [0, 2], [3], [], [], [], [7], [6, 8], [9], [5, 10], [4, 11], []] [(yw v6_), (yw (bptr A 1)), (yw (iv ((b.tabs.getD q tab0).dst))), (yw (eptr v6_ (((b.tabs.getD q tab0).dst).toNat * 2))), (yw (Value.agg #[(iv ((y_.getD (((b.tabs.getD q tab0).dst).toNat) (0, 0)).1)), (iv ((y_.getD (((b.tabs.getD q tab0).dst).toNat) (0, 0)).2))])), (yw (Value.agg #[(iv ((b.tabs.getD q tab0).frm)), (iv ((b.tabs.getD q tab0).dst)), (lr q), (lb q), (iv ((b.tabs.getD q tab0).err))])), (yw v6_), (yw (bptr A 0)), (yw (iv ((b.tabs.getD q tab0).frm))), (yw (eptr v6_ (((b.tabs.getD q tab0).frm).toNat * 2))), (yw (Value.agg #[(iv ((y_.getD (((b.tabs.getD q tab0).frm).toNat) (0, 0)).1)), (iv ((y_.getD (((b.tabs.getD q tab0).frm).toNat) (0, 0)).2))])), (yw (Value.agg #[(iv ((g_1 (b.tabs.getD q tab0) ((y_.getD (((b.tabs.getD q tab0).frm).toNat) (0, 0)).1, (y_.getD (((b.tabs.getD q tab0).frm).toNat) (0, 0)).2)).1)), (iv ((g_1 (b.tabs.getD q tab0) ((y_.getD (((b.tabs.getD q tab0).frm).toNat) (0, 0)).1, (y_.getD (((b.tabs.getD q tab0).frm).toNat) (0, 0)).2)).2))])), (yw (Value.agg #[(iv ((cutR ((y_.getD (((b.tabs.getD q tab0).dst).toNat) (0, 0)).1, (y_.getD (((b.tabs.getD q tab0).dst).toNat) (0, 0)).2) ((g_1 (b.tabs.getD q tab0) ((y_.getD (((b.tabs.getD q tab0).frm).toNat) (0, 0)).1, (y_.getD (((b.tabs.getD q tab0).frm).toNat) (0, 0)).2)).1, (g_1 (b.tabs.getD q tab0) ((y_.getD (((b.tabs.getD q tab0).frm).toNat) (0, 0)).1, (y_.getD (((b.tabs.getD q tab0).frm).toNat) (0, 0)).2)).2)).1)), (iv ((cutR ((y_.getD (((b.tabs.getD q tab0).dst).toNat) (0, 0)).1, (y_.getD (((b.tabs.getD q tab0).dst).toNat) (0, 0)).2) ((g_1 (b.tabs.getD q tab0) ((y_.getD (((b.tabs.getD q tab0).frm).toNat) (0, 0)).1, (y_.getD (((b.tabs.getD q tab0).frm).toNat) (0, 0)).2)).1, (g_1 (b.tabs.getD q tab0) ((y_.getD (((b.tabs.getD q tab0).frm).toNat) (0, 0)).1, (y_.getD (((b.tabs.getD q tab0).frm).toNat) (0, 0)).2)).2)).2))])), (fun (D : Nat → Value) (v_ : Value) (rs_ : List Res) => ∃ (b13_ : Nat), v_ = (bptr b13_ 0) ∧ rs_ = [(blk b13_ 27 [(iv 0), (iv 0)])])] (by decide +kernel) (by decide +kernel) rfl rfl ⟨dw, dw, dw, dw, dw, dw, dw, dw, dw, dw, dw, dw, dw, (fun _ _ _ _ _ h_ => h_), trivial⟩ ?_ ?_
    ·skip
     refine ⟨fun a w D hA hS hd => gv1 (a_1 rfl hA.e), ?_⟩
     refine ⟨fun a w D hA hS hd => gv1 (a_4 rfl t_7 hA.e), ?_⟩
     refine ⟨fun a w D hA hS hd => gv1 (a_3 rfl ty_3 (gu hd 1) (hS.bk 0 rfl) rfl), ?_⟩
     refine ⟨fun a w D hA hS hd => gv1 (b_0 rfl x_9 k_6 (gu hd 0) (i := ((b.tabs.getD q tab0).dst).toNat) ((gu hd 2).trans (h_4 (by omega))) (SlAt.d_6 (hS.e_4 1 rfl)) (by decide) (by omega)), ?_⟩
     refine ⟨fun a w D hA hS hd => gv1 (e_7 rfl k_6 (gu hd 3) (SlAt.d_6 (hS.e_4 1 rfl)) (g_8 (by omega)) rfl (by decide)), ?_⟩
     refine ⟨fun a w D hA hS hd => gv1 (c_5 rfl z_9 (hA.ev rfl) (hS.bk 0 rfl) (l := [(iv ((b.tabs.getD q tab0).frm)), (iv ((b.tabs.getD q tab0).dst)), (lr q), (lb q), (iv ((b.tabs.getD q tab0).err))]) rfl rfl), ?_⟩
     refine ⟨fun a w D hA hS hd => gv1 (a_1 rfl hA.e), ?_⟩
     refine ⟨fun a w D hA hS hd => gv1 (a_4 rfl z_2 hA.e), ?_⟩
     refine ⟨fun a w D hA hS hd => gv1 (a_3 rfl ty_3 (gu hd 7) (hS.bk 0 rfl) rfl), ?_⟩
     refine ⟨fun a w D hA hS hd => gv1 (b_0 rfl x_9 k_6 (gu hd 6) (i := ((b.tabs.getD q tab0).frm).toNat) ((gu hd 8).trans (h_4 (by omega))) (SlAt.d_6 (hS.e_4 1 rfl)) (by decide) (by omega)), ?_⟩
     refine ⟨fun a w D hA hS hd => gv1 (e_7 rfl k_6 (gu hd 9) (SlAt.d_6 (hS.e_4 1 rfl)) (g_8 (by omega)) rfl (by decide)), ?_⟩
     refine ⟨fun a w D hA hS hd => gx1 (b_3 rfl en_24 (ev2 (gu hd 5) (gu hd 10)) (rconvert_ok ((y_.getD (((b.tabs.getD q tab0).frm).toNat) (0, 0)).1) ((y_.getD (((b.tabs.getD q tab0).frm).toNat) (0, 0)).2) (b.tabs.getD q tab0) _ _ _ ((c_1 (hS.ok 3 _ rfl)).row (i := q) (by omega)) ((c_1 (hS.ok 3 _ rfl)).brk (i := q) (by omega)) (hth.rl _) (hth.bl _) _ (hb.tab (by omega)))), ?_⟩
     refine ⟨fun a w D hA hS hd => gx1 (b_3 rfl en_60 (ev2 (gu hd 4) (gu hd 11)) (rcut_ok _ _ _ _ _)), ?_⟩
     refine ⟨fun a w D hA hS hd => d_4 rfl (valloc rfl ze_27 (cs := [(iv 0), (iv 0)]) rfl (fun b_ => ⟨b_, rfl, rfl⟩)), ?_⟩
     trivial
    intro EC EW D rsf297 B7 C A3; clear B6 AE
    obtain ⟨A8, DK⟩ := C 13 (by decide)
    obtain ⟨b13_, CZ, CY⟩ := DK
    have CP : Sep NoB w EW [(blk b13_ 27 [(iv 0), (iv 0)]), (blk A 46 [(iv ((b.tabs.getD q tab0).frm)), (iv ((b.tabs.getD q tab0).dst)), (lr q), (lb q), (iv ((b.tabs.getD q tab0).err))]), (row v6_ 27 2 y_.length (pairs y_)), (blk B 25 [(iv b.scales), vt, vm]), (d_3 false vt lr lb b.tabs), (d_9 false vm lk b.macs), (sl xl 2 l.length (pairs l))] := by rw [show catR rsf297 0 14 = ([(blk b13_ 27 [(iv 0), (iv 0)])] : List Res) by (try simp only [catR, gr (C 0 (by decide)), gr (C 1 (by decide)), gr (C 2 (by decide)), gr (C 3 (by decide)), gr (C 4 (by decide)), gr (C 5 (by decide)), gr (C 6 (by decide)), gr (C 7 (by decide)), gr (C 8 (by decide)), gr (C 9 (by decide)), gr (C 10 (by decide)), gr (C 11 (by decide)), gr (C 12 (by decide)), CY]); (try rfl)] at A3; exact A3
    have B8 := B7.add (gs (C 12 (by decide))); clear B7
    rw [CZ] at A8
    have p : Fr 164 [] [(15, (bptr b13_ 0)), (150, (Value.agg #[(iv ((cutR ((y_.getD (((b.tabs.getD q tab0).dst).toNat) (0, 0)).1, (y_.getD (((b.tabs.getD q tab0).dst).toNat) (0, 0)).2) ((g_1 (b.tabs.getD q tab0) ((y_.getD (((b.tabs.getD q tab0).frm).toNat) (0, 0)).1, (y_.getD (((b.tabs.getD q tab0).frm).toNat) (0, 0)).2)).1, (g_1 (b.tabs.getD q tab0) ((y_.getD (((b.tabs.getD q tab0).frm).toNat) (0, 0)).1, (y_.getD (((b.tabs.getD q tab0).frm).toNat) (0, 0)).2)).2)).1)), (iv ((cutR ((y_.getD (((b.tabs.getD q tab0).dst).toNat) (0, 0)).1, (y_.getD (((b.tabs.getD q tab0).dst).toNat) (0, 0)).2) ((g_1 (b.tabs.getD q tab0) ((y_.getD (((b.tabs.getD q tab0).frm).toNat) (0, 0)).1, (y_.getD (((b.tabs.getD q tab0).frm).toNat) (0, 0)).2)).1, (g_1 (b.tabs.getD q tab0) ((y_.getD (((b.tabs.getD q tab0).frm).toNat) (0, 0)).1, (y_.getD (((b.tabs.getD q tab0).frm).toNat) (0, 0)).2)).2)).2))])), (14, (bptr A 0)), (13, (iv (q : Int))), (11, (Value.bool cg_)), (6, v6_), (2, (bptr B 0))] EC := B8.add (h_2 A8 rfl); clear B8
    clear C A3 A8
    clear CY
    clear CZ
    refine s7 p (c_0 CP rfl k_6 p.e p.e (i := 0) rfl (vs := [(iv ((cutR ((y_.getD (((b.tabs.getD q tab0).dst).toNat) (0, 0)).1, (y_.getD (((b.tabs.getD q tab0).dst).toNat) (0, 0)).2) ((g_1 (b.tabs.getD q tab0) ((y_.getD (((b.tabs.getD q tab0).frm).toNat) (0, 0)).1, (y_.getD (((b.tabs.getD q tab0).frm).toNat) (0, 0)).2)).1, (g_1 (b.tabs.getD q tab0) ((y_.getD (((b.tabs.getD q tab0).frm).toNat) (0, 0)).1, (y_.getD (((b.tabs.getD q tab0).frm).toNat) (0, 0)).2)).2)).1)), (iv ((cutR ((y_.getD (((b.tabs.getD q tab0).dst).toNat) (0, 0)).1, (y_.getD (((b.tabs.getD q tab0).dst).toNat) (0, 0)).2) ((g_1 (b.tabs.getD q tab0) ((y_.getD (((b.tabs.getD q tab0).frm).toNat) (0, 0)).1, (y_.getD (((b.tabs.getD q tab0).frm).toNat) (0, 0)).2)).1, (g_1 (b.tabs.getD q tab0) ((y_.getD (((b.tabs.getD q tab0).frm).toNat) (0, 0)).1, (y_.getD (((b.tabs.getD q tab0).frm).toNat) (0, 0)).2)).2)).2))]) rfl rfl rfl (Nat.le_of_ble_eq_true rfl)) ?_
    intro _ EX CQ B9; clear p
    have CR : Sep NoB w EX [(blk b13_ 27 [(iv ((cutR ((y_.getD (((b.tabs.getD q tab0).dst).toNat) (0, 0)).1, (y_.getD (((b.tabs.getD q tab0).dst).toNat) (0, 0)).2) ((g_1 (b.tabs.getD q tab0) ((y_.getD (((b.tabs.getD q tab0).frm).toNat) (0, 0)).1, (y_.getD (((b.tabs.getD q tab0).frm).toNat) (0, 0)).2)).1, (g_1 (b.tabs.getD q tab0) ((y_.getD (((b.tabs.getD q tab0).frm).toNat) (0, 0)).1, (y_.getD (((b.tabs.getD q tab0).frm).toNat) (0, 0)).2)).2)).1)), (iv ((cutR ((y_.getD (((b.tabs.getD q tab0).dst).toNat) (0, 0)).1, (y_.getD (((b.tabs.getD q tab0).dst).toNat) (0, 0)).2) ((g_1 (b.tabs.getD q tab0) ((y_.getD (((b.tabs.getD q tab0).frm).toNat) (0, 0)).1, (y_.getD (((b.tabs.getD q tab0).frm).toNat) (0, 0)).2)).1, (g_1 (b.tabs.getD q tab0) ((y_.getD (((b.tabs.getD q tab0).frm).toNat) (0, 0)).1, (y_.getD (((b.tabs.getD q tab0).frm).toNat) (0, 0)).2)).2)).2))]), (blk A 46 [(iv ((b.tabs.getD q tab0).frm)), (iv ((b.tabs.getD q tab0).dst)), (lr q), (lb q), (iv ((b.tabs.getD q tab0).err))]), (row v6_ 27 2 y_.length (pairs y_)), (blk B 25 [(iv b.scales), vt, vm]), (d_3 false vt lr lb b.tabs), (d_9 false vm lk b.macs), (sl xl 2 l.length (pairs l))] := CQ; clear CQ CP
    refine n2 ?_
    have CA := B9.as [(15, (bptr b13_ 0)), (14, (bptr A 0)), (13, (iv (q : Int))), (11, (Value.bool cg_)), (6, v6_), (2, (bptr B 0))] rfl; clear B9
    refine g_2 mixed CA CR 6 [[], [], [], [2], [1, 3], [4]] [(Yd.val (Value.agg #[(iv ((cutR ((y_.getD (((b.tabs.getD q tab0).dst).toNat) (0, 0)).1, (y_.getD (((b.tabs.getD q tab0).dst).toNat) (0, 0)).2) ((g_1 (b.tabs.getD q tab0) ((y_.getD (((b.tabs.getD q tab0).frm).toNat) (0, 0)).1, (y_.getD (((b.tabs.getD q tab0).frm).toNat) (0, 0)).2)).1, (g_1 (b.tabs.getD q tab0) ((y_.getD (((b.tabs.getD q tab0).frm).toNat) (0, 0)).1, (y_.getD (((b.tabs.getD q tab0).frm).toNat) (0, 0)).2)).2)).1)), (iv ((cutR ((y_.getD (((b.tabs.getD q tab0).dst).toNat) (0, 0)).1, (y_.getD (((b.tabs.getD q tab0).dst).toNat) (0, 0)).2) ((g_1 (b.tabs.getD q tab0) ((y_.getD (((b.tabs.getD q tab0).frm).toNat) (0, 0)).1, (y_.getD (((b.tabs.getD q tab0).frm).toNat) (0, 0)).2)).1, (g_1 (b.tabs.getD q tab0) ((y_.getD (((b.tabs.getD q tab0).frm).toNat) (0, 0)).1, (y_.getD (((b.tabs.getD q tab0).frm).toNat) (0, 0)).2)).2)).2))])), (Yd.val v6_), (Yd.val (bptr A 1)), (Yd.val (iv ((b.tabs.getD q tab0).dst))), (Yd.val (eptr v6_ (((b.tabs.getD q tab0).dst).toNat * 2))), (Yd.val (Value.agg #[(iv ((y_.getD (((b.tabs.getD q tab0).dst).toNat) (0, 0)).1)), (iv ((y_.getD (((b.tabs.getD q tab0).dst).toNat) (0, 0)).2))]))] (by decide +kernel) rfl rfl ?_ ?_
    ·skip
     refine dq (fun a w hA hS hd => c_5 rfl k_6 (hA.ev rfl) (hS.bk 0 rfl) (l := [(iv ((cutR ((y_.getD (((b.tabs.getD q tab0).dst).toNat) (0, 0)).1, (y_.getD (((b.tabs.getD q tab0).dst).toNat) (0, 0)).2) ((g_1 (b.tabs.getD q tab0) ((y_.getD (((b.tabs.getD q tab0).frm).toNat) (0, 0)).1, (y_.getD (((b.tabs.getD q tab0).frm).toNat) (0, 0)).2)).1, (g_1 (b.tabs.getD q tab0) ((y_.getD (((b.tabs.getD q tab0).frm).toNat) (0, 0)).1, (y_.getD (((b.tabs.getD q tab0).frm).toNat) (0, 0)).2)).2)).1)), (iv ((cutR ((y_.getD (((b.tabs.getD q tab0).dst).toNat) (0, 0)).1, (y_.getD (((b.tabs.getD q tab0).dst).toNat) (0, 0)).2) ((g_1 (b.tabs.getD q tab0) ((y_.getD (((b.tabs.getD q tab0).frm).toNat) (0, 0)).1, (y_.getD (((b.tabs.getD q tab0).frm).toNat) (0, 0)).2)).1, (g_1 (b.tabs.getD q tab0) ((y_.getD (((b.tabs.getD q tab0).frm).toNat) (0, 0)).1, (y_.getD (((b.tabs.getD q tab0).frm).toNat) (0, 0)).2)).2)).2))]) rfl rfl) ?_
     refine dq (fun a w hA hS hd => a_1 rfl hA.e) ?_
     refine dq (fun a w hA hS hd => a_4 rfl t_7 hA.e) ?_
     refine dq (fun a w hA hS hd => a_3 rfl ty_3 (hq hd 2) (hS.bk 1 rfl) rfl) ?_
     refine dq (fun a w hA hS hd => b_0 rfl x_9 k_6 (hq hd 1) (i := ((b.tabs.getD q tab0).dst).toNat) ((hq hd 3).trans (h_4 (by omega))) (SlAt.d_6 (hS.e_4 2 rfl)) (by decide) (by omega)) ?_
     refine dq (fun a w hA hS hd => e_7 rfl k_6 (hq hd 4) (SlAt.d_6 (hS.e_4 2 rfl)) (g_8 (by omega)) rfl (by decide)) ?_
     trivial
    intro ED FN CB Q A0; clear CA CR
    have CC := CB.add (hz A0 0); clear CB
    have r := CC.add (hz A0 5); clear CC
    clear A0
    refine s1 r (op_neqP tw_27 rfl r.e r.e) fun Cc E => ?_; clear r ED
    refine n1 ?_
    rcases Bool.eq_false_or_eq_true ((decide ((((cutR ((y_.getD (((b.tabs.getD q tab0).dst).toNat) (0, 0)).1, (y_.getD (((b.tabs.getD q tab0).dst).toNat) (0, 0)).2) ((g_1 (b.tabs.getD q tab0) ((y_.getD (((b.tabs.getD q tab0).frm).toNat) (0, 0)).1, (y_.getD (((b.tabs.getD q tab0).frm).toNat) (0, 0)).2)).1, (g_1 (b.tabs.getD q tab0) ((y_.getD (((b.tabs.getD q tab0).frm).toNat) (0, 0)).1, (y_.getD (((b.tabs.getD q tab0).frm).toNat) (0, 0)).2)).2)).1) : Int) = ((y_.getD (((b.tabs.getD q tab0).dst).toNat) (0, 0)).1)) && decide ((((cutR ((y_.getD (((b.tabs.getD q tab0).dst).toNat) (0, 0)).1, (y_.getD (((b.tabs.getD q tab0).dst).toNat) (0, 0)).2) ((g_1 (b.tabs.getD q tab0) ((y_.getD (((b.tabs.getD q tab0).frm).toNat) (0, 0)).1, (y_.getD (((b.tabs.getD q tab0).frm).toNat) (0, 0)).2)).1, (g_1 (b.tabs.getD q tab0) ((y_.getD (((b.tabs.getD q tab0).frm).toNat) (0, 0)).1, (y_.getD (((b.tabs.getD q tab0).frm).toNat) (0, 0)).2)).2)).2) : Int) = ((y_.getD (((b.tabs.getD q tab0).dst).toNat) (0, 0)).2)))) with V | V
    ·skip
     rw [V] at E
     have DI := V; simp only [Bool.and_eq_true, Bool.and_eq_false_iff, decide_eq_true_eq, decide_eq_false_iff_not] at DI
     refine b_4 E rfl (c_6 (g_6 (a_7 (a_5 (s1 E (a_1 rfl E.e) fun EE Aj => ?_))))); clear E Cc
     refine s1 Aj (f_0 rfl Aj.e (evc _ _) (by omega) (by omega)) fun EF Ak => ?_; clear Aj EE
     refine s1 Ak (a_0 rfl Ak.e) fun E5 C9 => ?_; clear Ak EF
     refine e_2 ?_
     have DF := Q.gkp (gpc 2 (gpc 3 (gpc 4 (gpc 5 (gpc 6 gpn))))); clear Q
     exact a_7 ⟨q + 1, ⟨y_, cg_, C9.as _ rfl, DF, by omega, (T.keep (pair_eq' (by assumption)))⟩, by omega⟩
    skip
    rw [V] at E
    have DJ := V; simp only [Bool.and_eq_true, Bool.and_eq_false_iff, decide_eq_true_eq, decide_eq_false_iff_not] at DJ
    refine b_7 E rfl (m2 (s1 E (a_1 rfl E.e) fun EG Al => ?_)); clear E Cc
    refine s1 Al (a_4 rfl t_7 Al.e) fun EH Am => ?_; clear Al EG
    refine s1 Am (a_3 rfl ty_3 Am.e (Q.bk 1 rfl) rfl) fun EI An => ?_; clear Am EH
    refine s1 An (c_5 rfl k_6 (An.ev rfl) (Q.bk 0 rfl) (l := [(iv ((cutR ((y_.getD (((b.tabs.getD q tab0).dst).toNat) (0, 0)).1, (y_.getD (((b.tabs.getD q tab0).dst).toNat) (0, 0)).2) ((g_1 (b.tabs.getD q tab0) ((y_.getD (((b.tabs.getD q tab0).frm).toNat) (0, 0)).1, (y_.getD (((b.tabs.getD q tab0).frm).toNat) (0, 0)).2)).1, (g_1 (b.tabs.getD q tab0) ((y_.getD (((b.tabs.getD q tab0).frm).toNat) (0, 0)).1, (y_.getD (((b.tabs.getD q tab0).frm).toNat) (0, 0)).2)).2)).1)), (iv ((cutR ((y_.getD (((b.tabs.getD q tab0).dst).toNat) (0, 0)).1, (y_.getD (((b.tabs.getD q tab0).dst).toNat) (0, 0)).2) ((g_1 (b.tabs.getD q tab0) ((y_.getD (((b.tabs.getD q tab0).frm).toNat) (0, 0)).1, (y_.getD (((b.tabs.getD q tab0).frm).toNat) (0, 0)).2)).1, (g_1 (b.tabs.getD q tab0) ((y_.getD (((b.tabs.getD q tab0).frm).toNat) (0, 0)).1, (y_.getD (((b.tabs.getD q tab0).frm).toNat) (0, 0)).2)).2)).2))]) rfl rfl) fun EJ s => ?_; clear An EI
    refine s1 s (b_0 rfl x_9 k_6 s.e (i := ((b.tabs.getD q tab0).dst).toNat) (s.e.trans (h_4 (by omega))) (SlAt.d_6 (Q.e_4 2 rfl)) (by decide) (by omega)) fun EK x => ?_; clear s EJ
    refine s7 x (op_storeE Q rfl k_6 x.e x.e (i := 2) rfl (vs := [(iv ((cutR ((y_.getD (((b.tabs.getD q tab0).dst).toNat) (0, 0)).1, (y_.getD (((b.tabs.getD q tab0).dst).toNat) (0, 0)).2) ((g_1 (b.tabs.getD q tab0) ((y_.getD (((b.tabs.getD q tab0).frm).toNat) (0, 0)).1, (y_.getD (((b.tabs.getD q tab0).frm).toNat) (0, 0)).2)).1, (g_1 (b.tabs.getD q tab0) ((y_.getD (((b.tabs.getD q tab0).frm).toNat) (0, 0)).1, (y_.getD (((b.tabs.getD q tab0).frm).toNat) (0, 0)).2)).2)).1)), (iv ((cutR ((y_.getD (((b.tabs.getD q tab0).dst).toNat) (0, 0)).1, (y_.getD (((b.tabs.getD q tab0).dst).toNat) (0, 0)).2) ((g_1 (b.tabs.getD q tab0) ((y_.getD (((b.tabs.getD q tab0).frm).toNat) (0, 0)).1, (y_.getD (((b.tabs.getD q tab0).frm).toNat) (0, 0)).2)).1, (g_1 (b.tabs.getD q tab0) ((y_.getD (((b.tabs.getD q tab0).frm).toNat) (0, 0)).1, (y_.getD (((b.tabs.getD q tab0).frm).toNat) (0, 0)).2)).2)).2))]) rfl rfl rfl (by simp only [b_2, List.length_set]; omega) (by decide)) ?_
    intro _ FO CS CD; have CT := CS.f_6 (i := 2) rfl (n' := (y_.set (((b.tabs.getD q tab0).dst).toNat) ((cutR ((y_.getD (((b.tabs.getD q tab0).dst).toNat) (0, 0)).1, (y_.getD (((b.tabs.getD q tab0).dst).toNat) (0, 0)).2) ((g_1 (b.tabs.getD q tab0) ((y_.getD (((b.tabs.getD q tab0).frm).toNat) (0, 0)).1, (y_.getD (((b.tabs.getD q tab0).frm).toNat) (0, 0)).2)).1, (g_1 (b.tabs.getD q tab0) ((y_.getD (((b.tabs.getD q tab0).frm).toNat) (0, 0)).1, (y_.getD (((b.tabs.getD q tab0).frm).toNat) (0, 0)).2)).2)).1, (cutR ((y_.getD (((b.tabs.getD q tab0).dst).toNat) (0, 0)).1, (y_.getD (((b.tabs.getD q tab0).dst).toNat) (0, 0)).2) ((g_1 (b.tabs.getD q tab0) ((y_.getD (((b.tabs.getD q tab0).frm).toNat) (0, 0)).1, (y_.getD (((b.tabs.getD q tab0).frm).toNat) (0, 0)).2)).1, (g_1 (b.tabs.getD q tab0) ((y_.getD (((b.tabs.getD q tab0).frm).toNat) (0, 0)).1, (y_.getD (((b.tabs.getD q tab0).frm).toNat) (0, 0)).2)).2)).2)).length) (xs' := (pairs (y_.set (((b.tabs.getD q tab0).dst).toNat) ((cutR ((y_.getD (((b.tabs.getD q tab0).dst).toNat) (0, 0)).1, (y_.getD (((b.tabs.getD q tab0).dst).toNat) (0, 0)).2) ((g_1 (b.tabs.getD q tab0) ((y_.getD (((b.tabs.getD q tab0).frm).toNat) (0, 0)).1, (y_.getD (((b.tabs.getD q tab0).frm).toNat) (0, 0)).2)).1, (g_1 (b.tabs.getD q tab0) ((y_.getD (((b.tabs.getD q tab0).frm).toNat) (0, 0)).1, (y_.getD (((b.tabs.getD q tab0).frm).toNat) (0, 0)).2)).2)).1, (cutR ((y_.getD (((b.tabs.getD q tab0).dst).toNat) (0, 0)).1, (y_.getD (((b.tabs.getD q tab0).dst).toNat) (0, 0)).2) ((g_1 (b.tabs.getD q tab0) ((y_.getD (((b.tabs.getD q tab0).frm).toNat) (0, 0)).1, (y_.getD (((b.tabs.getD q tab0).frm).toNat) (0, 0)).2)).1, (g_1 (b.tabs.getD q tab0) ((y_.getD (((b.tabs.getD q tab0).frm).toNat) (0, 0)).1, (y_.getD (((b.tabs.getD q tab0).frm).toNat) (0, 0)).2)).2)).2)))) (by simp) (pairs_set _ _ (_, _)); clear CS x Q
    refine n1 ?_
    have CE := CD.as [(13, (iv (q : Int))), (6, v6_), (2, (bptr B 0))] rfl; clear CD
    refine a_5 (s1 CE (a_0 rfl (evc _ _)) fun EL Ap => ?_); clear CE EK
    refine e_2 (g_6 (a_7 (a_5 (s1 Ap (a_1 rfl Ap.e) fun EM Aq => ?_)))); clear Ap EL
    refine s1 Aq (f_0 rfl Aq.e (evc _ _) (by omega) (by omega)) fun EN Ar => ?_; clear Aq EM
    refine s1 Ar (a_0 rfl Ar.e) fun E6 DA => ?_; clear Ar EN
    refine e_2 ?_
    have DG := CT.gkp (gpc 2 (gpc 3 (gpc 4 (gpc 5 (gpc 6 gpn))))); clear CT
    exact a_7 ⟨q + 1, ⟨(y_.set (((b.tabs.getD q tab0).dst).toNat) ((cutR ((y_.getD (((b.tabs.getD q tab0).dst).toNat) (0, 0)).1, (y_.getD (((b.tabs.getD q tab0).dst).toNat) (0, 0)).2) ((g_1 (b.tabs.getD q tab0) ((y_.getD (((b.tabs.getD q tab0).frm).toNat) (0, 0)).1, (y_.getD (((b.tabs.getD q tab0).frm).toNat) (0, 0)).2)).1, (g_1 (b.tabs.getD q tab0) ((y_.getD (((b.tabs.getD q tab0).frm).toNat) (0, 0)).1, (y_.getD (((b.tabs.getD q tab0).frm).toNat) (0, 0)).2)).2)).1, (cutR ((y_.getD (((b.tabs.getD q tab0).dst).toNat) (0, 0)).1, (y_.getD (((b.tabs.getD q tab0).dst).toNat) (0, 0)).2) ((g_1 (b.tabs.getD q tab0) ((y_.getD (((b.tabs.getD q tab0).frm).toNat) (0, 0)).1, (y_.getD (((b.tabs.getD q tab0).frm).toNat) (0, 0)).2)).1, (g_1 (b.tabs.getD q tab0) ((y_.getD (((b.tabs.getD q tab0).frm).toNat) (0, 0)).1, (y_.getD (((b.tabs.getD q tab0).frm).toNat) (0, 0)).2)).2)).2)), true, DA.as _ rfl, DG, by omega, (T.cut hb.four hfu (hb.natV _ (o_9 (by omega))) (o_9 (by omega)) (by assumption) (pair_neq (by assumption)))⟩, by omega⟩
   skip
   rw [A7] at N
   refine b_7 N rfl (g_3 (b_1 (f_1 (a_7 ?_))))
   have As := N.as [(13, (iv (q : Int))), (11, (Value.bool cg_)), (6, v6_), (2, (bptr B 0))] rfl; clear N
   refine a_5 (s1 As (a_1 rfl As.e) fun EO At => ?_); clear As EB
   refine s1 At (f_0 rfl At.e (evc _ _) (by omega) (by omega)) fun EP Au => ?_; clear At EO
   refine s1 Au (a_0 rfl Au.e) fun E7 DB => ?_; clear Au EP
   refine e_2 ?_
   have DH := AE.gkp (gpc 1 (gpc 2 (gpc 3 (gpc 4 (gpc 5 gpn))))); clear AE
   exact a_7 ⟨q + 1, ⟨y_, cg_, DB.as _ rfl, DH, by omega, (T.skip hfu (hb.natV _ (o_9 (by omega))) (by first | exact .inl (by assumption) | exact .inr (.inl (by assumption)) | exact .inr (.inr (by assumption))))⟩, by omega⟩
  skip
  rw [decide_eq_false CW] at M
  refine b_4 M rfl (g_3 (b_1 (b_1 (f_1 (g_6 ?_)))))
  exact a_7 ⟨(measR b.scales.toNat y_ cg_), ⟨y_, cg_, M.as _ rfl, O, rfl, ⟨T.len, T.ub⟩, (fun hc_ => by have hz := T.same hc_; rw [hz.1]; exact ⟨hfu, fun i hi => hz.2 i (by omega)⟩)⟩, (by rw [hg, show ch_ = true by assumption]; exact meas_dec hfu T)⟩
 skip
 rw [A5] at H
 refine b_4 H rfl (g_3 (b_1 (b_1 (f_1 (a_7 (m2 (s1 H (a_1 rfl H.e) fun EQ Av => ?_))))))); clear H Ca
 refine s1 Av (a_0 rfl Av.e) fun ER CF => ?_; clear Av EQ
 refine s1 CF (a_0 rfl (evc _ _)) fun E8 CG => ?_; clear CF ER
 refine n1 (c_4 (a_9 CG (.inl rfl) (d_2 CG rfl (.tmp rfl) (.tmp rfl)) ?_))
 have hz := hst (by assumption)
 exact .inr ⟨x_, _, ref_some hb hl hri hz.1 hz.2, rfl, A2.keep [0] (by decide) _ rfl rfl⟩
end Go.Proofs.Ytohgladndklciaa

namespace Go.Proofs.Ytohgladndklciaa
open Go.RowKit Go.Shelf Go.Eng Go.Hard
end Go.Proofs.Ytohgladndklciaa

namespace Go.Hard
def lexB : List Int → List Int → Bool
  | a :: l, b :: m => if a = b then lexB l m else decide (a < b)
  | _, _ => false
def aa_6 (l m : List Int) : Bool := if l.length = m.length then lexB l m else decide (l.length < m.length)
theorem lex_self : ∀ l : List Int, lexB l l = false
  | [] => rfl
  | a :: l => by rw [lexB, if_pos rfl]; exact lex_self l
theorem less_self (l : List Int) : aa_6 l l = false := by rw [aa_6, if_pos rfl]; exact lex_self l
theorem lex_at : ∀ (k : Nat) (l m : List Int), l.length = m.length → k < l.length → (∀ i, i < k → l.getD i 0 = m.getD i 0) → ¬ l.getD k 0 = m.getD k 0 → lexB l m = decide (l.getD k 0 < m.getD k 0)
  | _, [], _, _, hk, _, _ => absurd hk (Nat.not_lt_zero _)
  | _, _ :: _, [], hl, _, _, _ => by simp at hl
  | 0, a :: l, b :: m, _, _, _, hn => by rw [lexB, if_neg (by simpa using hn)]; rfl
  | k + 1, a :: l, b :: m, hl, hk, he, hn => by
    have h0 := he 0 (by omega)
    rw [lexB, if_pos (by simpa using h0)]
    have := lex_at k l m (by simpa using hl) (by simpa using hk) (fun i hi => by have := he (i + 1) (by omega); simpa using this) (by simpa using hn)
    simpa using this
theorem less_ne {l m : List Int} (h : ¬ l.length = m.length) : aa_6 l m = decide ((l.length : Int) < (m.length : Int)) := by
  rw [aa_6, if_neg h]; exact decide_eq_decide.2 (by omega)
theorem less_at {k : Nat} {l m : List Int} (hl : l.length = m.length) (hk : k < l.length) (he : ∀ i, i < k → l.getD i 0 = m.getD i 0) (hn : ¬ l.getD k 0 = m.getD k 0) : aa_6 l m = decide (l.getD k 0 < m.getD k 0) := by
  rw [aa_6, if_pos hl]; exact lex_at k l m hl hk he hn
theorem list_same1 {l m : List Int} (h : l.length = m.length) (he : ∀ i, i < l.length → l.getD i 0 = m.getD i 0) : l = m := by
  refine List.ext_getElem h fun i h1 h2 => ?_
  have := he i h1
  simpa [List.getD, List.getElem?_eq_getElem h1, List.getElem?_eq_getElem h2] using this
theorem less_all {l m : List Int} (hl : l.length = m.length) (he : ∀ i, i < l.length → l.getD i 0 = m.getD i 0) : aa_6 l m = decide ((l.length : Int) < (m.length : Int)) := by
  rw [list_same1 hl he, less_self]; exact (decide_eq_false (by omega)).symm
def j_0 (s : Nat) : Nat → List Int
  | 0 => []
  | j + 1 => if ((s >>> j : Nat) : Int).tmod 2 = 1 then j_0 s j ++ [(j : Int)] else j_0 s j
theorem bits_y {s j : Nat} (h : ((s >>> j : Nat) : Int).tmod 2 = 1) : j_0 s (j + 1) = j_0 s j ++ [(j : Int)] := by rw [j_0, if_pos h]
theorem bits_n {s j : Nat} (h : ¬ ((s >>> j : Nat) : Int).tmod 2 = 1) : j_0 s (j + 1) = j_0 s j := by rw [j_0, if_neg h]
theorem bits_len (s : Nat) : ∀ j, (j_0 s j).length ≤ j
  | 0 => Nat.le_refl _
  | j + 1 => by
    have := bits_len s j
    rw [j_0]; split
    · rw [List.length_append]; simp only [List.length_cons, List.length_nil]; omega
    · omega
def rngI : Nat → List Int
  | 0 => []
  | k + 1 => rngI k ++ [(k : Int)]
theorem rngI_succ (k : Nat) : rngI (k + 1) = rngI k ++ [(k : Int)] := rfl
theorem rngI_len : ∀ k, (rngI k).length = k
  | 0 => rfl
  | k + 1 => by rw [rngI, List.length_append, rngI_len k]; rfl
def n_2 (p : List Int → Bool) (n : Nat) : Nat → List Int
  | 0 => rngI n
  | k + 1 => if aa_6 (j_0 k n) (n_2 p n k) && p (j_0 k n) then j_0 k n else n_2 p n k
theorem best_succ (p : List Int → Bool) (n k : Nat) : n_2 p n (k + 1) = if aa_6 (j_0 k n) (n_2 p n k) && p (j_0 k n) then j_0 k n else n_2 p n k := rfl
theorem best_len (p : List Int → Bool) (n : Nat) : ∀ k, (n_2 p n k).length ≤ n
  | 0 => by rw [n_2, rngI_len]; exact Nat.le_refl _
  | k + 1 => by
    rw [best_succ]; split
    · exact bits_len _ _
    · exact best_len p n k
def pwB : List (List Int) → Bool
  | [] => true
  | a :: A => (A.all fun b => aa_6 a b && !aa_6 b a) && pwB A
theorem pw_first {p : List Int → Bool} {x : List Int} : ∀ {A : List (List Int)}, pwB A = true → A.find? p = some x → ∀ b ∈ A, p b = true → b = x ∨ aa_6 x b = true ∧ aa_6 b x = false
  | [], _, h, _, _, _ => by cases h
  | a :: A, hp, h, b, hb, hpb => by
    rw [pwB, Bool.and_eq_true, List.all_eq_true] at hp
    rw [List.find?_cons] at h
    split at h <;> rename_i ha
    · obtain rfl := Option.some.inj h
      rcases List.mem_cons.1 hb with rfl | hb
      · exact .inl rfl
      · have := hp.1 b hb
        rw [Bool.and_eq_true, Bool.not_eq_true'] at this
        exact .inr this
    · rcases List.mem_cons.1 hb with rfl | hb
      · rw [ha] at hpb; cases hpb
      · exact pw_first hp.2 h b hb hpb
def allOk (n : Nat) : Bool := pwB (l_2 n (n + 1)) && ((List.range (2 ^ n)).all fun k => (l_2 n (n + 1)).contains (j_0 k n)) && ((l_2 n (n + 1)).all fun a => (List.range (2 ^ n)).any fun k => j_0 k n == a) && (l_2 n (n + 1)).contains (rngI n)
theorem all_ok : ∀ n, n < 7 → allOk n = true := by decide +kernel
theorem best_is {p : List Int → Bool} {n : Nat} {x : List Int} (hn : n ≤ 6) (h0 : p (rngI n) = true) (hx : (l_2 n (n + 1)).find? p = some x) : n_2 p n (2 ^ n) = x := by
  have hok := all_ok n (by omega)
  unfold allOk at hok
  simp only [Bool.and_eq_true, List.all_eq_true, List.any_eq_true, List.mem_range, List.contains_iff_mem, beq_iff_eq] at hok
  obtain ⟨⟨⟨hpw, hin⟩, hon⟩, hrg⟩ := hok
  have hfirst := pw_first hpw hx
  have hpx : p x = true := List.find?_some hx
  obtain ⟨kx, hkx, ex⟩ := hon x (List.mem_of_find?_eq_some hx)
  have key : ∀ k, k ≤ 2 ^ n → n_2 p n k ∈ l_2 n (n + 1) ∧ p (n_2 p n k) = true ∧ (kx < k → n_2 p n k = x) := by
    intro k
    induction k with
    | zero => intro _; exact ⟨hrg, h0, fun h => absurd h (Nat.not_lt_zero _)⟩
    | succ k ih =>
      intro hk
      obtain ⟨h1, h2, h3⟩ := ih (by omega)
      rw [best_succ]
      by_cases hc : (aa_6 (j_0 k n) (n_2 p n k) && p (j_0 k n)) = true
      · rw [if_pos hc]
        rw [Bool.and_eq_true] at hc
        refine ⟨hin k (by omega), hc.2, fun hlt => ?_⟩
        rcases Nat.lt_succ_iff_lt_or_eq.1 hlt with h | h
        · rw [h3 h] at hc
          rcases hfirst _ (hin k (by omega)) hc.2 with h | h
          · exact h
          · rw [h.2] at hc; cases hc.1
        · subst h; exact ex
      · rw [if_neg hc]
        refine ⟨h1, h2, fun hlt => ?_⟩
        rcases Nat.lt_succ_iff_lt_or_eq.1 hlt with h | h
        · exact h3 h
        · subst h
          rw [ex] at hc
          rcases hfirst _ h1 h2 with h | h
          · exact h
          · exact absurd (by rw [Bool.and_eq_true]; exact ⟨h.1, hpx⟩) hc
  exact (key _ (Nat.le_refl _)).2.2 hkx
theorem rng_nums : ∀ n, rngI n = numsF n
  | 0 => rfl
  | n + 1 => by rw [rngI, rng_nums n]; unfold numsF; rw [List.range_succ, List.map_append]; rfl
theorem best_doubt {b : h_7} {l : List (Int × Int)} (hb : l_3 b) (h6 : l.length ≤ 6) : n_2 (okS b l) l.length (2 ^ l.length) = l_0 b l := by
  have hall : okS b l (rngI l.length) = true := by rw [rng_nums]; exact ok_all hb
  unfold l_0
  cases hf : (l_2 l.length (l.length + 1)).find? (okS b l) with
  | some x => exact best_is h6 hall hf
  | none =>
    have hok := all_ok l.length (by omega)
    unfold allOk at hok
    simp only [Bool.and_eq_true, List.contains_iff_mem] at hok
    exact absurd hall (List.find?_eq_none.1 hf _ hok.2)
theorem bits_p {n k : Nat} {p : List Int → Bool} (hl : aa_6 (j_0 k n) (n_2 p n k) = true) (hp : p (j_0 k n) = true) : n_2 p n (k + 1) = j_0 k n := by rw [best_succ, hl, hp]; rfl
theorem bits_m {n k : Nat} {p : List Int → Bool} (hl : aa_6 (j_0 k n) (n_2 p n k) = false) : n_2 p n (k + 1) = n_2 p n k := by rw [best_succ, hl]; rfl
theorem bits_q {n k : Nat} {p : List Int → Bool} (hp : ¬ p (j_0 k n) = true) : n_2 p n (k + 1) = n_2 p n k := by rw [best_succ, if_neg (by rw [Bool.and_eq_true]; exact fun h => hp h.2)]
end Go.Hard

namespace Go.Proofs.Ytohgladndklciaa
open Go.RowKit Go.Shelf Go.Eng Go.Hard
theorem rspans_any (b : h_7) (vt vm : Value) (lr lb lk : Nat → Value) (w : World) (hT : j_1 w vt lr lb b.tabs) (hM : k_0 w vm lk b.macs) (hth : n_5 b) (hb : l_3 b) (l : List (Int × Int)) (xl : Value) (hxl : SlAt w xl 2 l.length (pairs l)) (hl : p_8 b l) : Calls Try.prog 28 #[.agg #[.int .i64 b.scales, vt, vm], xl] w (Ret fun v w' => ∃ u, v = .tuple #[u, .bool (k_5 b l).isSome] ∧ Ext NoB w w') := by
 refine (rspans_ok b vt vm lr lb lk w hT hM hth hb l xl hxl hl).mono fun e w' he => ?_
 cases e with
 | panicked c => exact he.elim
 | outgrown => exact he.elim
 | returned v =>
  rcases he with ⟨A, B, C⟩ | ⟨t, u, A, B, C⟩
  ·exact ⟨_, by rw [A]; exact B, C⟩
  exact ⟨u, by rw [A]; exact B, C.ext⟩
theorem less_ok (z : List Int) (xz : Value) (w : World) (hxz : SlAt w xz 1 z.length (ints z)) (m : List Int) (xm : Value) (hxm : SlAt w xm 1 m.length (ints m)) (hlb : z.length ≤ 1000000) :
  Calls Try.prog 76 #[xz, xm] w (Ret fun v w' => v = .bool (aa_6 z m) ∧ Ext NoB w w') := by
 refine a_8 Try.func76 rfl fun a0 q => ?_
 replace q : Fr 42 [] [(0, xz), (1, xm)] a0 := q
 have AQ : Sep NoB w w [(sl xz 1 z.length (ints z)), (sl xm 1 m.length (ints m))] := f_2 ⟨rfl, hxz, rfl, hxm, trivial⟩
 refine m2 (s1 q (a_0 rfl (evc _ _)) fun a1 AN => ?_); clear q a0
 refine n2 (m2 (s1 AN (a_0 rfl (evc _ _)) fun a3 AO => ?_)); clear AN a1
 refine n1 (c_2 ?_)
 have AP := AO.as [(5, (iv 0)), (0, xz), (1, xm)] rfl; clear AO
 refine g_7 (G := Nat) (fun (k : Nat) a_ w_ => Fr 42 [] [(5, (iv (k : Int))), (0, xz), (1, xm)] a_ ∧ Sep NoB w w_ [(sl xz 1 z.length (ints z)), (sl xm 1 m.length (ints m))] ∧ (k ≤ z.length) ∧ (∀ i, i < k → z.getD i 0 = m.getD i 0)) (fun k => z.length - k) 0 ⟨AP.as _ rfl, AQ, by omega, (fun _ h => absurd h (Nat.not_lt_zero _))⟩ ?_
 clear AP AQ a3
 rintro k a6 w8 ⟨AD, C, hkk, hq_⟩
 refine b_5 (m2 (s1 AD (a_1 rfl AD.e) fun AV N => ?_)); clear AD a6
 refine s1 N (a_1 rfl N.e) fun AW O => ?_; clear N AV
 refine s1 O (c_9 rfl j_3 O.e (C.sk 0 rfl)) fun AX F => ?_; clear O AW
 refine s1 F (f_5 rfl F.e F.e) fun AY P => ?_; clear F AX
 refine s1 P (a_1 rfl P.e) fun AM D => ?_; clear P AY
 by_cases AJ : (k : Int) < (z.length : Int)
 ·skip
  rw [decide_eq_true AJ] at D
  refine s5 D (a_1 rfl D.e) fun AZ Q => ?_; clear D AM
  refine s5 Q (c_9 rfl j_3 Q.e (C.sk 0 rfl)) fun Aa R => ?_; clear Q AZ
  refine s5 R (a_1 rfl R.e) fun Ab S => ?_; clear R Aa
  refine s5 S (c_9 rfl j_3 S.e (C.sk 1 rfl)) fun Ac H => ?_; clear S Ab
  refine s5 H (m_4 rfl H.e H.e) fun Ad I => ?_; clear H Ac
  refine s1 I (b_6 rfl I.e I.e) fun Ae B => ?_; clear I Ad
  refine n1 ?_
  by_cases AK : (z.length : Int) = (m.length : Int)
  ·skip
   rw [decide_eq_true AK] at B
   refine b_7 B rfl (c_6 (a_7 (b_5 (c_2 (b_5 ?_)))))
   have s := B.as [(5, (iv (k : Int))), (0, xz), (1, xm)] rfl; clear B
   have t := s.as [(5, (iv (k : Int))), (0, xz), (1, xm)] rfl; clear s
   refine g_2 mixed t C 8 [[], [], [0, 1], [2], [], [], [4, 5], [6]] [(Yd.val xz), (Yd.val (iv (k : Int))), (Yd.val (eptr xz (k * 1))), (Yd.val (iv (z.getD k 0))), (Yd.val xm), (Yd.val (iv (k : Int))), (Yd.val (eptr xm (k * 1))), (Yd.val (iv (m.getD k 0)))] (by decide +kernel) rfl rfl ?_ ?_
   ·skip
    refine dq (fun a w hA hS hd => a_1 rfl hA.e) ?_
    refine dq (fun a w hA hS hd => a_1 rfl hA.e) ?_
    refine dq (fun a w hA hS hd => b_0 rfl j_3 ty_3 (hq hd 0) (i := k) (hq hd 1) (hS.sk 0 rfl) (by decide) (by omega)) ?_
    refine dq (fun a w hA hS hd => b_9 rfl ty_3 (hq hd 2) (hS.sk 0 rfl) (ints_at (by omega))) ?_
    refine dq (fun a w hA hS hd => a_1 rfl hA.e) ?_
    refine dq (fun a w hA hS hd => a_1 rfl hA.e) ?_
    refine dq (fun a w hA hS hd => b_0 rfl j_3 ty_3 (hq hd 4) (i := k) (hq hd 5) (hS.sk 1 rfl) (by decide) (by omega)) ?_
    refine dq (fun a w hA hS hd => b_9 rfl ty_3 (hq hd 6) (hS.sk 1 rfl) (ints_at (by omega))) ?_
    trivial
   intro Af A7 u p n; clear t C
   have x := u.add (hz n 3); clear u
   have J := x.add (hz n 7); clear x
   clear n
   refine s1 J (u_1 rfl J.e J.e) fun Ag A => ?_; clear J Af
   refine n1 ?_
   by_cases AL : (z.getD k 0) = (m.getD k 0)
   ·skip
    rw [decide_eq_true AL] at A
    refine b_4 A rfl (c_6 (g_6 (a_7 (a_5 (s1 A (a_1 rfl A.e) fun Ah T => ?_))))); clear A Ag
    refine s1 T (f_0 rfl T.e (evc _ _) (by omega) (by omega)) fun Ai U => ?_; clear T Ah
    refine s1 U (a_0 rfl U.e) fun A4 AS => ?_; clear U Ai
    refine e_2 ?_
    exact a_7 ⟨k + 1, ⟨AS.as _ rfl, p, by omega, (fun i hi => by rcases Nat.lt_succ_iff_lt_or_eq.1 hi with h | h; exact hq_ i h; subst h; assumption)⟩, by omega⟩
   skip
   rw [decide_eq_false AL] at A
   refine b_7 A rfl (b_5 ?_)
   have y := A.as [(5, (iv (k : Int))), (0, xz), (1, xm)] rfl; clear A
   refine g_2 mixed y p 8 [[], [], [0, 1], [2], [], [], [4, 5], [6]] [(Yd.val xz), (Yd.val (iv (k : Int))), (Yd.val (eptr xz (k * 1))), (Yd.val (iv (z.getD k 0))), (Yd.val xm), (Yd.val (iv (k : Int))), (Yd.val (eptr xm (k * 1))), (Yd.val (iv (m.getD k 0)))] (by decide +kernel) rfl rfl ?_ ?_
   ·skip
    refine dq (fun a w hA hS hd => a_1 rfl hA.e) ?_
    refine dq (fun a w hA hS hd => a_1 rfl hA.e) ?_
    refine dq (fun a w hA hS hd => b_0 rfl j_3 ty_3 (hq hd 0) (i := k) (hq hd 1) (hS.sk 0 rfl) (by decide) (by omega)) ?_
    refine dq (fun a w hA hS hd => b_9 rfl ty_3 (hq hd 2) (hS.sk 0 rfl) (ints_at (by omega))) ?_
    refine dq (fun a w hA hS hd => a_1 rfl hA.e) ?_
    refine dq (fun a w hA hS hd => a_1 rfl hA.e) ?_
    refine dq (fun a w hA hS hd => b_0 rfl j_3 ty_3 (hq hd 4) (i := k) (hq hd 5) (hS.sk 1 rfl) (by decide) (by omega)) ?_
    refine dq (fun a w hA hS hd => b_9 rfl ty_3 (hq hd 6) (hS.sk 1 rfl) (ints_at (by omega))) ?_
    trivial
   intro Aj A8 AA AT o; clear y p
   have AB := AA.add (hz o 3); clear AA
   have K := AB.add (hz o 7); clear AB
   clear o
   refine s1 K (f_5 rfl K.e K.e) fun Ak V => ?_; clear K Aj
   refine s1 V (a_0 rfl V.e) fun A5 AC => ?_; clear V Ak
   refine n1 (c_4 (c_7 (a_6 (a_6 (c_7 (a_6 (a_9 AC (.inl rfl) (a_2 AC rfl (.tmp rfl)) ?_)))))))
   exact ⟨congrArg Value.bool (Eq.symm (by first | exact less_at (k := k) (by omega) (by omega) (fun i hi => hq_ i (by omega)) (by assumption) | (by_cases hl_ : z.length = m.length; exact less_all hl_ (fun i hi => hq_ i (by omega)); exact less_ne hl_))), AT.ext⟩
  skip
  rw [decide_eq_false AK] at B
  refine b_4 B rfl (g_3 (b_1 (b_1 (f_1 (a_7 (b_5 ?_))))))
  have W := B.as [(0, xz), (1, xm)] rfl; clear B
  refine a_5 (s1 W (a_1 rfl W.e) fun Al X => ?_); clear W Ae
  refine s1 X (c_9 rfl j_3 X.e (C.sk 0 rfl)) fun Am Y => ?_; clear X Al
  refine s1 Y (a_1 rfl Y.e) fun An Z => ?_; clear Y Am
  refine s1 Z (c_9 rfl j_3 Z.e (C.sk 1 rfl)) fun Ao L => ?_; clear Z An
  refine s1 L (f_5 rfl L.e L.e) fun Ap b => ?_; clear L Ao
  refine s1 b (a_0 rfl b.e) fun A6 AE => ?_; clear b Ap
  refine n1 (c_4 (a_9 AE (.inl rfl) (a_2 AE rfl (.tmp rfl)) ?_))
  exact ⟨congrArg Value.bool (Eq.symm (by first | exact less_at (k := k) (by omega) (by omega) (fun i hi => hq_ i (by omega)) (by assumption) | (by_cases hl_ : z.length = m.length; exact less_all hl_ (fun i hi => hq_ i (by omega)); exact less_ne hl_))), C.ext⟩
 skip
 rw [decide_eq_false AJ] at D
 refine s3 D fun Aq AF => ?_; clear D AM
 refine s3 AF fun Ar AG => ?_; clear AF Aq
 refine s3 AG fun As AH => ?_; clear AG Ar
 refine s3 AH fun At AI => ?_; clear AH As
 refine s3 AI fun Au c => ?_; clear AI At
 refine s1 c (d_0 rfl c.e (evc _ _)) fun Av d => ?_; clear c Au
 refine n1 (b_4 d rfl (g_3 (b_1 (b_1 (f_1 (a_7 (b_5 ?_)))))))
 have f := d.as [(0, xz), (1, xm)] rfl; clear d
 refine a_5 (s1 f (a_1 rfl f.e) fun Aw g => ?_); clear f Av
 refine s1 g (c_9 rfl j_3 g.e (C.sk 0 rfl)) fun Ax j => ?_; clear g Aw
 refine s1 j (a_1 rfl j.e) fun Ay l => ?_; clear j Ax
 refine s1 l (c_9 rfl j_3 l.e (C.sk 1 rfl)) fun Az M => ?_; clear l Ay
 refine s1 M (f_5 rfl M.e M.e) fun AR E => ?_; clear M Az
 refine s1 E (a_0 rfl E.e) fun A1 r => ?_; clear E AR
 refine n1 (c_4 (a_9 r (.inl rfl) (a_2 r rfl (.tmp rfl)) ?_))
 exact ⟨congrArg Value.bool (Eq.symm (by first | exact less_at (k := k) (by omega) (by omega) (fun i hi => hq_ i (by omega)) (by assumption) | (by_cases hl_ : z.length = m.length; exact less_all hl_ (fun i hi => hq_ i (by omega)); exact less_ne hl_))), C.ext⟩
set_option maxHeartbeats 4000000 in
theorem rDoubtful_ok (b : h_7) (vt vm : Value) (lr lb lk : Nat → Value) (w : World) (hT : j_1 w vt lr lb b.tabs) (hM : k_0 w vm lk b.macs) (hth : n_5 b) (hb : l_3 b) (l : List (Int × Int)) (xl : Value) (hxl : SlAt w xl 2 l.length (pairs l)) (hl : p_8 b l) (h6 : l.length ≤ 6) :
  Calls Try.prog 42 #[(Value.agg #[(iv b.scales), vt, vm]), xl] w (Ret fun v w' => Ext NoB w w' ∧ w'.ownsRow w.heap.size 3 1 v (l_0 b l).length (ints (l_0 b l))) := by
 refine a_8 Try.func42 rfl fun a0 AS => ?_
 replace AS : Fr 61 [] [(0, (Value.agg #[(iv b.scales), vt, vm])), (1, xl)] a0 := AS
 obtain ⟨N, hN⟩ : ∃ N, 1 * 2 ^ l.length = N := ⟨_, rfl⟩
 have Ce : 2 ^ l.length = N := by rw [← hN, Nat.one_mul]
 have Cy : N ≤ 64 := by rw [← Ce]; exact Nat.pow_le_pow_right (by decide) h6
 have BX : Sep NoB w w [(d_3 false vt lr lb b.tabs), (d_9 false vm lk b.macs), (sl xl 2 l.length (pairs l))] := f_2 ⟨rfl, hT, rfl, hM, rfl, hxl, trivial⟩
 refine m2 (s2 AS (f_4 BX rfl AS.e (cs := [(iv b.scales), vt, vm]) rfl) ?_)
 rintro a1 _ w3 ⟨J, rfl, BY⟩ BU; clear AS BX a0
 refine s1 BU (a_0 rfl (evc _ _)) fun a6 BV => ?_; clear BU a1
 refine n4 (s1 BV (a_0 rfl (evc _ _)) fun a8 BW => ?_); clear BV a6
 have A7 := BY.p_4 3 1; clear BY
 refine n2 (m2 (s1 BW (a_0 rfl (evc _ _)) fun CA Ay => ?_)); clear BW a8
 refine n1 (c_2 ?_)
 have Az := Ay.as [(6, (iv 0)), (5, (Value.slice none 0 0)), (2, (bptr J 0)), (1, xl)] rfl; clear Ay
 refine g_7 (G := Nat) (fun (H : Nat) a_ w_ => ∃ v5_ : Value, Fr 61 [] [(6, (iv (H : Int))), (5, v5_), (2, (bptr J 0)), (1, xl)] a_ ∧ Sep NoB w w_ [(row v5_ 3 1 ((rngI H).length) (ints (rngI H))), (blk J 25 [(iv b.scales), vt, vm]), (d_3 false vt lr lb b.tabs), (d_9 false vm lk b.macs), (sl xl 2 l.length (pairs l))] ∧ (H ≤ l.length)) (fun H => l.length - H) 0 ⟨(Value.slice none 0 0), Az.as _ rfl, A7, by omega⟩ ?_
 clear Az A7 CA
 rintro H CB C2 ⟨v5_, AT, S, Cz⟩
 have hrl := rngI_len H
 refine b_5 (m2 (s1 AT (a_1 rfl AT.e) fun CC AU => ?_)); clear AT CB
 refine s1 AU (a_1 rfl AU.e) fun CD AV => ?_; clear AU CC
 refine s1 AV (c_9 rfl u_8 AV.e (S.sk 4 rfl)) fun CE AH => ?_; clear AV CD
 refine s1 AH (f_5 rfl AH.e AH.e) fun BR I => ?_; clear AH CE
 refine n1 ?_
 by_cases BB : (H : Int) < (l.length : Int)
 ·skip
  rw [decide_eq_true BB] at I
  refine b_7 I rfl (c_6 (a_7 (b_5 (c_2 (a_5 (s1 I (a_1 rfl I.e) fun CF AW => ?_)))))); clear I BR
  refine s1 AW (a_1 rfl AW.e) fun CG AX => ?_; clear AW CF
  refine s2 AX (f_9 S rfl (pv1 AX.e) j_3 ty_3 ze_3 (by decide) (cs := [(iv (H : Int))]) (bs_3_1_0i _)) ?_
  rintro CH _ C3 ⟨Cx, rfl, An⟩ AI; clear AX S CG
  refine s2 AI (j_9 An rfl j_3 el_3 AI.e AI.e (i := 1) rfl (SlAt.of_blk (An.bk 0 rfl) rfl (Nat.le_of_ble_eq_true rfl)) rfl (by simp only [maxLen]; omega) (by omega)) ?_
  intro CI BZ C4 A8 AY
  have A9 := A8.f_6 (i := 1) rfl (n' := ((rngI H) ++ [(H : Int)]).length) (xs' := (ints ((rngI H) ++ [(H : Int)]))) (by simp) (by simp [ints]); clear A8 AI An CH
  refine s1 AY (a_0 rfl AY.e) fun CJ A0 => ?_; clear AY CI
  refine e_2 (g_6 (a_7 ?_))
  have AZ := A0.as [(5, BZ), (6, (iv (H : Int))), (2, (bptr J 0)), (1, xl)] rfl; clear A0
  refine a_5 (s1 AZ (a_1 rfl AZ.e) fun CK Aa => ?_); clear AZ CJ
  refine s1 Aa (f_0 rfl Aa.e (evc _ _) (by omega) (by omega)) fun CL Ab => ?_; clear Aa CK
  refine s1 Ab (a_0 rfl Ab.e) fun Cw Bz => ?_; clear Ab CL
  refine e_2 ?_
  have B0 := A9.gkp (gpc 1 (gpc 2 (gpc 3 (gpc 4 (gpc 5 gpn))))); clear A9
  exact a_7 ⟨H + 1, ⟨BZ, Bz.as _ rfl, (B0.f_6 (i := 0) rfl (n' := ((rngI (H + 1))).length) (xs' := ints (rngI (H + 1))) (by rw [rngI_succ]) (by rw [rngI_succ])), by omega⟩, by omega⟩
 skip
 rw [decide_eq_false BB] at I
 refine b_4 I rfl (g_3 (b_1 (b_1 (f_1 (a_7 (b_5 (m2 (s1 I (a_0 rfl (evc _ _)) fun CM A1 => ?_)))))))); clear I BR
 refine n1 (c_2 ?_)
 have A2 := A1.as [(7, (iv 0)), (5, v5_), (2, (bptr J 0)), (1, xl)] rfl; clear A1
 refine g_7 (G := Nat) (fun (k : Nat) a_ w_ => ∃ v5_ : Value, Fr 61 [] [(7, (iv (k : Int))), (5, v5_), (2, (bptr J 0)), (1, xl)] a_ ∧ Sep NoB w w_ [(row v5_ 3 1 ((n_2 (okS b l) l.length k).length) (ints (n_2 (okS b l) l.length k))), (blk J 25 [(iv b.scales), vt, vm]), (d_3 false vt lr lb b.tabs), (d_9 false vm lk b.macs), (sl xl 2 l.length (pairs l))] ∧ (k ≤ N)) (fun k => N - k) 0 ⟨v5_, A2.as _ rfl, (S.f_6 (i := 0) rfl (n' := ((n_2 (okS b l) l.length 0)).length) (xs' := ints (n_2 (okS b l) l.length 0)) (by rw [show H = l.length by omega]; rfl) (by rw [show H = l.length by omega]; rfl)), by omega⟩ ?_
 clear A2 S CM
 rintro k CN C5 ⟨v5_, Ac, AO, hk⟩
 have hbl5 := best_len (okS b l) l.length k
 refine b_5 (m2 (s1 Ac (a_1 rfl Ac.e) fun CO Ad => ?_)); clear Ac CN
 refine s1 Ad (a_1 rfl Ad.e) fun CP Ae => ?_; clear Ad CO
 refine s1 Ae (c_9 rfl u_8 Ae.e (AO.sk 4 rfl)) fun CQ Af => ?_; clear Ae CP
 refine s1 Af (op_conv un_3 un_136 rfl Af.e (v := (l.length : Int)) (wrap_u64 (by omega) (by omega))) fun CR Ag => ?_; clear Af CQ
 refine s1 Ag (op_shlN rfl (m := 1) (show _ = Value.int .i64 ((1 : Nat) : Int) from (evc _ _)) (k := l.length) Ag.e hN (by omega) (by omega)) fun CS AJ => ?_; clear Ag CR
 refine s1 AJ (f_5 rfl AJ.e AJ.e) fun BS K => ?_; clear AJ CS
 refine n1 ?_
 by_cases BC : (k : Int) < (N : Int)
 ·skip
  rw [decide_eq_true BC] at K
  refine b_7 K rfl (c_6 (a_7 (b_5 (c_2 (b_5 ?_)))))
  have A3 := K.as [(7, (iv (k : Int))), (5, v5_), (2, (bptr J 0)), (1, xl)] rfl; clear K
  refine a_5 (s1 A3 (a_0 rfl (evc _ _)) fun CT A4 => ?_); clear A3 BS
  have BA := AO.p_4 3 1; clear AO
  refine n2 (m2 (s1 A4 (a_0 rfl (evc _ _)) fun CU A5 => ?_)); clear A4 CT
  refine n1 (c_2 ?_)
  have A6 := A5.as [(9, (iv 0)), (8, (Value.slice none 0 0)), (7, (iv (k : Int))), (5, v5_), (2, (bptr J 0)), (1, xl)] rfl; clear A5
  refine g_7 (G := Nat) (fun (j : Nat) a_ w_ => ∃ v8_ : Value, Fr 61 [] [(9, (iv (j : Int))), (8, v8_), (7, (iv (k : Int))), (5, v5_), (2, (bptr J 0)), (1, xl)] a_ ∧ Sep NoB w w_ [(row v8_ 3 1 ((j_0 k j).length) (ints (j_0 k j))), (row v5_ 3 1 ((n_2 (okS b l) l.length k).length) (ints (n_2 (okS b l) l.length k))), (blk J 25 [(iv b.scales), vt, vm]), (d_3 false vt lr lb b.tabs), (d_9 false vm lk b.macs), (sl xl 2 l.length (pairs l))] ∧ (j ≤ l.length)) (fun j => l.length - j) 0 ⟨(Value.slice none 0 0), A6.as _ rfl, BA, by omega⟩ ?_
  clear A6 BA CU
  rintro j CV C6 ⟨v8_, Ah, L, hj⟩
  have hbl := bits_len k j
  refine b_5 (m2 (s1 Ah (a_1 rfl Ah.e) fun CW Ai => ?_)); clear Ah CV
  refine s1 Ai (a_1 rfl Ai.e) fun CX Aj => ?_; clear Ai CW
  refine s1 Aj (c_9 rfl u_8 Aj.e (L.sk 5 rfl)) fun CY AK => ?_; clear Aj CX
  refine s1 AK (f_5 rfl AK.e AK.e) fun BT F => ?_; clear AK CY
  refine n1 ?_
  by_cases BD : (j : Int) < (l.length : Int)
  ·skip
   rw [decide_eq_true BD] at F
   refine b_7 F rfl (c_6 (a_7 (b_5 (c_2 (m2 (s1 F (a_1 rfl F.e) fun CZ Ak => ?_)))))); clear F BT
   refine s1 Ak (a_1 rfl Ak.e) fun Ca Al => ?_; clear Ak CZ
   refine s1 Al (op_conv un_3 un_136 rfl Al.e (v := (j : Int)) (wrap_u64 (by omega) (by omega))) fun Cb AL => ?_; clear Al Ca
   refine s1 AL (op_shrI rfl (m := k) AL.e (k := j) AL.e (by omega)) fun Cc Am => ?_; clear AL Cb
   refine s1 Am (op_rem rfl Am.e (evc _ _) (by omega)) fun Ba W => ?_; clear Am Cc
   refine s1 W (m_4 rfl W.e (evc _ _)) fun Aw D => ?_; clear W Ba
   refine n1 ?_
   by_cases Av : ((((k >>> j : Nat) : Int)).tmod 2) = 1
   ·skip
    rw [decide_eq_true Av] at D
    refine b_7 D rfl ?_
    have X := D.as [(9, (iv (j : Int))), (8, v8_), (7, (iv (k : Int))), (5, v5_), (2, (bptr J 0)), (1, xl)] rfl; clear D
    refine a_5 (s1 X (a_1 rfl X.e) fun Bb Y => ?_); clear X Aw
    refine s1 Y (a_1 rfl Y.e) fun Bc Z => ?_; clear Y Bb
    refine s2 Z (f_9 L rfl (pv1 Z.e) j_3 ty_3 ze_3 (by decide) (cs := [(iv (j : Int))]) (bs_3_1_0i _)) ?_
    rintro Bd _ Ct ⟨Cr, rfl, AM⟩ M; clear Z L Bc
    refine s2 M (j_9 AM rfl j_3 el_3 M.e M.e (i := 1) rfl (SlAt.of_blk (AM.bk 0 rfl) rfl (Nat.le_of_ble_eq_true rfl)) rfl (by simp only [maxLen]; omega) (by omega)) ?_
    intro Be B7 Cu At c
    have Au := At.f_6 (i := 1) rfl (n' := ((j_0 k j) ++ [(j : Int)]).length) (xs' := (ints ((j_0 k j) ++ [(j : Int)]))) (by simp) (by simp [ints]); clear At M AM Bd
    refine s1 c (a_0 rfl c.e) fun Bf d => ?_; clear c Be
    refine e_2 (g_6 (a_7 (a_5 (s1 d (a_1 rfl d.e) fun Bg f => ?_)))); clear d Bf
    refine s1 f (f_0 rfl f.e (evc _ _) (by omega) (by omega)) fun Bh g => ?_; clear f Bg
    refine s1 g (a_0 rfl g.e) fun Cj BI => ?_; clear g Bh
    refine e_2 ?_
    have BN := Au.gkp (gpc 1 (gpc 2 (gpc 3 (gpc 4 (gpc 5 (gpc 6 gpn)))))); clear Au
    exact a_7 ⟨j + 1, ⟨B7, BI.as _ rfl, (BN.f_6 (i := 0) rfl (n' := ((j_0 k (j + 1))).length) (xs' := ints (j_0 k (j + 1))) (by rw [bits_y (by assumption)]) (by rw [bits_y (by assumption)])), by omega⟩, by omega⟩
   skip
   rw [decide_eq_false Av] at D
   refine b_4 D rfl (c_6 (g_6 (a_7 ?_)))
   have n := D.as [(9, (iv (j : Int))), (8, v8_), (7, (iv (k : Int))), (5, v5_), (2, (bptr J 0)), (1, xl)] rfl; clear D
   refine a_5 (s1 n (a_1 rfl n.e) fun Bi o => ?_); clear n Aw
   refine s1 o (f_0 rfl o.e (evc _ _) (by omega) (by omega)) fun Bj p => ?_; clear o Bi
   refine s1 p (a_0 rfl p.e) fun Ck BJ => ?_; clear p Bj
   refine e_2 ?_
   exact a_7 ⟨j + 1, ⟨v8_, BJ.as _ rfl, (L.f_6 (i := 0) rfl (n' := ((j_0 k (j + 1))).length) (xs' := ints (j_0 k (j + 1))) (by rw [bits_n (by assumption)]) (by rw [bits_n (by assumption)])), by omega⟩, by omega⟩
  skip
  rw [decide_eq_false BD] at F
  refine b_4 F rfl (g_3 (b_1 (b_1 (f_1 (a_7 (b_5 (b_5 ?_)))))))
  have P := (L.f_6 (i := 0) rfl (n' := ((j_0 k l.length)).length) (xs' := ints (j_0 k l.length)) (by rw [show j = l.length by omega]) (by rw [show j = l.length by omega])); have hbl8 := bits_len k l.length; clear L
  refine a_5 (s1 F (a_1 rfl F.e) fun Bk q => ?_); clear F BT
  refine s1 q (a_1 rfl q.e) fun Bl O => ?_; clear q Bk
  refine s2 O (b_3 rfl en_76 (ev2 O.e O.e) (less_ok (j_0 k l.length) _ _ (SlAt.d_6 (P.e_4 0 rfl)) (n_2 (okS b l) l.length k) _ (SlAt.d_6 (P.e_4 1 rfl)) (by omega))) ?_
  rintro Bm _ Cv ⟨rfl, As⟩ r; have Q := P.step As; clear As O P Bl
  refine s1 r (g_0 rfl r.e) fun Bn E => ?_; clear r Bm
  refine n1 ?_
  rcases Bool.eq_false_or_eq_true ((aa_6 (j_0 k l.length) (n_2 (okS b l) l.length k))) with AP | AP
  ·skip
   rw [AP] at E
   refine b_4 E rfl (c_6 (a_7 (b_5 ?_)))
   have Ao := E.as [(8, v8_), (7, (iv (k : Int))), (5, v5_), (2, (bptr J 0)), (1, xl)] rfl; clear E
   have Ap := Ao.as [(8, v8_), (7, (iv (k : Int))), (5, v5_), (2, (bptr J 0)), (1, xl)] rfl; clear Ao
   refine x_4 mixed Ap Q 9 [[], [], [], [1, 2], [0, 3], [4], [4, 5], [4, 5], [4, 6]] [(yw (Value.agg #[(iv b.scales), vt, vm])), (yw xl), (yw v8_), (fun (A : Nat → Value) (v_ : Value) (rs_ : List Res) => True ∧ rs_ = [(row v_ 67 2 ((woF l (j_0 k l.length)).length) (pairs (woF l (j_0 k l.length))))]), (fun (A : Nat → Value) (v_ : Value) (rs_ : List Res) => v_ = (Value.tuple #[(comp v_ 0), (Value.bool ((k_5 b (woF l (j_0 k l.length))).isSome))]) ∧ rs_ = []), (fun (A : Nat → Value) (v_ : Value) (rs_ : List Res) => v_ = (Value.tuple #[(comp (A 4) 0), (Value.bool ((k_5 b (woF l (j_0 k l.length))).isSome))]) ∧ rs_ = []), (fun (A : Nat → Value) (v_ : Value) (rs_ : List Res) => v_ = (comp (A 4) 0) ∧ rs_ = []), (yw (Value.bool ((k_5 b (woF l (j_0 k l.length))).isSome))), (fun (A : Nat → Value) (v_ : Value) (rs_ : List Res) => v_ = (comp (A 4) 0) ∧ rs_ = [])] (by decide +kernel) (by decide +kernel) rfl rfl ⟨dw, dw, dw, (fun _ _ _ _ _ h_ => h_), (fun _ _ _ _ _ h_ => h_), (fun _ _ _ _ he_ h_ => by dsimp only at h_ ⊢; rw [← he_ 4 (by decide)]; exact h_), (fun _ _ _ _ he_ h_ => by dsimp only at h_ ⊢; rw [← he_ 4 (by decide)]; exact h_), dw, (fun _ _ _ _ he_ h_ => by dsimp only at h_ ⊢; rw [← he_ 4 (by decide)]; exact h_), trivial⟩ ?_ ?_
   ·skip
    refine ⟨fun a w A hA hS hd => gv1 (c_5 rfl ac_1 (hA.ev rfl) (hS.bk 2 rfl) (l := [(iv b.scales), vt, vm]) rfl rfl), ?_⟩
    refine ⟨fun a w A hA hS hd => gv1 (a_1 rfl hA.e), ?_⟩
    refine ⟨fun a w A hA hS hd => gv1 (a_1 rfl hA.e), ?_⟩
    refine ⟨fun a w A hA hS hd => d_4 rfl (vn (b_3 rfl en_43 (ev2 (gu hd 1) (gu hd 2)) (Without_ok l _ _ (hS.sk 5 rfl) (j_0 k l.length) _ (SlAt.d_6 (hS.e_4 0 rfl)) (by omega) (by omega))) (fun v w' h => ⟨_, And.intro trivial rfl, (Sep.start NoB _).x_8 h.1 h.2, rfl⟩)), ?_⟩
    refine ⟨fun a w A hA hS hd => ?_, ?_⟩
    ·skip
     obtain ⟨e3, C1, Ch, Cf⟩ := hd 3 (by decide)
     obtain ⟨C0, Cg⟩ := Ch; subst Cg
     have hp3_0 := Cf _ (List.mem_of_getElem? (i := 0) rfl)
     exact d_4 rfl (vn (b_3 rfl en_28 (ev2 (gu hd 0) (b_8 (h_2 e3 rfl))) (rspans_any b vt vm lr lb lk _ (c_1 (hS.ok 3 _ rfl)) (c_8 (hS.ok 4 _ rfl)) hth hb (woF l (j_0 k l.length)) _ (SlAt.d_6 hp3_0) (wo_read hl))) (fun v w' h => by obtain ⟨us, rfl, hE⟩ := h; exact ⟨[], ⟨rfl, rfl⟩, (Sep.start NoB _).step hE, rfl⟩))
    refine ⟨fun a w A hA hS hd => ?_, ?_⟩
    ·skip
     obtain ⟨e4, BH, V, BE⟩ := hd 4 (by decide)
     obtain ⟨U, T⟩ := V; subst T
     rw [U] at e4
     exact gv1 (a_1 rfl (b_8 (h_2 e4 rfl)))
    refine ⟨fun a w A hA hS hd => ?_, ?_⟩
    ·skip
     obtain ⟨e4, BH, V, BE⟩ := hd 4 (by decide)
     obtain ⟨U, T⟩ := V; subst T
     rw [U] at e4
     exact gv1 (e_9 rfl (gu hd 5) rfl)
    refine ⟨fun a w A hA hS hd => ?_, ?_⟩
    ·skip
     obtain ⟨e4, BH, V, BE⟩ := hd 4 (by decide)
     obtain ⟨U, T⟩ := V; subst T
     rw [U] at e4
     exact gv1 (e_9 rfl (gu hd 5) rfl)
    refine ⟨fun a w A hA hS hd => ?_, ?_⟩
    ·skip
     obtain ⟨e4, BH, V, BE⟩ := hd 4 (by decide)
     obtain ⟨U, T⟩ := V; subst T
     rw [U] at e4
     exact gv1 (a_0 rfl (gu hd 6))
    trivial
   intro Bo B8 A rsf158 Aq B AN; clear Ap Q
   obtain ⟨B1, B5⟩ := B 3 (by decide)
   obtain ⟨B3, BF⟩ := B5
   obtain ⟨B2, B6⟩ := B 4 (by decide)
   obtain ⟨B4, BG⟩ := B6
   have R : Sep NoB w B8 [(row (A 3) 67 2 ((woF l (j_0 k l.length)).length) (pairs (woF l (j_0 k l.length)))), (row v8_ 3 1 ((j_0 k l.length).length) (ints (j_0 k l.length))), (row v5_ 3 1 ((n_2 (okS b l) l.length k).length) (ints (n_2 (okS b l) l.length k))), (blk J 25 [(iv b.scales), vt, vm]), (d_3 false vt lr lb b.tabs), (d_9 false vm lk b.macs), (sl xl 2 l.length (pairs l))] := by rw [show catR rsf158 0 9 = ([(row (A 3) 67 2 ((woF l (j_0 k l.length)).length) (pairs (woF l (j_0 k l.length))))] : List Res) by (try simp only [catR, gr (B 0 (by decide)), gr (B 1 (by decide)), gr (B 2 (by decide)), BF, BG, gr (B 5 (by decide)), gr (B 6 (by decide)), gr (B 7 (by decide)), gr (B 8 (by decide))]); (try rfl)] at AN; exact AN
   have s := Aq.add (gs (B 7 (by decide))); clear Aq
   clear B AN B1 B2
   clear BF
   clear B3
   clear BG
   clear B4
   refine s1 s (a_0 rfl s.e) fun Bp t => ?_; clear s Bo
   refine n4 (s1 t (a_1 rfl t.e) fun Ax C => ?_); clear t Bp
   refine n1 ?_
   rcases Bool.eq_false_or_eq_true (((k_5 b (woF l (j_0 k l.length))).isSome)) with AQ | AQ
   ·skip
    rw [AQ] at C
    refine b_7 C rfl (a_5 (s1 C (a_1 rfl C.e) fun Bq u => ?_)); clear C Ax
    refine s1 u (a_0 rfl u.e) fun Br x => ?_; clear u Bq
    refine e_2 (g_6 (a_7 (a_5 (s1 x (a_1 rfl x.e) fun Bs y => ?_)))); clear x Br
    refine s1 y (f_0 rfl y.e (evc _ _) (by omega) (by omega)) fun Bt z => ?_; clear y Bs
    refine s1 z (a_0 rfl z.e) fun Cl BK => ?_; clear z Bt
    refine e_2 ?_
    have BO := R.gkp (gpc 1 (gpc 3 (gpc 4 (gpc 5 (gpc 6 gpn))))); clear R
    exact a_7 ⟨k + 1, ⟨v8_, BK.as _ rfl, (BO.f_6 (i := 0) rfl (n' := ((n_2 (okS b l) l.length (k + 1))).length) (xs' := ints (n_2 (okS b l) l.length (k + 1))) (by rw [bits_p (by assumption) (show okS b l (j_0 k l.length) = true from (show (k_5 b (woF l (j_0 k l.length))).isSome = true from (by assumption)))]) (by rw [bits_p (by assumption) (show okS b l (j_0 k l.length) = true from (show (k_5 b (woF l (j_0 k l.length))).isSome = true from (by assumption)))])), by omega⟩, by omega⟩
   skip
   rw [AQ] at C
   refine b_4 C rfl (c_6 (g_6 (a_7 (a_5 (s1 C (a_1 rfl C.e) fun Bu AA => ?_))))); clear C Ax
   refine s1 AA (f_0 rfl AA.e (evc _ _) (by omega) (by omega)) fun Bv AB => ?_; clear AA Bu
   refine s1 AB (a_0 rfl AB.e) fun Cm BL => ?_; clear AB Bv
   refine e_2 ?_
   have BP := R.gkp (gpc 2 (gpc 3 (gpc 4 (gpc 5 (gpc 6 gpn))))); clear R
   exact a_7 ⟨k + 1, ⟨v5_, BL.as _ rfl, (BP.f_6 (i := 0) rfl (n' := ((n_2 (okS b l) l.length (k + 1))).length) (xs' := ints (n_2 (okS b l) l.length (k + 1))) (by first | (rw [bits_m (by assumption)]; done) | (rw [bits_q (fun h_ => by have e_ : (k_5 b (woF l (j_0 k l.length))).isSome = false := (by assumption); unfold okS at h_; rw [e_] at h_; cases h_)]; done)) (by first | (rw [bits_m (by assumption)]; done) | (rw [bits_q (fun h_ => by have e_ : (k_5 b (woF l (j_0 k l.length))).isSome = false := (by assumption); unfold okS at h_; rw [e_] at h_; cases h_)]; done))), by omega⟩, by omega⟩
  skip
  rw [AP] at E
  refine b_7 E rfl (g_3 (b_1 (f_1 (a_7 ?_))))
  have AC := E.as [(7, (iv (k : Int))), (5, v5_), (2, (bptr J 0)), (1, xl)] rfl; clear E
  refine a_5 (s1 AC (a_1 rfl AC.e) fun Bw AD => ?_); clear AC Bn
  refine s1 AD (f_0 rfl AD.e (evc _ _) (by omega) (by omega)) fun Bx AE => ?_; clear AD Bw
  refine s1 AE (a_0 rfl AE.e) fun Cn BM => ?_; clear AE Bx
  refine e_2 ?_
  have BQ := Q.gkp (gpc 1 (gpc 2 (gpc 3 (gpc 4 (gpc 5 gpn))))); clear Q
  exact a_7 ⟨k + 1, ⟨v5_, BM.as _ rfl, (BQ.f_6 (i := 0) rfl (n' := ((n_2 (okS b l) l.length (k + 1))).length) (xs' := ints (n_2 (okS b l) l.length (k + 1))) (by first | (rw [bits_m (by assumption)]; done) | (rw [bits_q (fun h_ => by have e_ : (k_5 b (woF l (j_0 k l.length))).isSome = false := (by assumption); unfold okS at h_; rw [e_] at h_; cases h_)]; done)) (by first | (rw [bits_m (by assumption)]; done) | (rw [bits_q (fun h_ => by have e_ : (k_5 b (woF l (j_0 k l.length))).isSome = false := (by assumption); unfold okS at h_; rw [e_] at h_; cases h_)]; done))), by omega⟩, by omega⟩
 skip
 rw [decide_eq_false BC] at K
 refine b_4 K rfl (g_3 (b_1 (b_1 (f_1 (a_7 (b_5 ?_))))))
 have AF := K.as [(5, v5_)] rfl; clear K
 refine a_5 (s1 AF (a_1 rfl AF.e) fun By AG => ?_); clear AF BS
 refine s1 AG (a_0 rfl AG.e) fun Co Ar => ?_; clear AG By
 refine n1 (c_4 (a_9 Ar (.inl rfl) (a_2 Ar rfl (.tmp rfl)) ?_))
 have e_ : (n_2 (okS b l) l.length k) = (l_0 b l) := by rw [show k = 2 ^ l.length by omega]; exact best_doubt hb h6
 have hz := (AO.f_6 (i := 0) rfl (n' := ((l_0 b l)).length) (xs' := ints (l_0 b l)) (by rw [e_]) (by rw [e_]))
 exact ⟨hz.ext, hz.row_new (i := 0) rfl⟩
end Go.Proofs.Ytohgladndklciaa
