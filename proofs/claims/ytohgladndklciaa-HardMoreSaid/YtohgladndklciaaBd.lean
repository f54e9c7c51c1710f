/-
  Books built in memory: slices of slices, one more; tables and machines as one thing.
  The chapter's book and what it shows; decided by the kernel.
  What the laws ask first: may a book be played; narrower spans. What HardAllows says.
  Values that fit a book: told by all their tests at once.
  The doubtful readings: lists of numbers by size, readings but some, the first list without which the others fit.
  Books and readings that are changed: how their spans differ.
  Books that are copied and changed: the structs in new memory, the inner lists where they were.
  Finer books: lesser errors, narrower blocks; what HardFiner says of them.
  Books with more in them: what HardMore says of them.
-/
import Derived.Test.YtohgladndklciaaBc
import Derived.Test.YtohgladndklciaaEnga
set_option linter.unusedSimpArgs false
set_option linter.unusedVariables false
namespace Go.Proofs.Ytohgladndklciaa
open Go.RowKit Go.Shelf Go.Eng Go.Hard
theorem en_56 : ∀ args w, (callFunc 56 args).run Try.prog w = .ok (.enter 56 args) w := enters_of Try.func56 (by kernel_rfl) rfl
theorem en_57 : ∀ args w, (callFunc 57 args).run Try.prog w = .ok (.enter 57 args) w := enters_of Try.func57 (by kernel_rfl) rfl
theorem en_58 : ∀ args w, (callFunc 58 args).run Try.prog w = .ok (.enter 58 args) w := enters_of Try.func58 (by kernel_rfl) rfl
def spE (b : g_3) (l : List (Int × Int)) : Int := if h_8 b l ≠ 0 then h_8 b l else if k_4 b l = none then 9 else 0
theorem spE_r {b : g_3} {l : List (Int × Int)} (h : h_8 b l ≠ 0) : spE b l = h_8 b l := if_pos h
theorem spE_9 {b : g_3} {l : List (Int × Int)} (h : h_8 b l = 0) (A : k_4 b l = none) : spE b l = 9 := by unfold spE; rw [if_neg (not_not_intro h), if_pos A]
theorem Spans_bad (b : g_3) (vt vm : Value) (lr lb lk : Nat → Value) (w : World) (hT : j_1 w vt lr lb b.tabs) (hM : k_3 w vm lk b.macs) (hth : o_2 b) (l : List (Int × Int)) (xl : Value) (hxl : SlAt w xl 2 l.length (pairs l)) (hlb : l.length ≤ 1000000) (hr : h_8 b l ≠ 0) :
  Calls Try.prog 25 #[(Value.agg #[(iv b.scales), vt, vm]), xl] w (Ret fun v w' => v = .tuple #[.slice none 0 0, .int .i64 (spE b l)] ∧ Ext NoB w w') := by
 refine a_8 Try.func25 rfl fun X D => ?_
 replace D : Fr 31 [] [(0, (Value.agg #[(iv b.scales), vt, vm])), (1, xl)] X := D
 have U : Sep NoB w w [(d_9 false vt lr lb b.tabs), (e_1 false vm lk b.macs), (sl xl 2 l.length (pairs l))] := e_6 ⟨rfl, hT, rfl, hM, rfl, hxl, trivial⟩
 refine m2 (s2 D (e_8 U rfl D.e (cs := [(iv b.scales), vt, vm]) rfl) ?_)
 rintro n _ t ⟨q, rfl, B⟩ S; clear D U X
 refine s1 S (a_0 rfl (evc _ _)) fun o T => ?_; clear S n
 refine s1 T (a_0 rfl (evc _ _)) fun p Q => ?_; clear T o
 refine n4 (s1 Q (c_0 rfl t_9 (Q.ev rfl) (B.bk 0 rfl) (l := [(iv b.scales), vt, vm]) rfl rfl) fun Y E => ?_); clear Q p
 refine s1 E (a_1 rfl E.e) fun Z C => ?_; clear E Y
 refine s2 C (b_0 rfl en_56 (ev2 C.e C.e) (read_bad b vt vm lr lb lk _ (b_5 (B.ok 1 _ rfl)) (b_8 (B.ok 2 _ rfl)) hth l _ (B.sk 3 rfl) (by omega) hr)) ?_
 rintro a _ s ⟨rfl, R⟩ F; have V := B.step R; clear R C B Z
 refine s1 F (a_1 rfl F.e) fun c G => ?_; clear F a
 refine s1 G (d_6 rfl G.e rfl) fun d H => ?_; clear G c
 refine s1 H (d_6 rfl H.e rfl) fun f I => ?_; clear H d
 refine s1 I (a_0 rfl I.e) fun g J => ?_; clear I f
 refine s1 J (a_0 rfl J.e) fun h N => ?_; clear J g
 refine n2 (b_6 ?_)
 have K := N.as [(7, (iv (h_8 b l))), (6, (Value.pointer none)), (2, (bptr q 0)), (1, xl)] rfl; clear N
 refine a_5 (s1 K (a_1 rfl K.e) fun i L => ?_); clear K h
 refine s1 L (v_6 rfl L.e (evc _ _)) fun j A => ?_; clear L i
 have W : ¬ ((h_8 b l) = 0) := hr
 rw [decide_eq_false W] at A
 refine n1 (c_1 A rfl (m2 (s1 A (a_1 rfl A.e) fun k O => ?_))); clear A j
 refine s1 O (a_0 rfl (evc _ _)) fun m M => ?_; clear O k
 refine s1 M (a_0 rfl M.e) fun r P => ?_; clear M m
 exact n1 (c_2 (a_6 (a_7 P (.inl rfl) (d_0 P rfl (.tmp rfl) (.tmp rfl)) (⟨by rw [spE_r hr], V.ext⟩))))
theorem Spans_none (b : g_3) (vt vm : Value) (lr lb lk : Nat → Value) (w : World) (hT : j_1 w vt lr lb b.tabs) (hM : k_3 w vm lk b.macs) (hth : o_2 b) (l : List (Int × Int)) (xl : Value) (hxl : SlAt w xl 2 l.length (pairs l)) (hlb : l.length ≤ 1000000) (hr : h_8 b l = 0) (hs : k_4 b l = none) :
  Calls Try.prog 25 #[(Value.agg #[(iv b.scales), vt, vm]), xl] w (Ret fun v w' => v = .tuple #[.slice none 0 0, .int .i64 (spE b l)] ∧ Ext NoB w w') := by
 refine a_8 Try.func25 rfl fun s G => ?_
 replace G : Fr 31 [] [(0, (Value.agg #[(iv b.scales), vt, vm])), (1, xl)] s := G
 have hc : f_1 b = 0 := read_check hr; have hbl := t_3 hr; have hb := hbl.1; have hl := hbl.2; have hll := hl.len; have hsc := hb.scales
 have p : Sep NoB w w [(d_9 false vt lr lb b.tabs), (e_1 false vm lk b.macs), (sl xl 2 l.length (pairs l))] := e_6 ⟨rfl, hT, rfl, hM, rfl, hxl, trivial⟩
 refine m2 (s2 G (e_8 p rfl G.e (cs := [(iv b.scales), vt, vm]) rfl) ?_)
 rintro a1 _ w3 ⟨b4, rfl, B⟩ n; clear G p s
 refine s1 n (a_0 rfl (evc _ _)) fun a6 o => ?_; clear n a1
 refine s1 o (a_0 rfl (evc _ _)) fun a8 f => ?_; clear o a6
 refine n4 (s1 f (c_0 rfl t_9 (f.ev rfl) (B.bk 0 rfl) (l := [(iv b.scales), vt, vm]) rfl rfl) fun t H => ?_); clear f a8
 refine s1 H (a_1 rfl H.e) fun u C => ?_; clear H t
 refine s2 C (b_0 rfl en_56 (ev2 C.e C.e) (read_yes b vt vm lr lb lk _ (b_5 (B.ok 1 _ rfl)) (b_8 (B.ok 2 _ rfl)) hth l _ (B.sk 3 rfl) (by omega) hc hr)) ?_
 rintro x _ AX ⟨bx19, bm20, es21, ck22, rfl, hMO23, m⟩ I; have A := B.s_7 m rfl; clear m C B u
 refine s1 I (a_1 rfl I.e) fun y J => ?_; clear I x
 refine s1 J (d_6 rfl J.e rfl) fun z K => ?_; clear J y
 refine s1 K (d_6 rfl K.e rfl) fun AA L => ?_; clear K z
 refine s1 L (a_0 rfl L.e) fun AB M => ?_; clear L AA
 refine s1 M (a_0 rfl M.e) fun AC Z => ?_; clear M AB
 refine n2 (b_6 ?_)
 have N := Z.as [(7, (iv 0)), (6, (bptr bx19 0)), (2, (bptr b4 0)), (1, xl)] rfl; clear Z
 refine a_5 (s1 N (a_1 rfl N.e) fun AD O => ?_); clear N AC
 refine s1 O (v_6 rfl O.e (evc _ _)) fun AE D => ?_; clear O AD
 refine n1 (b_7 D rfl (d_1 (b_1 (m2 (s1 D (a_1 rfl D.e) fun AF P => ?_))))); clear D AE
 refine s1 P (a_1 rfl P.e) fun AG E => ?_; clear P AF
 refine s2 E (b_0 rfl en_57 (ev2 E.e E.e) (spansb_ok b vt vm lr lb lk _ (b_5 (A.ok 3 _ rfl)) (b_8 (A.ok 4 _ rfl)) hth bx19 bm20 _ _ (by assumption) (A.bk 0 rfl) (mapX_ro (A.ok 1 _ rfl)) hb l _ (A.sk 5 rfl) hl)) ?_
 rintro AH _ AY ⟨Y, AV, rfl, htk48, g⟩ Q; have h := A.step g; clear g E A AG
 refine s1 Q (a_1 rfl Q.e) fun AI R => ?_; clear Q AH
 refine s1 R (d_6 rfl R.e rfl) fun AJ S => ?_; clear R AI
 refine s1 S (d_6 rfl S.e rfl) fun AK T => ?_; clear S AJ
 have r : ((k_4 b l).isSome) = false := (by rw [hs]; rfl)
 rw [r] at T
 refine s2 T (e_0 h rfl ze_120 (cs := [(iv 0), (iv 0), (iv 0), (iv 0), (iv 0), (iv 0), (iv 0), (iv 0)]) rfl) ?_
 rintro AL _ AZ ⟨AR, rfl, j⟩ F; clear T h AK
 refine s7 F (b_9 j rfl l_4 F.e F.e (i := 0) rfl (vs := (pairs Y)) rfl (show (pairs Y).length = 8 from by simp only [a_9, List.length_set]; omega) (l_2 _) (by decide)) ?_
 intro _ Aa k U; have q := k.n_4 (i := 0) rfl (cs' := (pairs Y)) (k_0 _ _ (Eq.symm (show (pairs Y).length = 8 from by simp only [a_9, List.length_set]; omega))); clear k F j
 refine s1 U (a_0 rfl U.e) fun AM a => ?_; clear U AL
 refine n2 (b_6 ?_)
 have V := a.as [(9, (Value.bool false)), (8, (bptr AR 0)), (2, (bptr b4 0))] rfl; clear a
 refine a_5 (s1 V (a_1 rfl V.e) fun AN W => ?_); clear V AM
 refine s1 W (f_3 rfl W.e) fun AO X => ?_; clear W AN
 refine n1 (c_1 X rfl (m2 (s1 X (a_0 rfl (evc _ _)) fun AP c => ?_))); clear X AO
 refine s1 c (a_0 rfl (evc _ _)) fun AW d => ?_; clear c AP
 exact n1 (c_2 (a_6 (a_7 d (.inl rfl) (d_0 d rfl (.tmp rfl) (.tmp rfl)) (⟨by rw [spE_9 hr hs], q.ext⟩))))
theorem Spans_ok (b : g_3) (vt vm : Value) (lr lb lk : Nat → Value) (w : World) (hT : j_1 w vt lr lb b.tabs) (hM : k_3 w vm lk b.macs) (hth : o_2 b) (l : List (Int × Int)) (xl : Value) (hxl : SlAt w xl 2 l.length (pairs l)) (hlb : l.length ≤ 1000000) (t : g_1) (hr : h_8 b l = 0) (hs : k_4 b l = some t) :
  Calls Try.prog 25 #[(Value.agg #[(iv b.scales), vt, vm]), xl] w (Ret fun v w' => ∃ u, v = .tuple #[u, .int .i64 0] ∧ Sep NoB w w' [row u 30 2 t.length (pairs t)]) := by
 refine a_8 Try.func25 rfl fun a0 J => ?_
 replace J : Fr 31 [] [(0, (Value.agg #[(iv b.scales), vt, vm])), (1, xl)] a0 := J
 have hc : f_1 b = 0 := read_check hr; have hbl := t_3 hr; have hb := hbl.1; have hl := hbl.2; have hll := hl.len; have hsc := hb.scales
 have AA : Sep NoB w w [(d_9 false vt lr lb b.tabs), (e_1 false vm lk b.macs), (sl xl 2 l.length (pairs l))] := e_6 ⟨rfl, hT, rfl, hM, rfl, hxl, trivial⟩
 refine m2 (s2 J (e_8 AA rfl J.e (cs := [(iv b.scales), vt, vm]) rfl) ?_)
 rintro a1 _ w3 ⟨b4, rfl, B⟩ y; clear J AA a0
 refine s1 y (a_0 rfl (evc _ _)) fun a6 z => ?_; clear y a1
 refine s1 z (a_0 rfl (evc _ _)) fun a8 m => ?_; clear z a6
 refine n4 (s1 m (c_0 rfl t_9 (m.ev rfl) (B.bk 0 rfl) (l := [(iv b.scales), vt, vm]) rfl rfl) fun AE L => ?_); clear m a8
 refine s1 L (a_1 rfl L.e) fun AF C => ?_; clear L AE
 refine s2 C (b_0 rfl en_56 (ev2 C.e C.e) (read_yes b vt vm lr lb lk _ (b_5 (B.ok 1 _ rfl)) (b_8 (B.ok 2 _ rfl)) hth l _ (B.sk 3 rfl) (by omega) hc hr)) ?_
 rintro AG _ Al ⟨bx19, bm20, es21, ck22, rfl, hMO23, x⟩ M; have A := B.s_7 x rfl; clear x C B AF
 refine s1 M (a_1 rfl M.e) fun AH N => ?_; clear M AG
 refine s1 N (d_6 rfl N.e rfl) fun AI O => ?_; clear N AH
 refine s1 O (d_6 rfl O.e rfl) fun AJ P => ?_; clear O AI
 refine s1 P (a_0 rfl P.e) fun AK Q => ?_; clear P AJ
 refine s1 Q (a_0 rfl Q.e) fun AL g => ?_; clear Q AK
 refine n2 (b_6 ?_)
 have R := g.as [(7, (iv 0)), (6, (bptr bx19 0)), (2, (bptr b4 0)), (1, xl)] rfl; clear g
 refine a_5 (s1 R (a_1 rfl R.e) fun AM S => ?_); clear R AL
 refine s1 S (v_6 rfl S.e (evc _ _)) fun AN D => ?_; clear S AM
 refine n1 (b_7 D rfl (d_1 (b_1 (m2 (s1 D (a_1 rfl D.e) fun AO T => ?_))))); clear D AN
 refine s1 T (a_1 rfl T.e) fun AP E => ?_; clear T AO
 refine s2 E (b_0 rfl en_57 (ev2 E.e E.e) (spansb_ok b vt vm lr lb lk _ (b_5 (A.ok 3 _ rfl)) (b_8 (A.ok 4 _ rfl)) hth bx19 bm20 _ _ (by assumption) (A.bk 0 rfl) (mapX_ro (A.ok 1 _ rfl)) hb l _ (A.sk 5 rfl) hl)) ?_
 rintro AQ _ Am ⟨K, Ai, rfl, htk48, o⟩ U; have q := A.step o; clear o E A AP
 refine s1 U (a_1 rfl U.e) fun AR V => ?_; clear U AQ
 refine s1 V (d_6 rfl V.e rfl) fun AS W => ?_; clear V AR
 refine s1 W (d_6 rfl W.e rfl) fun AT X => ?_; clear W AS
 have AC : ((k_4 b l).isSome) = true := (by rw [hs]; rfl)
 rw [AC] at X
 refine s2 X (e_0 q rfl ze_120 (cs := [(iv 0), (iv 0), (iv 0), (iv 0), (iv 0), (iv 0), (iv 0), (iv 0)]) rfl) ?_
 rintro AU _ An ⟨Ae, rfl, r⟩ F; clear X q AT
 refine s7 F (b_9 r rfl l_4 F.e F.e (i := 0) rfl (vs := (pairs K)) rfl (show (pairs K).length = 8 from by simp only [a_9, List.length_set]; omega) (l_2 _) (by decide)) ?_
 intro _ Ao s Y; have I := s.n_4 (i := 0) rfl (cs' := (pairs K)) (k_0 _ _ (Eq.symm (show (pairs K).length = 8 from by simp only [a_9, List.length_set]; omega))); clear s F r
 refine s1 Y (a_0 rfl Y.e) fun AV j => ?_; clear Y AU
 refine n2 (b_6 ?_)
 have Z := j.as [(9, (Value.bool true)), (8, (bptr Ae 0)), (2, (bptr b4 0))] rfl; clear j
 refine a_5 (s1 Z (a_1 rfl Z.e) fun AW a => ?_); clear Z AV
 refine s1 a (f_3 rfl a.e) fun AX G => ?_; clear a AW
 refine n1 (b_7 G rfl (d_1 (b_1 (m2 (s1 G (a_3 rfl fd_37_0 G.e) fun AY c => ?_))))); clear G AX
 refine s1 c (a_4 rfl ty_3 c.e (I.bk 3 rfl) rfl) fun AZ H => ?_; clear c AY
 refine s1 H (op_sliceArr rfl x_7 f_4 H.e (h := b.scales.toNat) (H.e.trans (l_0 (by omega))) (by omega)) fun Aa d => ?_; clear H AZ
 refine s2 d (b_0 rfl en_58 (ev1 d.e) (clone_rng (K.take b.scales.toNat) _ _ ((SlAt.of_blkCut (I.bk 0 rfl) (by rw [a_9]; omega) (by omega) (by decide)).say (by rw [List.length_take]; omega) (pairs_takeH _ _)) (by rw [List.length_take]; omega))) ?_
 rintro Ab Ak Ap ⟨p, hO84⟩ f; have AB := I.w_6 p hO84; clear p hO84 d I Aa
 refine s1 f (a_0 rfl f.e) fun Ac k => ?_; clear f Ab
 refine s1 k (a_0 rfl (evc _ _)) fun Aj n => ?_; clear k Ac
 refine n1 (c_2 (a_7 n (.inl rfl) (d_0 n rfl (.tmp rfl) (.tmp rfl)) ?_))
 have hz := AB.keep [0] (by decide) [_] rfl rfl
 rw [htk48 _ hs] at hz
 exact ⟨_, rfl, hz⟩
end Go.Proofs.Ytohgladndklciaa

namespace Go.Hard
open Go.RowKit Go.Eng
section
variable {X : Nat → Prop} {w0 w : World} {L : List Res}
theorem o_9 (h : Sep X w0 w L) (v : Nat → Value) (sz : Nat) (k : Nat → Nat) (c : Nat → List Value) : Sep X w0 w (slsR true 0 v sz k c :: L) :=
  h.push (Ext.refl _ _) (fun i hi => absurd hi (Nat.not_lt_zero _)) (fun b hb => by obtain ⟨i, hi, _⟩ := hb; exact absurd hi (Nat.not_lt_zero _))
theorem k_6 {u : Value} {e sz m n : Nat} {xs : List Value} {v : Nat → Value} {k k' : Nat → Nat} {c c' : Nat → List Value} (h : Sep X w0 w (row u e sz m xs :: slsR true n v sz k c :: L)) (hk : k' n = m) (hc : c' n = xs) (hold : ∀ i, i < n → k' i = k i ∧ c' i = c i) :
    Sep X w0 w (slsR true (n + 1) (putV n v u) sz k' c' :: L) := by
  have h0 := h.f_2 0 rfl
  have h1 := h.ok 1 _ rfl
  refine h.join (t := slsR true (n + 1) (putV n v u) sz k' c') (fun i hi => ?_) (fun b hb => ?_) (fun _ => ⟨rfl, rfl⟩) (fun _ => trivial)
  · rcases Nat.lt_succ_iff_lt_or_eq.1 hi with hi | rfl
    · rw [w_8 _ _ hi, (hold i hi).1, (hold i hi).2]; exact h1 i hi
    · rw [r_8, hk, hc]; exact SlAt.e_5 h0
  · obtain ⟨i, hi, hb⟩ := hb
    rcases Nat.lt_succ_iff_lt_or_eq.1 hi with hi | rfl
    · rw [w_8 _ _ hi, (hold i hi).2] at hb; exact .inr ⟨i, hi, hb⟩
    · rw [r_8, hc] at hb; exact .inl (s_4 hb)
theorem sep_sls_say {i : Nat} {o : Bool} {sz n n' : Nat} {v v' : Nat → Value} {k k' : Nat → Nat} {c c' : Nat → List Value} (h : Sep X w0 w L) (hi : L[i]? = some (slsR o n v sz k c)) (hn : n = n') (he : ∀ i, i < n → v' i = v i ∧ k' i = k i ∧ c' i = c i) : Sep X w0 w (L.set i (slsR o n' v' sz k' c')) := by
  subst hn
  have h1 := h.ok i _ hi
  refine h.say hi (fun q hq => ?_) (fun b hb => ?_) (fun ho => ho)
  · rw [(he q hq).1, (he q hq).2.1, (he q hq).2.2]; exact h1 q hq
  · obtain ⟨q, hq, hb⟩ := hb
    rw [(he q hq).1, (he q hq).2.2] at hb; exact ⟨q, hq, hb⟩
theorem sep_tabs_join {vt : Value} {lr lb : Nat → Value} {ts : List TabD} (h : Sep X w0 w (row vt 106 5 ts.length (j_5 lr lb ts) :: slsR true ts.length lr 2 (j_9 ts) (j_8 ts) :: slsR true ts.length lb 1 (brkN ts) (brkC ts) :: L)) : Sep X w0 w (d_9 true vt lr lb ts :: L) := by
  have h0 := h.f_2 0 rfl
  have hp := h.pw
  have ap := List.pairwise_cons.1 hp
  -- the row and both together
  refine Sep.of_pw h.ext (fun r hr => ?_) (fun r hr ho b hb => ?_) (List.pairwise_cons.2 ⟨fun r hr => ?_, (List.pairwise_cons.1 (List.pairwise_cons.1 ap.2).2).2⟩)
  · rcases List.mem_cons.1 hr with rfl | hr
    · exact ⟨SlAt.e_5 h0, h.ok 1 _ rfl, h.ok 2 _ rfl⟩
    · exact h.mem (List.mem_cons_of_mem _ (List.mem_cons_of_mem _ (List.mem_cons_of_mem _ hr)))
  · rcases List.mem_cons.1 hr with rfl | hr
    · rcases hb with hb | hb | hb
      · exact h.mine 0 _ rfl rfl b (s_4 hb)
      · exact h.mine 1 _ rfl rfl b hb
      · exact h.mine 2 _ rfl rfl b hb
    · exact h.mineM (List.mem_cons_of_mem _ (List.mem_cons_of_mem _ (List.mem_cons_of_mem _ hr))) ho b hb
  · have a0 := ap.1 r (List.mem_cons_of_mem _ (List.mem_cons_of_mem _ hr))
    have a1 := (List.pairwise_cons.1 ap.2).1 r (List.mem_cons_of_mem _ hr)
    have a2 := (List.pairwise_cons.1 (List.pairwise_cons.1 ap.2).2).1 r hr
    refine ⟨fun _ b hb => ?_, fun ho b hb hb' => ?_⟩
    · rcases hb with hb | hb | hb
      · exact a0.1 rfl b (s_4 hb)
      · exact a1.1 rfl b hb
      · exact a2.1 rfl b hb
    · rcases hb' with hb' | hb' | hb'
      · exact a0.2 ho b hb (s_4 hb')
      · exact a1.2 ho b hb hb'
      · exact a2.2 ho b hb hb'
theorem sep_macs_join {vm : Value} {lk : Nat → Value} {ms : List MacD} (h : Sep X w0 w (row vm 103 2 ms.length (l_1 lk ms) :: slsR true ms.length lk 3 (blkN ms) (blkC ms) :: L)) : Sep X w0 w (e_1 true vm lk ms :: L) := by
  have h0 := h.f_2 0 rfl
  refine h.join (t := e_1 true vm lk ms) ⟨SlAt.e_5 h0, h.ok 1 _ rfl⟩ (fun b hb => ?_) (fun _ => ⟨rfl, rfl⟩) (fun _ => trivial)
  rcases hb with hb | hb
  · exact .inl (s_4 hb)
  · exact .inr hb
theorem sep_row_sl {i : Nat} {v : Value} {e sz n : Nat} {xs : List Value} (h : Sep X w0 w L) (hi : L[i]? = some (row v e sz n xs)) : Sep X w0 w (L.set i (sl v sz n xs)) :=
  h.say hi (SlAt.e_5 (h.f_2 i hi)) (fun _ hb => s_4 hb) (fun e => by cases e)
end
theorem q_2 {α : Type} {l : List α} {d : α} {k : Nat} (h : k < l.length) : l.take k ++ [l.getD k d] = l.take (k + 1) := by
  rw [List.take_add_one, List.getElem?_eq_getElem h, List.getD, List.getElem?_eq_getElem h]; rfl
section
variable {ts : List TabD} {ms : List MacD} {k : Nat}
theorem take_at {α : Type} {l : List α} {d : α} {k i : Nat} (hk : i < k) : (l.take k).getD i d = l.getD i d := by
  simp [List.getD, List.getElem?_take, hk]
theorem rowsN_new (h : k < ts.length) : j_9 (ts.take (k + 1)) (ts.take k).length = (ts.getD k tab0).rows.length ∧ j_8 (ts.take (k + 1)) (ts.take k).length = pairs (ts.getD k tab0).rows ∧ brkN (ts.take (k + 1)) (ts.take k).length = (ts.getD k tab0).brk.length ∧ brkC (ts.take (k + 1)) (ts.take k).length = ints (ts.getD k tab0).brk := by
  rw [List.length_take, Nat.min_eq_left (by omega)]
  unfold j_9 j_8 brkN brkC
  rw [take_at (Nat.lt_succ_self k)]
  exact ⟨rfl, rfl, rfl, rfl⟩
theorem rowsN_old (i : Nat) (hi : i < (ts.take k).length) : (j_9 (ts.take (k + 1)) i = j_9 (ts.take k) i ∧ j_8 (ts.take (k + 1)) i = j_8 (ts.take k) i) ∧ brkN (ts.take (k + 1)) i = brkN (ts.take k) i ∧ brkC (ts.take (k + 1)) i = brkC (ts.take k) i := by
  have hk : i < k := by rw [List.length_take] at hi; omega
  unfold j_9 j_8 brkN brkC
  rw [take_at (show i < k + 1 by omega), take_at hk]
  exact ⟨⟨rfl, rfl⟩, rfl, rfl⟩
theorem blkN_new (h : k < ms.length) : blkN (ms.take (k + 1)) (ms.take k).length = (ms.getD k mac0).blocks.length ∧ blkC (ms.take (k + 1)) (ms.take k).length = trips (ms.getD k mac0).blocks := by
  rw [List.length_take, Nat.min_eq_left (by omega)]
  unfold blkN blkC
  rw [take_at (Nat.lt_succ_self k)]
  exact ⟨rfl, rfl⟩
theorem blkN_old (i : Nat) (hi : i < (ms.take k).length) : blkN (ms.take (k + 1)) i = blkN (ms.take k) i ∧ blkC (ms.take (k + 1)) i = blkC (ms.take k) i := by
  have hk : i < k := by rw [List.length_take] at hi; omega
  unfold blkN blkC
  rw [take_at (show i < k + 1 by omega), take_at hk]
  exact ⟨rfl, rfl⟩
theorem take_len1 {α : Type} {l : List α} (h : k < l.length) : (l.take k).length + 1 = (l.take (k + 1)).length := by simp only [List.length_take]; omega
end
end Go.Hard

namespace Go.Proofs.Ytohgladndklciaa
open Go.RowKit Go.Shelf Go.Eng Go.Hard
theorem bd_98_0i_1i (x0_0 : Int) (x1_0 : Int) (w : World) : (Instr.build 98 #[(0, (.int .i64 x0_0)), (1, (.int .i64 x1_0))]).run Try.prog w = .ok (.agg #[(.int .i64 x0_0), (.int .i64 x1_0)]) w := by kernel_rfl
theorem bs_98_1_0iia (x0_0 : Int) (x0_1 : Int) : Instr.fill (fun i => some (i * 2, 2)) ((Array.range (1 * 2)).map ((Value.agg #[(iv 0), (iv 0)]).cells[· % (Value.agg #[(iv 0), (iv 0)]).cells.size]!)) [(0, .agg #[(.int .i64 x0_0), (.int .i64 x0_1)])] = some (([(.int .i64 x0_0), (.int .i64 x0_1)] : List Value).toArray) := by kernel_rfl
theorem list_ok (l : List Int) (xl : Value) (w : World) (hxl : SlAt w xl 1 l.length (ints l)) (hlen : l.length ≤ 1000000) :
  Calls Try.prog 40 #[xl] w (Ret fun v w' => Ext NoB w w' ∧ w'.ownsRow w.heap.size 3 1 v l.length (ints l)) := by
 refine a_8 Try.func40 rfl fun J A => ?_
 replace A : Fr 5 [] [(0, xl)] J := A
 have I : Sep NoB w w [(sl xl 1 l.length (ints l))] := e_6 ⟨rfl, hxl, trivial⟩
 refine m2 (s1 A (a_0 rfl (evc _ _)) fun K C => ?_); clear A J
 refine n4 (s1 C (a_1 rfl C.e) fun L D => ?_); clear C K
 have H := I.y_7 3 1; clear I
 refine s2 D (i_8 H rfl p_1 el_3 (evc _ _) D.e (i := 0) rfl (H.sk 1 rfl) (ints_one _) (by simp only [maxLen]; omega) (by omega)) ?_
 intro M O P F E
 have G := F.h_1 (i := 0) rfl (n' := l.length) (xs' := (ints l)) (by simp) (by simp); clear F D H L
 refine s1 E (a_0 rfl E.e) fun N B => ?_; clear E M
 exact n1 (c_2 (a_7 B (.inl rfl) (a_2 B rfl (.tmp rfl)) (⟨G.ext, G.row_new (i := 0) rfl⟩)))
theorem n_3 (l : List (Int × Int)) (xl : Value) (w : World) (hxl : SlAt w xl 2 l.length (pairs l)) (AK : l.length ≤ 12) :
  Calls Try.prog 26 #[xl] w (Ret fun v w' => Ext NoB w w' ∧ w'.ownsRow w.heap.size 98 2 v l.length (pairs l)) := by
 refine a_8 Try.func26 rfl fun s S => ?_
 replace S : Fr 26 [] [(0, xl)] s := S
 have o : Sep NoB w w [(sl xl 2 l.length (pairs l))] := e_6 ⟨rfl, hxl, trivial⟩
 refine m2 (s1 S (a_0 rfl (evc _ _)) fun a1 h => ?_); clear S s
 refine n4 (s1 h (a_0 rfl (evc _ _)) fun a3 j => ?_); clear h a1
 have p := o.y_7 98 2; clear o
 refine n2 (m2 (s1 j (a_0 rfl (evc _ _)) fun a6 m => ?_)); clear j a3
 refine n1 (c_6 ?_)
 have n := m.as [(4, (iv 0)), (3, (Value.slice none 0 0)), (0, xl)] rfl; clear m
 refine h_3 (G := Nat) (fun (k : Nat) a_ w_ => ∃ v3_ : Value, Fr 26 [] [(4, (iv (k : Int))), (3, v3_), (0, xl)] a_ ∧ Sep NoB w w_ [(row v3_ 98 2 ((l.take k).length) (pairs (l.take k))), (sl xl 2 l.length (pairs l))] ∧ (k ≤ l.length)) (fun k => l.length - k) 0 ⟨(Value.slice none 0 0), n.as _ rfl, (p.h_1 (i := 0) rfl (by rfl) (by rfl)), by omega⟩ ?_
 clear n p a6
 rintro k a9 AN ⟨v3_, H, F, hkk⟩
 have hlt_ : (l.take k).length ≤ 12 := by simp only [List.length_take]; omega
 refine b_6 (m2 (s1 H (a_1 rfl H.e) fun t I => ?_)); clear H a9
 refine s1 I (a_1 rfl I.e) fun u J => ?_; clear I t
 refine s1 J (d_4 rfl z_1 J.e (F.sk 1 rfl)) fun x D => ?_; clear J u
 refine s1 D (f_9 rfl D.e D.e) fun y C => ?_; clear D x
 refine n1 ?_
 by_cases c : (k : Int) < (l.length : Int)
 ·skip
  rw [decide_eq_true c] at C
  refine c_1 C rfl (d_1 (b_1 (b_6 (c_6 ?_))))
  have V := C.as [(4, (iv (k : Int))), (3, v3_), (0, xl)] rfl; clear C
  refine c_drawV mixed V F 13 [[], [], [], [1, 2], [3], [4], [], [], [6, 7], [8], [9], [5, 10], [11]] [(yw v3_), (yw xl), (yw (iv (k : Int))), (yw (eptr xl (k * 2))), (yw (eptr xl (k * 2 + 0))), (yw (iv ((l.getD k (0, 0)).1))), (yw xl), (yw (iv (k : Int))), (yw (eptr xl (k * 2))), (yw (eptr xl (k * 2 + 1))), (yw (iv ((l.getD k (0, 0)).2))), (yw (Value.agg #[(iv ((l.getD k (0, 0)).1)), (iv ((l.getD k (0, 0)).2))])), (fun (A : Nat → Value) (v_ : Value) (rs_ : List Res) => True ∧ rs_ = [(row v_ 98 2 1 [(iv ((l.getD k (0, 0)).1)), (iv ((l.getD k (0, 0)).2))])])] (by decide +kernel) (by decide +kernel) rfl rfl ⟨dw, dw, dw, dw, dw, dw, dw, dw, dw, dw, dw, dw, (fun _ _ _ _ _ h_ => h_), trivial⟩ ?_ ?_
  ·skip
   refine ⟨fun a w A hA hS hd => gv1 (a_1 rfl hA.e), ?_⟩
   refine ⟨fun a w A hA hS hd => gv1 (a_1 rfl hA.e), ?_⟩
   refine ⟨fun a w A hA hS hd => gv1 (a_1 rfl hA.e), ?_⟩
   refine ⟨fun a w A hA hS hd => gv1 (b_3 rfl z_1 ty_67 (gu hd 1) (i := k) (gu hd 2) (hS.sk 1 rfl) (by decide) (by omega)), ?_⟩
   refine ⟨fun a w A hA hS hd => gv1 (c_9 rfl fd_67_0 (gu hd 3) (hS.sk 1 rfl) (by rw [((hS.sk 1 rfl)).1]; omega)), ?_⟩
   refine ⟨fun a w A hA hS hd => gv1 (c_5 rfl ty_3 (gu hd 4) (hS.sk 1 rfl) (g_0 (by omega))), ?_⟩
   refine ⟨fun a w A hA hS hd => gv1 (a_1 rfl hA.e), ?_⟩
   refine ⟨fun a w A hA hS hd => gv1 (a_1 rfl hA.e), ?_⟩
   refine ⟨fun a w A hA hS hd => gv1 (b_3 rfl z_1 ty_67 (gu hd 6) (i := k) (gu hd 7) (hS.sk 1 rfl) (by decide) (by omega)), ?_⟩
   refine ⟨fun a w A hA hS hd => gv1 (c_9 rfl fd_67_1 (gu hd 8) (hS.sk 1 rfl) (by rw [((hS.sk 1 rfl)).1]; omega)), ?_⟩
   refine ⟨fun a w A hA hS hd => gv1 (c_5 rfl ty_3 (gu hd 9) (hS.sk 1 rfl) (h_4 (by omega))), ?_⟩
   refine ⟨fun a w A hA hS hd => gv1 (e_2 rfl (pv2 (gu hd 5) (gu hd 10)) (bd_98_0i_1i _ _)), ?_⟩
   refine ⟨fun a w A hA hS hd => d_2 rfl (vblt rfl (pv1 (gu hd 11)) un_53 ty_98 ze_98 (by decide) (cs := [(iv ((l.getD k (0, 0)).1)), (iv ((l.getD k (0, 0)).2))]) (bs_98_1_0iia _ _) rfl (by decide) (fun _ => And.intro trivial rfl)), ?_⟩
   trivial
  intro g AF A rsf29 W B Q; clear V F
  obtain ⟨U, f⟩ := B 12 (by decide)
  obtain ⟨d, T⟩ := f
  have R : Sep NoB w AF [(row (A 12) 98 2 1 [(iv ((l.getD k (0, 0)).1)), (iv ((l.getD k (0, 0)).2))]), (row v3_ 98 2 ((l.take k).length) (pairs (l.take k))), (sl xl 2 l.length (pairs l))] := by rw [show catR rsf29 0 13 = ([(row (A 12) 98 2 1 [(iv ((l.getD k (0, 0)).1)), (iv ((l.getD k (0, 0)).2))])] : List Res) by (try simp only [catR, gr (B 0 (by decide)), gr (B 1 (by decide)), gr (B 2 (by decide)), gr (B 3 (by decide)), gr (B 4 (by decide)), gr (B 5 (by decide)), gr (B 6 (by decide)), gr (B 7 (by decide)), gr (B 8 (by decide)), gr (B 9 (by decide)), gr (B 10 (by decide)), gr (B 11 (by decide)), T]); (try rfl)] at Q; exact Q
  have X := W.add (gs (B 0 (by decide))); clear W
  have E : Fr 26 [] [(23, (A 12)), (11, v3_), (4, (iv (k : Int))), (3, v3_), (0, xl)] g := X.add (g_4 U rfl); clear X
  clear B Q U
  clear T
  clear d
  refine s2 E (i_8 R rfl un_53 el_98 E.e E.e (i := 1) rfl (SlAt.e_5 (R.f_2 0 rfl)) rfl (by simp only [maxLen]; omega) (by omega)) ?_
  intro z AE AO Z K
  have b := Z.h_1 (i := 1) rfl (n' := ((l.take k) ++ [l.getD k (0, 0)]).length) (xs' := (pairs ((l.take k) ++ [l.getD k (0, 0)]))) (by simp) (by simp [pairs]); clear Z E R g
  refine s1 K (a_0 rfl K.e) fun AA L => ?_; clear K z
  refine e_9 (h_0 (b_1 (a_5 (s1 L (a_1 rfl L.e) fun AB M => ?_)))); clear L AA
  refine s1 M (g_5 rfl M.e (evc _ _) (by omega) (by omega)) fun AC N => ?_; clear M AB
  refine s1 N (a_0 rfl N.e) fun AL q => ?_; clear N AC
  refine e_9 ?_
  have r := b.gkp (gpc 1 (gpc 2 gpn)); clear b
  exact b_1 ⟨k + 1, ⟨AE, q.as _ rfl, (r.h_1 (i := 0) rfl (by rw [q_2 (by omega)]) (by rw [q_2 (by omega)])), by omega⟩, by omega⟩
 skip
 rw [decide_eq_false c] at C
 refine b_7 C rfl (h_2 (b_4 (b_4 (f_8 (b_1 (b_6 ?_))))))
 have O := C.as [(3, v3_)] rfl; clear C
 refine a_5 (s1 O (a_1 rfl O.e) fun AD P => ?_); clear O y
 refine s1 P (a_0 rfl P.e) fun AM Y => ?_; clear P AD
 refine n1 (c_2 (a_7 Y (.inl rfl) (a_2 Y rfl (.tmp rfl)) ?_))
 have hz := F.h_1 (i := 0) rfl (n' := l.length) (xs' := pairs l) (by rw [show k = l.length by omega, List.take_length]) (by rw [show k = l.length by omega, List.take_length])
 exact ⟨hz.ext, hz.row_new (i := 0) rfl⟩
end Go.Proofs.Ytohgladndklciaa

namespace Go.Proofs.Ytohgladndklciaa
open Go.RowKit Go.Shelf Go.Eng Go.Hard
theorem ze_37 : (Try.prog.info? 37).bind (·.zero) = some (Value.agg #[(iv 0), (Value.slice none 0 0), (Value.slice none 0 0)]) := by kernel_rfl
theorem bd_37_0i (x0_0 : Int) (w : World) : (Instr.build 37 #[(0, (.int .i64 x0_0))]).run Try.prog w = .ok (.agg #[(.int .i64 x0_0), (Value.slice none 0 0), (Value.slice none 0 0)]) w := by kernel_rfl
theorem ze_46 : (Try.prog.info? 46).bind (·.zero) = some (Value.agg #[(iv 0), (iv 0), (Value.slice none 0 0), (Value.slice none 0 0), (iv 0)]) := by kernel_rfl
theorem bd_106_0i_1i_3s_4i (x0_0 : Int) (x1_0 : Int) (x2_0 : Value) (hx2_0 : IsSl x2_0) (x3_0 : Int) (w : World) : (Instr.build 106 #[(0, (.int .i64 x0_0)), (1, (.int .i64 x1_0)), (3, x2_0), (4, (.int .i64 x3_0))]).run Try.prog w = .ok (.agg #[(.int .i64 x0_0), (.int .i64 x1_0), (Value.slice none 0 0), x2_0, (.int .i64 x3_0)]) w := by obtain ⟨Ax2_0, Bx2_0, Cx2_0, rfl⟩ := hx2_0; kernel_rfl
theorem en_40 : ∀ args w, (callFunc 40 args).run Try.prog w = .ok (.enter 40 args) w := enters_of Try.func40 (by kernel_rfl) rfl
theorem m_4 (x0_0 : Int) (x1_0 : Int) (w : World) : (Instr.build 107 #[(0, (.int .i64 x0_0)), (1, (.int .i64 x1_0))]).run Try.prog w = .ok (.agg #[(.int .i64 x0_0), (.int .i64 x1_0)]) w := by kernel_rfl
theorem bs_107_1_0iia (x0_0 : Int) (x0_1 : Int) : Instr.fill (fun i => some (i * 2, 2)) ((Array.range (1 * 2)).map ((Value.agg #[(iv 0), (iv 0)]).cells[· % (Value.agg #[(iv 0), (iv 0)]).cells.size]!)) [(0, .agg #[(.int .i64 x0_0), (.int .i64 x0_1)])] = some (([(.int .i64 x0_0), (.int .i64 x0_1)] : List Value).toArray) := by kernel_rfl
theorem el_107 : elK Try.prog 107 = some ((Value.agg #[(iv 0), (iv 0)]), 2, 16) := by kernel_rfl
theorem bd_103_0i (x0_0 : Int) (w : World) : (Instr.build 103 #[(0, (.int .i64 x0_0))]).run Try.prog w = .ok (.agg #[(.int .i64 x0_0), (Value.slice none 0 0)]) w := by kernel_rfl
theorem p_3 (x0_0 : Int) (x0_1 : Int) (x1_0 : Int) (w : World) : (Instr.build 100 #[(0, .agg #[(.int .i64 x0_0), (.int .i64 x0_1)]), (1, (.int .i64 x1_0))]).run Try.prog w = .ok (.agg #[(.int .i64 x0_0), (.int .i64 x0_1), (.int .i64 x1_0)]) w := by kernel_rfl
theorem en_20 : ∀ args w, (callFunc 20 args).run Try.prog w = .ok (.enter 20 args) w := enters_of Try.func20 (by kernel_rfl) rfl
theorem bs_100_1_0iiia (x0_0 : Int) (x0_1 : Int) (x0_2 : Int) : Instr.fill (fun i => some (i * 3, 3)) ((Array.range (1 * 3)).map ((Value.agg #[(iv 0), (iv 0), (iv 0)]).cells[· % (Value.agg #[(iv 0), (iv 0), (iv 0)]).cells.size]!)) [(0, .agg #[(.int .i64 x0_0), (.int .i64 x0_1), (.int .i64 x0_2)])] = some (([(.int .i64 x0_0), (.int .i64 x0_1), (.int .i64 x0_2)] : List Value).toArray) := by kernel_rfl
theorem el_100 : elK Try.prog 100 = some ((Value.agg #[(iv 0), (iv 0), (iv 0)]), 3, 24) := by kernel_rfl
theorem bs_103_1_0iva (x0_0 : Int) (x0_1 : Value) : Instr.fill (fun i => some (i * 2, 2)) ((Array.range (1 * 2)).map ((Value.agg #[(iv 0), (Value.slice none 0 0)]).cells[· % (Value.agg #[(iv 0), (Value.slice none 0 0)]).cells.size]!)) [(0, .agg #[(.int .i64 x0_0), x0_1])] = some (([(.int .i64 x0_0), x0_1] : List Value).toArray) := by kernel_rfl
theorem el_103 : elK Try.prog 103 = some ((Value.agg #[(iv 0), (Value.slice none 0 0)]), 2, 32) := by kernel_rfl
set_option maxHeartbeats 4000000 in
theorem Book_ok (b : g_3) (vt vm : Value) (lr lb lk : Nat → Value) (w : World) (hT : j_1 w vt lr lb b.tabs) (hM : k_3 w vm lk b.macs) (hth : o_2 b) :
  Calls Try.prog 19 #[(Value.agg #[(iv b.scales), vt, vm])] w (Ret fun v w' => ∃ vt' vm' lr' lb' lk', v = .agg #[.int .i64 b.scales, vt', vm'] ∧ Sep NoB w w' [d_9 true vt' lr' lb' b.tabs, e_1 true vm' lk' b.macs]) := by
 refine a_8 Try.func19 rfl fun a0 A8 => ?_
 replace A8 : Fr 116 [] [(0, (Value.agg #[(iv b.scales), vt, vm]))] a0 := A8
 have htl9 := hth.tl; have hml9 := hth.ml
 have C4 : Sep NoB w w [(d_9 false vt lr lb b.tabs), (e_1 false vm lk b.macs)] := e_6 ⟨rfl, hT, rfl, hM, trivial⟩
 refine m2 (s2 A8 (e_8 C4 rfl A8.e (cs := [(iv b.scales), vt, vm]) rfl) ?_)
 rintro a1 _ w3 ⟨I, rfl, C5⟩ C3; clear A8 C4 a0
 refine s2 C3 (e_0 C5 rfl ze_37 (cs := [(iv 0), (Value.slice none 0 0), (Value.slice none 0 0)]) rfl) ?_
 rintro a6 _ w8 ⟨H, rfl, BM⟩ CV; clear C3 C5 a1
 refine n4 (s1 CV (a_3 rfl fd_25_0 CV.e) fun D6 A9 => ?_); clear CV a6
 refine s1 A9 (a_4 rfl ty_3 A9.e (BM.bk 1 rfl) rfl) fun D7 BA => ?_; clear A9 D6
 refine s1 BA (e_2 rfl (pv1 BA.e) (bd_37_0i _)) fun D8 CM => ?_; clear BA D7
 refine s2 CM (e_0 BM rfl ze_37 (cs := [(iv 0), (Value.slice none 0 0), (Value.slice none 0 0)]) rfl) ?_
 rintro D9 _ Eu ⟨B, rfl, Cb⟩ AO; clear CM BM D8
 refine s7 AO (b_9 Cb rfl t_9 AO.e AO.e (i := 0) rfl (vs := [(iv b.scales), (Value.slice none 0 0), (Value.slice none 0 0)]) rfl rfl (h_6 rfl (h_6 rfl (h_6 rfl s_6))) (Nat.le_of_ble_eq_true rfl)) ?_
 intro _ EV Cc CN; clear AO
 have Cd : Sep NoB w EV [(blk B 37 [(iv b.scales), (Value.slice none 0 0), (Value.slice none 0 0)]), (blk H 37 [(iv 0), (Value.slice none 0 0), (Value.slice none 0 0)]), (blk I 25 [(iv b.scales), vt, vm]), (d_9 false vt lr lb b.tabs), (e_1 false vm lk b.macs)] := Cc; clear Cc Cb
 refine n2 (m2 (s1 CN (a_0 rfl (evc _ _)) fun EA CO => ?_)); clear CN D9
 refine n1 (c_6 ?_)
 have Ce := o_9 (o_9 (Cd.y_7 106 5) (fun _ => Value.slice none 0 0) 1 (brkN (b.tabs.take 0)) (brkC (b.tabs.take 0))) (fun _ => Value.slice none 0 0) 2 (j_9 (b.tabs.take 0)) (j_8 (b.tabs.take 0)); clear Cd
 have CP := CO.as [(4, (iv 0)), (3, (bptr B 0)), (2, (bptr H 0)), (1, (bptr I 0))] rfl; clear CO
 refine h_3 (G := Nat) (fun (k : Nat) a_ w_ => ∃ vt_ : Value, ∃ lr_ : Nat → Value, ∃ lb_ : Nat → Value, Fr 116 [] [(4, (iv (k : Int))), (3, (bptr B 0)), (2, (bptr H 0)), (1, (bptr I 0))] a_ ∧ Sep NoB w w_ [(slsR true ((b.tabs.take k).length) lr_ 2 (j_9 (b.tabs.take k)) (j_8 (b.tabs.take k))), (slsR true ((b.tabs.take k).length) lb_ 1 (brkN (b.tabs.take k)) (brkC (b.tabs.take k))), (row vt_ 106 5 ((b.tabs.take k).length) (j_5 lr_ lb_ (b.tabs.take k))), (blk B 37 [(iv b.scales), vt_, (Value.slice none 0 0)]), (blk H 37 [(iv 0), (Value.slice none 0 0), (Value.slice none 0 0)]), (blk I 25 [(iv b.scales), vt, vm]), (d_9 false vt lr lb b.tabs), (e_1 false vm lk b.macs)] ∧ (k ≤ b.tabs.length)) (fun k => b.tabs.length - k) 0 ⟨(Value.slice none 0 0), (fun _ => Value.slice none 0 0), (fun _ => Value.slice none 0 0), CP.as _ rfl, (Ce.h_1 (i := 2) rfl (by rfl) (by rfl)), by omega⟩ ?_
 clear CP Ce EA
 rintro k EB Ev ⟨vt_, lr_, lb_, BB, S, hk⟩
 have htk : (b.tabs.take k).length = k := by rw [List.length_take]; omega
 refine b_6 (m2 (s1 BB (a_1 rfl BB.e) fun EC BC => ?_)); clear BB EB
 refine s1 BC (a_3 rfl n_5 BC.e) fun ED BD => ?_; clear BC EC
 refine s1 BD (a_4 rfl z_6 BD.e (S.bk 5 rfl) rfl) fun EE BE => ?_; clear BD ED
 refine s1 BE (d_4 rfl x_4 BE.e (b_5 (S.ok 6 _ rfl)).tabs) fun EF Ap => ?_; clear BE EE
 refine s1 Ap (f_9 rfl Ap.e Ap.e) fun C1 R => ?_; clear Ap EF
 refine n1 ?_
 by_cases Ck : (k : Int) < (b.tabs.length : Int)
 ·skip
  rw [decide_eq_true Ck] at R
  have htkk := hth.tab k
  refine c_1 R rfl (d_1 (b_1 (b_6 (c_6 (m2 (s1 R (a_3 rfl n_5 R.e) fun EG BF => ?_)))))); clear R C1
  refine s1 BF (a_4 rfl z_6 BF.e (S.bk 5 rfl) rfl) fun EH BG => ?_; clear BF EG
  refine s1 BG (a_1 rfl BG.e) fun EI Aq => ?_; clear BG EH
  refine s1 Aq (b_3 rfl x_4 aa_3 Aq.e (i := k) Aq.e (b_5 (S.ok 6 _ rfl)).tabs (by decide) (by omega)) fun EJ BH => ?_; clear Aq EI
  refine s1 BH (f_0 rfl aa_3 BH.e (b_5 (S.ok 6 _ rfl)).tabs (x_2 (by omega)) rfl (by decide)) fun EK CQ => ?_; clear BH EJ
  refine s2 CQ (e_0 S rfl ze_46 (cs := [(iv 0), (iv 0), (Value.slice none 0 0), (Value.slice none 0 0), (iv 0)]) rfl) ?_
  rintro Er _ Ew ⟨K, rfl, A2⟩ Ar; clear CQ S EK
  refine s7 Ar (b_9 A2 rfl aa_3 Ar.e Ar.e (i := 0) rfl (vs := [(iv ((b.tabs.getD k tab0).frm)), (iv ((b.tabs.getD k tab0).dst)), (lr k), (lb k), (iv ((b.tabs.getD k tab0).err))]) rfl rfl (h_6 rfl (h_6 rfl (h_6 (SlAt.one ((b_5 (A2.ok 7 _ rfl)).row (i := k) (by omega))) (h_6 (SlAt.one ((b_5 (A2.ok 7 _ rfl)).brk (i := k) (by omega))) (h_6 rfl s_6))))) (Nat.le_of_ble_eq_true rfl)) ?_
  intro _ EW Cf CR; clear Ar
  have Cg : Sep NoB w EW [(blk K 46 [(iv ((b.tabs.getD k tab0).frm)), (iv ((b.tabs.getD k tab0).dst)), (lr k), (lb k), (iv ((b.tabs.getD k tab0).err))]), (slsR true ((b.tabs.take k).length) lr_ 2 (j_9 (b.tabs.take k)) (j_8 (b.tabs.take k))), (slsR true ((b.tabs.take k).length) lb_ 1 (brkN (b.tabs.take k)) (brkC (b.tabs.take k))), (row vt_ 106 5 ((b.tabs.take k).length) (j_5 lr_ lb_ (b.tabs.take k))), (blk B 37 [(iv b.scales), vt_, (Value.slice none 0 0)]), (blk H 37 [(iv 0), (Value.slice none 0 0), (Value.slice none 0 0)]), (blk I 25 [(iv b.scales), vt, vm]), (d_9 false vt lr lb b.tabs), (e_1 false vm lk b.macs)] := Cf; clear Cf A2
  refine n2 ?_
  have CS := CR.as [(5, (bptr K 0)), (4, (iv (k : Int))), (3, (bptr B 0)), (2, (bptr H 0)), (1, (bptr I 0))] rfl; clear CR
  have CT := CS.as [(5, (bptr K 0)), (4, (iv (k : Int))), (3, (bptr B 0)), (2, (bptr H 0)), (1, (bptr I 0))] rfl; clear CS
  refine c_drawV mixed CT Cg 11 [[], [0], [], [2], [], [4], [5], [], [7], [1, 3, 6, 8], []] [(yw (bptr K 0)), (yw (iv ((b.tabs.getD k tab0).frm))), (yw (bptr K 1)), (yw (iv ((b.tabs.getD k tab0).dst))), (yw (bptr K 3)), (yw (lb k)), (fun (A : Nat → Value) (v_ : Value) (rs_ : List Res) => True ∧ rs_ = [(row v_ 3 1 ((b.tabs.getD k tab0).brk.length) (ints ((b.tabs.getD k tab0).brk)))]), (yw (bptr K 4)), (yw (iv ((b.tabs.getD k tab0).err))), (fun (A : Nat → Value) (v_ : Value) (rs_ : List Res) => v_ = (Value.agg #[(iv ((b.tabs.getD k tab0).frm)), (iv ((b.tabs.getD k tab0).dst)), (Value.slice none 0 0), (A 6), (iv ((b.tabs.getD k tab0).err))]) ∧ rs_ = []), (fun (A : Nat → Value) (v_ : Value) (rs_ : List Res) => ∃ (b10_ : Nat), v_ = (bptr b10_ 0) ∧ rs_ = [(blk b10_ 106 [(iv 0), (iv 0), (Value.slice none 0 0), (Value.slice none 0 0), (iv 0)])])] (by decide +kernel) (by decide +kernel) rfl rfl ⟨dw, dw, dw, dw, dw, dw, (fun _ _ _ _ _ h_ => h_), dw, dw, (fun _ _ _ _ he_ h_ => by dsimp only at h_ ⊢; rw [← he_ 6 (by decide)]; exact h_), (fun _ _ _ _ _ h_ => h_), trivial⟩ ?_ ?_
  ·skip
   refine ⟨fun a w A hA hS hd => gv1 (a_3 rfl fd_46_0 hA.e), ?_⟩
   refine ⟨fun a w A hA hS hd => gv1 (a_4 rfl ty_3 (gu hd 0) (hS.bk 0 rfl) rfl), ?_⟩
   refine ⟨fun a w A hA hS hd => gv1 (a_3 rfl fd_46_1 hA.e), ?_⟩
   refine ⟨fun a w A hA hS hd => gv1 (a_4 rfl ty_3 (gu hd 2) (hS.bk 0 rfl) rfl), ?_⟩
   refine ⟨fun a w A hA hS hd => gv1 (a_3 rfl y_5 hA.e), ?_⟩
   refine ⟨fun a w A hA hS hd => gv1 (a_4 rfl aa_9 (gu hd 4) (hS.bk 0 rfl) rfl), ?_⟩
   refine ⟨fun a w A hA hS hd => d_2 rfl (vn (b_0 rfl en_40 (ev1 (gu hd 5)) (list_ok ((b.tabs.getD k tab0).brk) _ _ ((b_5 (hS.ok 7 _ rfl)).brk (i := k) (by omega)) (hth.bl _))) (fun v w' h => ⟨_, And.intro trivial rfl, (Sep.start NoB _).w_6 h.1 h.2, rfl⟩)), ?_⟩
   refine ⟨fun a w A hA hS hd => gv1 (a_3 rfl fd_46_4 hA.e), ?_⟩
   refine ⟨fun a w A hA hS hd => gv1 (a_4 rfl ty_3 (gu hd 7) (hS.bk 0 rfl) rfl), ?_⟩
   refine ⟨fun a w A hA hS hd => ?_, ?_⟩
   ·skip
    obtain ⟨e6, Et, EU, ES⟩ := hd 6 (by decide)
    obtain ⟨Es, ET⟩ := EU; subst ET
    have hp6_0 := ES _ (List.mem_of_getElem? (i := 0) rfl)
    exact gv1 (e_2 rfl (pv4 (gu hd 1) (gu hd 3) (c_3 (g_4 e6 rfl)) (gu hd 8)) (bd_106_0i_1i_3s_4i _ _ _ (SlAt.isSl (SlAt.e_5 hp6_0)) _))
   refine ⟨fun a w A hA hS hd => d_2 rfl (valloc rfl ze_106 (cs := [(iv 0), (iv 0), (Value.slice none 0 0), (Value.slice none 0 0), (iv 0)]) rfl (fun b_ => ⟨b_, rfl, rfl⟩)), ?_⟩
   trivial
  intro C2 EX A rsf72 CU M BN; clear CT Cg
  obtain ⟨Dt, Dv⟩ := M 6 (by decide)
  obtain ⟨Du, Cm⟩ := Dv
  obtain ⟨A3, Cy⟩ := M 10 (by decide)
  obtain ⟨b10_, CI, CD⟩ := Cy
  have BO : Sep NoB w EX [(row (A 6) 3 1 ((b.tabs.getD k tab0).brk.length) (ints ((b.tabs.getD k tab0).brk))), (blk b10_ 106 [(iv 0), (iv 0), (Value.slice none 0 0), (Value.slice none 0 0), (iv 0)]), (blk K 46 [(iv ((b.tabs.getD k tab0).frm)), (iv ((b.tabs.getD k tab0).dst)), (lr k), (lb k), (iv ((b.tabs.getD k tab0).err))]), (slsR true ((b.tabs.take k).length) lr_ 2 (j_9 (b.tabs.take k)) (j_8 (b.tabs.take k))), (slsR true ((b.tabs.take k).length) lb_ 1 (brkN (b.tabs.take k)) (brkC (b.tabs.take k))), (row vt_ 106 5 ((b.tabs.take k).length) (j_5 lr_ lb_ (b.tabs.take k))), (blk B 37 [(iv b.scales), vt_, (Value.slice none 0 0)]), (blk H 37 [(iv 0), (Value.slice none 0 0), (Value.slice none 0 0)]), (blk I 25 [(iv b.scales), vt, vm]), (d_9 false vt lr lb b.tabs), (e_1 false vm lk b.macs)] := by rw [show catR rsf72 0 11 = ([(row (A 6) 3 1 ((b.tabs.getD k tab0).brk.length) (ints ((b.tabs.getD k tab0).brk))), (blk b10_ 106 [(iv 0), (iv 0), (Value.slice none 0 0), (Value.slice none 0 0), (iv 0)])] : List Res) by (try simp only [catR, gr (M 0 (by decide)), gr (M 1 (by decide)), gr (M 2 (by decide)), gr (M 3 (by decide)), gr (M 4 (by decide)), gr (M 5 (by decide)), Cm, gr (M 7 (by decide)), gr (M 8 (by decide)), gr (M 9 (by decide)), CD]); (try rfl)] at BN; exact BN
  have CW := CU.add (gs (M 9 (by decide))); clear CU
  rw [CI] at A3
  have As : Fr 116 [] [(6, (bptr b10_ 0)), (36, (Value.agg #[(iv ((b.tabs.getD k tab0).frm)), (iv ((b.tabs.getD k tab0).dst)), (Value.slice none 0 0), (A 6), (iv ((b.tabs.getD k tab0).err))])), (5, (bptr K 0)), (4, (iv (k : Int))), (3, (bptr B 0)), (2, (bptr H 0)), (1, (bptr I 0))] C2 := CW.add (g_4 A3 rfl); clear CW
  clear M BN Dt A3
  clear Cm
  clear Du
  clear CD
  clear CI
  refine s7 As (b_9 BO rfl l_3 As.e As.e (i := 1) rfl (vs := [(iv ((b.tabs.getD k tab0).frm)), (iv ((b.tabs.getD k tab0).dst)), (Value.slice none 0 0), (A 6), (iv ((b.tabs.getD k tab0).err))]) rfl rfl (h_6 rfl (h_6 rfl (h_6 rfl (h_6 (SlAt.one (SlAt.e_5 (BO.f_2 0 rfl))) (h_6 rfl s_6))))) (Nat.le_of_ble_eq_true rfl)) ?_
  intro _ EY Ch CX; clear As
  have Ci : Sep NoB w EY [(row (A 6) 3 1 ((b.tabs.getD k tab0).brk.length) (ints ((b.tabs.getD k tab0).brk))), (blk b10_ 106 [(iv ((b.tabs.getD k tab0).frm)), (iv ((b.tabs.getD k tab0).dst)), (Value.slice none 0 0), (A 6), (iv ((b.tabs.getD k tab0).err))]), (blk K 46 [(iv ((b.tabs.getD k tab0).frm)), (iv ((b.tabs.getD k tab0).dst)), (lr k), (lb k), (iv ((b.tabs.getD k tab0).err))]), (slsR true ((b.tabs.take k).length) lr_ 2 (j_9 (b.tabs.take k)) (j_8 (b.tabs.take k))), (slsR true ((b.tabs.take k).length) lb_ 1 (brkN (b.tabs.take k)) (brkC (b.tabs.take k))), (row vt_ 106 5 ((b.tabs.take k).length) (j_5 lr_ lb_ (b.tabs.take k))), (blk B 37 [(iv b.scales), vt_, (Value.slice none 0 0)]), (blk H 37 [(iv 0), (Value.slice none 0 0), (Value.slice none 0 0)]), (blk I 25 [(iv b.scales), vt, vm]), (d_9 false vt lr lb b.tabs), (e_1 false vm lk b.macs)] := Ch; clear Ch BO
  refine n2 (m2 (s1 CX (a_0 rfl (evc _ _)) fun EL CY => ?_)); clear CX C2
  refine n1 (c_6 ?_)
  have Cj := Ci.y_7 107 2; clear Ci
  have CZ := CY.as [(7, (iv 0)), (6, (bptr b10_ 0)), (5, (bptr K 0)), (4, (iv (k : Int))), (3, (bptr B 0)), (2, (bptr H 0)), (1, (bptr I 0))] rfl; clear CY
  refine h_3 (G := Nat) (fun (j : Nat) a_ w_ => ∃ vr_ : Value, Fr 116 [] [(7, (iv (j : Int))), (6, (bptr b10_ 0)), (5, (bptr K 0)), (4, (iv (k : Int))), (3, (bptr B 0)), (2, (bptr H 0)), (1, (bptr I 0))] a_ ∧ Sep NoB w w_ [(row vr_ 107 2 (((b.tabs.getD k tab0).rows.take j).length) (pairs ((b.tabs.getD k tab0).rows.take j))), (row (A 6) 3 1 ((b.tabs.getD k tab0).brk.length) (ints ((b.tabs.getD k tab0).brk))), (blk b10_ 106 [(iv ((b.tabs.getD k tab0).frm)), (iv ((b.tabs.getD k tab0).dst)), vr_, (A 6), (iv ((b.tabs.getD k tab0).err))]), (blk K 46 [(iv ((b.tabs.getD k tab0).frm)), (iv ((b.tabs.getD k tab0).dst)), (lr k), (lb k), (iv ((b.tabs.getD k tab0).err))]), (slsR true ((b.tabs.take k).length) lr_ 2 (j_9 (b.tabs.take k)) (j_8 (b.tabs.take k))), (slsR true ((b.tabs.take k).length) lb_ 1 (brkN (b.tabs.take k)) (brkC (b.tabs.take k))), (row vt_ 106 5 ((b.tabs.take k).length) (j_5 lr_ lb_ (b.tabs.take k))), (blk B 37 [(iv b.scales), vt_, (Value.slice none 0 0)]), (blk H 37 [(iv 0), (Value.slice none 0 0), (Value.slice none 0 0)]), (blk I 25 [(iv b.scales), vt, vm]), (d_9 false vt lr lb b.tabs), (e_1 false vm lk b.macs)] ∧ (j ≤ (b.tabs.getD k tab0).rows.length)) (fun j => (b.tabs.getD k tab0).rows.length - j) 0 ⟨(Value.slice none 0 0), CZ.as _ rfl, (Cj.h_1 (i := 0) rfl (by rfl) (by rfl)), (Nat.zero_le _)⟩ ?_
  clear CZ Cj EL
  rintro j EM Ex ⟨vr_, BI, U, hkj⟩
  have hlt_j : ((b.tabs.getD k tab0).rows.take j).length ≤ 12 := by simp only [List.length_take]; omega
  refine b_6 (m2 (s1 BI (a_1 rfl BI.e) fun EN BJ => ?_)); clear BI EM
  refine s1 BJ (a_3 rfl i_7 BJ.e) fun EO BK => ?_; clear BJ EN
  refine s1 BK (a_4 rfl q_6 BK.e (U.bk 3 rfl) rfl) fun EP BL => ?_; clear BK EO
  refine s1 BL (d_4 rfl q_7 BL.e ((b_5 (U.ok 10 _ rfl)).row (i := k) (by omega))) fun EQ At => ?_; clear BL EP
  refine s1 At (f_9 rfl At.e At.e) fun ER T => ?_; clear At EQ
  refine n1 ?_
  by_cases Cl : (j : Int) < ((b.tabs.getD k tab0).rows.length : Int)
  ·skip
   rw [decide_eq_true Cl] at T
   refine c_1 T rfl (d_1 (b_1 (b_6 (c_6 ?_))))
   have Ca := T.as [(7, (iv (j : Int))), (6, (bptr b10_ 0)), (5, (bptr K 0)), (4, (iv (k : Int))), (3, (bptr B 0)), (2, (bptr H 0)), (1, (bptr I 0))] rfl; clear T
   refine c_drawV mixed Ca U 16 [[], [0], [], [2], [], [3, 4], [5], [6], [], [8], [], [9, 10], [11], [12], [7, 13], [14]] [(yw (bptr b10_ 2)), (yw vr_), (yw (bptr K 2)), (yw (lr k)), (yw (iv (j : Int))), (yw (eptr (lr k) (j * 2))), (yw (eptr (lr k) (j * 2 + 0))), (yw (iv ((((b.tabs.getD k tab0).rows).getD j (0, 0)).1))), (yw (bptr K 2)), (yw (lr k)), (yw (iv (j : Int))), (yw (eptr (lr k) (j * 2))), (yw (eptr (lr k) (j * 2 + 1))), (yw (iv ((((b.tabs.getD k tab0).rows).getD j (0, 0)).2))), (yw (Value.agg #[(iv ((((b.tabs.getD k tab0).rows).getD j (0, 0)).1)), (iv ((((b.tabs.getD k tab0).rows).getD j (0, 0)).2))])), (fun (D : Nat → Value) (v_ : Value) (rs_ : List Res) => True ∧ rs_ = [(row v_ 107 2 1 [(iv ((((b.tabs.getD k tab0).rows).getD j (0, 0)).1)), (iv ((((b.tabs.getD k tab0).rows).getD j (0, 0)).2))])])] (by decide +kernel) (by decide +kernel) rfl rfl ⟨dw, dw, dw, dw, dw, dw, dw, dw, dw, dw, dw, dw, dw, dw, dw, (fun _ _ _ _ _ h_ => h_), trivial⟩ ?_ ?_
   ·skip
    refine ⟨fun a w D hA hS hd => gv1 (a_3 rfl i_5 hA.e), ?_⟩
    refine ⟨fun a w D hA hS hd => gv1 (a_4 rfl n_1 (gu hd 0) (hS.bk 2 rfl) rfl), ?_⟩
    refine ⟨fun a w D hA hS hd => gv1 (a_3 rfl i_7 hA.e), ?_⟩
    refine ⟨fun a w D hA hS hd => gv1 (a_4 rfl q_6 (gu hd 2) (hS.bk 3 rfl) rfl), ?_⟩
    refine ⟨fun a w D hA hS hd => gv1 (a_1 rfl hA.e), ?_⟩
    refine ⟨fun a w D hA hS hd => gv1 (b_3 rfl q_7 y_3 (gu hd 3) (i := j) (gu hd 4) ((b_5 (hS.ok 10 _ rfl)).row (i := k) (by omega)) (by decide) (by omega)), ?_⟩
    refine ⟨fun a w D hA hS hd => gv1 (c_9 rfl y_6 (gu hd 5) ((b_5 (hS.ok 10 _ rfl)).row (i := k) (by omega)) (by rw [(((b_5 (hS.ok 10 _ rfl)).row (i := k) (by omega))).1]; omega)), ?_⟩
    refine ⟨fun a w D hA hS hd => gv1 (c_5 rfl ty_3 (gu hd 6) ((b_5 (hS.ok 10 _ rfl)).row (i := k) (by omega)) (g_0 (by omega))), ?_⟩
    refine ⟨fun a w D hA hS hd => gv1 (a_3 rfl i_7 hA.e), ?_⟩
    refine ⟨fun a w D hA hS hd => gv1 (a_4 rfl q_6 (gu hd 8) (hS.bk 3 rfl) rfl), ?_⟩
    refine ⟨fun a w D hA hS hd => gv1 (a_1 rfl hA.e), ?_⟩
    refine ⟨fun a w D hA hS hd => gv1 (b_3 rfl q_7 y_3 (gu hd 9) (i := j) (gu hd 10) ((b_5 (hS.ok 10 _ rfl)).row (i := k) (by omega)) (by decide) (by omega)), ?_⟩
    refine ⟨fun a w D hA hS hd => gv1 (c_9 rfl u_5 (gu hd 11) ((b_5 (hS.ok 10 _ rfl)).row (i := k) (by omega)) (by rw [(((b_5 (hS.ok 10 _ rfl)).row (i := k) (by omega))).1]; omega)), ?_⟩
    refine ⟨fun a w D hA hS hd => gv1 (c_5 rfl ty_3 (gu hd 12) ((b_5 (hS.ok 10 _ rfl)).row (i := k) (by omega)) (h_4 (by omega))), ?_⟩
    refine ⟨fun a w D hA hS hd => gv1 (e_2 rfl (pv2 (gu hd 7) (gu hd 13)) (m_4 _ _)), ?_⟩
    refine ⟨fun a w D hA hS hd => d_2 rfl (vblt rfl (pv1 (gu hd 14)) k_5 i_0 x_8 (by decide) (cs := [(iv ((((b.tabs.getD k tab0).rows).getD j (0, 0)).1)), (iv ((((b.tabs.getD k tab0).rows).getD j (0, 0)).2))]) (bs_107_1_0iia _ _) rfl (by decide) (fun _ => And.intro trivial rfl)), ?_⟩
    trivial
   intro CJ Dw D rsf106 BP F Au; clear Ca U
   obtain ⟨CG, Cz⟩ := F 15 (by decide)
   obtain ⟨Cw, CE⟩ := Cz
   have Av : Sep NoB w Dw [(row (D 15) 107 2 1 [(iv ((((b.tabs.getD k tab0).rows).getD j (0, 0)).1)), (iv ((((b.tabs.getD k tab0).rows).getD j (0, 0)).2))]), (row vr_ 107 2 (((b.tabs.getD k tab0).rows.take j).length) (pairs ((b.tabs.getD k tab0).rows.take j))), (row (A 6) 3 1 ((b.tabs.getD k tab0).brk.length) (ints ((b.tabs.getD k tab0).brk))), (blk b10_ 106 [(iv ((b.tabs.getD k tab0).frm)), (iv ((b.tabs.getD k tab0).dst)), vr_, (A 6), (iv ((b.tabs.getD k tab0).err))]), (blk K 46 [(iv ((b.tabs.getD k tab0).frm)), (iv ((b.tabs.getD k tab0).dst)), (lr k), (lb k), (iv ((b.tabs.getD k tab0).err))]), (slsR true ((b.tabs.take k).length) lr_ 2 (j_9 (b.tabs.take k)) (j_8 (b.tabs.take k))), (slsR true ((b.tabs.take k).length) lb_ 1 (brkN (b.tabs.take k)) (brkC (b.tabs.take k))), (row vt_ 106 5 ((b.tabs.take k).length) (j_5 lr_ lb_ (b.tabs.take k))), (blk B 37 [(iv b.scales), vt_, (Value.slice none 0 0)]), (blk H 37 [(iv 0), (Value.slice none 0 0), (Value.slice none 0 0)]), (blk I 25 [(iv b.scales), vt, vm]), (d_9 false vt lr lb b.tabs), (e_1 false vm lk b.macs)] := by rw [show catR rsf106 0 16 = ([(row (D 15) 107 2 1 [(iv ((((b.tabs.getD k tab0).rows).getD j (0, 0)).1)), (iv ((((b.tabs.getD k tab0).rows).getD j (0, 0)).2))])] : List Res) by (try simp only [catR, gr (F 0 (by decide)), gr (F 1 (by decide)), gr (F 2 (by decide)), gr (F 3 (by decide)), gr (F 4 (by decide)), gr (F 5 (by decide)), gr (F 6 (by decide)), gr (F 7 (by decide)), gr (F 8 (by decide)), gr (F 9 (by decide)), gr (F 10 (by decide)), gr (F 11 (by decide)), gr (F 12 (by decide)), gr (F 13 (by decide)), gr (F 14 (by decide)), CE]); (try rfl)] at Au; exact Au
   have BQ := BP.add (gs (F 1 (by decide))); clear BP
   have W : Fr 116 [] [(59, (D 15)), (45, vr_), (7, (iv (j : Int))), (6, (bptr b10_ 0)), (5, (bptr K 0)), (4, (iv (k : Int))), (3, (bptr B 0)), (2, (bptr H 0)), (1, (bptr I 0))] CJ := BQ.add (g_4 CG rfl); clear BQ
   clear F Au CG
   clear CE
   clear Cw
   refine s2 W (i_8 Av rfl k_5 el_107 W.e W.e (i := 1) rfl (SlAt.e_5 (Av.f_2 0 rfl)) rfl (by simp only [maxLen]; omega) (by omega)) ?_
   intro C6 A4 Eh Bg AB
   have u := Bg.h_1 (i := 1) rfl (n' := (((b.tabs.getD k tab0).rows.take j) ++ [(b.tabs.getD k tab0).rows.getD j (0, 0)]).length) (xs' := (pairs (((b.tabs.getD k tab0).rows.take j) ++ [(b.tabs.getD k tab0).rows.getD j (0, 0)]))) (by simp) (by simp [pairs]); clear Bg W Av CJ
   refine s1 AB (a_3 rfl i_5 AB.e) fun C7 X => ?_; clear AB C6
   refine s7 X (b_9 u rfl n_1 X.e X.e (i := 3) rfl (vs := [A4]) (n_9 (SlAt.isSl (SlAt.e_5 (u.f_2 1 rfl)))) rfl (h_6 (SlAt.one (SlAt.e_5 (u.f_2 1 rfl))) s_6) (Nat.le_of_ble_eq_true rfl)) ?_
   intro _ Dx Bh AC; clear X
   have Bi : Sep NoB w Dx [(row (D 15) 107 2 1 [(iv ((((b.tabs.getD k tab0).rows).getD j (0, 0)).1)), (iv ((((b.tabs.getD k tab0).rows).getD j (0, 0)).2))]), (row A4 107 2 ((((b.tabs.getD k tab0).rows.take j) ++ [(b.tabs.getD k tab0).rows.getD j (0, 0)]).length) (pairs (((b.tabs.getD k tab0).rows.take j) ++ [(b.tabs.getD k tab0).rows.getD j (0, 0)]))), (row (A 6) 3 1 ((b.tabs.getD k tab0).brk.length) (ints ((b.tabs.getD k tab0).brk))), (blk b10_ 106 [(iv ((b.tabs.getD k tab0).frm)), (iv ((b.tabs.getD k tab0).dst)), A4, (A 6), (iv ((b.tabs.getD k tab0).err))]), (blk K 46 [(iv ((b.tabs.getD k tab0).frm)), (iv ((b.tabs.getD k tab0).dst)), (lr k), (lb k), (iv ((b.tabs.getD k tab0).err))]), (slsR true ((b.tabs.take k).length) lr_ 2 (j_9 (b.tabs.take k)) (j_8 (b.tabs.take k))), (slsR true ((b.tabs.take k).length) lb_ 1 (brkN (b.tabs.take k)) (brkC (b.tabs.take k))), (row vt_ 106 5 ((b.tabs.take k).length) (j_5 lr_ lb_ (b.tabs.take k))), (blk B 37 [(iv b.scales), vt_, (Value.slice none 0 0)]), (blk H 37 [(iv 0), (Value.slice none 0 0), (Value.slice none 0 0)]), (blk I 25 [(iv b.scales), vt, vm]), (d_9 false vt lr lb b.tabs), (e_1 false vm lk b.macs)] := Bh; clear Bh u
   refine e_9 (h_0 (b_1 (a_5 (s1 AC (a_1 rfl AC.e) fun C8 AD => ?_)))); clear AC C7
   refine s1 AD (g_5 rfl AD.e (evc _ _) (by omega) (by omega)) fun C9 AE => ?_; clear AD C8
   refine s1 AE (a_0 rfl AE.e) fun Ea Cn => ?_; clear AE C9
   refine e_9 ?_
   have Cr := Bi.gkp (gpc 1 (gpc 2 (gpc 3 (gpc 4 (gpc 5 (gpc 6 (gpc 7 (gpc 8 (gpc 9 (gpc 10 (gpc 11 (gpc 12 gpn)))))))))))); clear Bi
   exact b_1 ⟨j + 1, ⟨A4, Cn.as _ rfl, (Cr.h_1 (i := 0) rfl (by rw [q_2 (by omega)]) (by rw [q_2 (by omega)])), by omega⟩, by omega⟩
  skip
  rw [decide_eq_false Cl] at T
  refine b_7 T rfl (h_2 (b_4 (b_4 (f_8 (b_1 ?_)))))
  have AF := T.as [(6, (bptr b10_ 0)), (4, (iv (k : Int))), (3, (bptr B 0)), (2, (bptr H 0)), (1, (bptr I 0))] rfl; clear T
  refine a_5 (s1 AF (a_3 rfl w_3 AF.e) fun DA AG => ?_); clear AF ER
  refine s1 AG (a_4 rfl ty_34 AG.e (U.bk 7 rfl) rfl) fun DB AH => ?_; clear AG DA
  refine s1 AH (c_0 rfl l_3 (AH.ev rfl) (U.bk 2 rfl) (l := [(iv ((b.tabs.getD k tab0).frm)), (iv ((b.tabs.getD k tab0).dst)), vr_, (A 6), (iv ((b.tabs.getD k tab0).err))]) rfl rfl) fun DC AI => ?_; clear AH DB
  refine s2 AI (g_2 U rfl (pv1 AI.e) z_8 l_3 ze_106 (by decide) (cs := [(iv ((b.tabs.getD k tab0).frm)), (iv ((b.tabs.getD k tab0).dst)), vr_, (A 6), (iv ((b.tabs.getD k tab0).err))]) (bs_106_1_0iivvia _ _ _ _ _)) ?_
  rintro DD _ Ei ⟨Dr, rfl, V⟩ Y; clear AI U DC
  refine s2 Y (i_8 V rfl z_8 el_106 Y.e Y.e (i := 7) rfl (SlAt.of_blk (V.bk 0 rfl) rfl (Nat.le_of_ble_eq_true rfl)) (h_6 rfl (h_6 rfl (h_6 (SlAt.one (SlAt.e_5 (V.f_2 1 rfl))) (h_6 (SlAt.one (SlAt.e_5 (V.f_2 2 rfl))) (h_6 rfl s_6))))) (by simp only [maxLen]; omega) (by omega)) ?_
  intro DE A5 Ej Bj AJ
  have x := Bj.h_1 (i := 7) rfl (n' := ((b.tabs.take k) ++ [(b.tabs.getD k tab0)]).length) (xs' := (j_5 (putV (b.tabs.take k).length lr_ vr_) (putV (b.tabs.take k).length lb_ (A 6)) ((b.tabs.take k) ++ [(b.tabs.getD k tab0)]))) (by simp) (tabs_snoc (b.tabs.getD k tab0) vr_ (A 6)); clear Bj Y V DD
  refine s1 AJ (a_3 rfl w_3 AJ.e) fun DF Z => ?_; clear AJ DE
  refine s7 Z (b_9 x rfl ty_34 Z.e Z.e (i := 8) rfl (vs := [A5]) (n_9 (SlAt.isSl (SlAt.e_5 (x.f_2 7 rfl)))) rfl (h_6 (SlAt.one (SlAt.e_5 (x.f_2 7 rfl))) s_6) (Nat.le_of_ble_eq_true rfl)) ?_
  intro _ Dy Bk BR; clear Z
  have Bl : Sep NoB w Dy [(blk Dr 106 [(iv ((b.tabs.getD k tab0).frm)), (iv ((b.tabs.getD k tab0).dst)), vr_, (A 6), (iv ((b.tabs.getD k tab0).err))]), (row vr_ 107 2 (((b.tabs.getD k tab0).rows.take j).length) (pairs ((b.tabs.getD k tab0).rows.take j))), (row (A 6) 3 1 ((b.tabs.getD k tab0).brk.length) (ints ((b.tabs.getD k tab0).brk))), (blk b10_ 106 [(iv ((b.tabs.getD k tab0).frm)), (iv ((b.tabs.getD k tab0).dst)), vr_, (A 6), (iv ((b.tabs.getD k tab0).err))]), (blk K 46 [(iv ((b.tabs.getD k tab0).frm)), (iv ((b.tabs.getD k tab0).dst)), (lr k), (lb k), (iv ((b.tabs.getD k tab0).err))]), (slsR true ((b.tabs.take k).length) lr_ 2 (j_9 (b.tabs.take k)) (j_8 (b.tabs.take k))), (slsR true ((b.tabs.take k).length) lb_ 1 (brkN (b.tabs.take k)) (brkC (b.tabs.take k))), (row A5 106 5 (((b.tabs.take k) ++ [(b.tabs.getD k tab0)]).length) (j_5 (putV (b.tabs.take k).length lr_ vr_) (putV (b.tabs.take k).length lb_ (A 6)) ((b.tabs.take k) ++ [(b.tabs.getD k tab0)]))), (blk B 37 [(iv b.scales), A5, (Value.slice none 0 0)]), (blk H 37 [(iv 0), (Value.slice none 0 0), (Value.slice none 0 0)]), (blk I 25 [(iv b.scales), vt, vm]), (d_9 false vt lr lb b.tabs), (e_1 false vm lk b.macs)] := Bk; clear Bk x
  refine e_9 (h_0 (b_1 ?_))
  have AK := BR.as [(4, (iv (k : Int))), (3, (bptr B 0)), (2, (bptr H 0)), (1, (bptr I 0))] rfl; clear BR
  refine a_5 (s1 AK (a_1 rfl AK.e) fun DG AL => ?_); clear AK DF
  refine s1 AL (g_5 rfl AL.e (evc _ _) (by omega) (by omega)) fun DH AM => ?_; clear AL DG
  refine s1 AM (a_0 rfl AM.e) fun Eb Co => ?_; clear AM DH
  refine e_9 ?_
  have Bm := Bl.h_1 (i := 1) rfl (n' := (b.tabs.getD k tab0).rows.length) (xs' := pairs (b.tabs.getD k tab0).rows) (by rw [List.take_of_length_le (by omega)]) (by rw [List.take_of_length_le (by omega)]); clear Bl
  have Bn := Bm.gkp (gpc 1 (gpc 5 (gpc 0 (gpc 2 (gpc 3 (gpc 4 (gpc 6 (gpc 7 (gpc 8 (gpc 9 (gpc 10 (gpc 11 (gpc 12 gpn))))))))))))); clear Bm
  have Bo := k_6 (k' := j_9 (b.tabs.take (k + 1))) (c' := j_8 (b.tabs.take (k + 1))) Bn (rowsN_new (by omega)).1 (rowsN_new (by omega)).2.1 (fun i hi => (rowsN_old i hi).1); clear Bn
  have Bp := sep_sls_say (i := 0) (n' := (b.tabs.take (k + 1)).length) (v' := (putV (b.tabs.take k).length lr_ vr_)) (k' := j_9 (b.tabs.take (k + 1))) (c' := j_8 (b.tabs.take (k + 1))) Bo rfl (take_len1 (by omega)) (fun _ _ => ⟨rfl, rfl, rfl⟩); clear Bo
  have Bq := Bp.gkp (gpc 2 (gpc 5 (gpc 0 (gpc 1 (gpc 3 (gpc 4 (gpc 6 (gpc 7 (gpc 8 (gpc 9 (gpc 10 (gpc 11 gpn)))))))))))); clear Bp
  have Br := k_6 (k' := brkN (b.tabs.take (k + 1))) (c' := brkC (b.tabs.take (k + 1))) Bq (rowsN_new (by omega)).2.2.1 (rowsN_new (by omega)).2.2.2 (fun i hi => (rowsN_old i hi).2); clear Bq
  have Bs := sep_sls_say (i := 0) (n' := (b.tabs.take (k + 1)).length) (v' := (putV (b.tabs.take k).length lb_ (A 6))) (k' := brkN (b.tabs.take (k + 1))) (c' := brkC (b.tabs.take (k + 1))) Br rfl (take_len1 (by omega)) (fun _ _ => ⟨rfl, rfl, rfl⟩); clear Br
  have Cs := Bs.gkp (gpc 1 (gpc 0 (gpc 5 (gpc 6 (gpc 7 (gpc 8 (gpc 9 (gpc 10 gpn)))))))); clear Bs
  exact b_1 ⟨k + 1, ⟨A5, (putV (b.tabs.take k).length lr_ vr_), (putV (b.tabs.take k).length lb_ (A 6)), Co.as _ rfl, (Cs.h_1 (i := 2) rfl (by rw [q_2 (by omega)]) (by rw [q_2 (by omega)])), by omega⟩, by omega⟩
 skip
 rw [decide_eq_false Ck] at R
 refine b_7 R rfl (h_2 (b_4 (b_4 (f_8 (b_1 (b_6 (b_6 ?_)))))))
 have BS := R.as [(3, (bptr B 0)), (2, (bptr H 0)), (1, (bptr I 0))] rfl; clear R
 refine a_5 (s1 BS (a_0 rfl (evc _ _)) fun DI BT => ?_); clear BS C1
 refine n1 (c_6 ?_)
 have hkt : k = b.tabs.length := by omega
 have Aw := S.gkp (gpc 2 (gpc 0 (gpc 1 (gpc 3 (gpc 4 (gpc 5 (gpc 6 (gpc 7 gpn)))))))); clear S
 rw [hkt, List.take_length] at Aw
 have Bt := sep_tabs_join Aw; clear Aw
 have Bu := o_9 (Bt.y_7 103 2) (fun _ => Value.slice none 0 0) 3 (blkN (b.macs.take 0)) (blkC (b.macs.take 0)); clear Bt
 have BU := BT.as [(8, (iv 0)), (3, (bptr B 0)), (2, (bptr H 0)), (1, (bptr I 0))] rfl; clear BT
 refine h_3 (G := Nat) (fun (m : Nat) a_ w_ => ∃ vm_ : Value, ∃ lk_ : Nat → Value, Fr 116 [] [(8, (iv (m : Int))), (3, (bptr B 0)), (2, (bptr H 0)), (1, (bptr I 0))] a_ ∧ Sep NoB w w_ [(slsR true ((b.macs.take m).length) lk_ 3 (blkN (b.macs.take m)) (blkC (b.macs.take m))), (row vm_ 103 2 ((b.macs.take m).length) (l_1 lk_ (b.macs.take m))), (d_9 true vt_ lr_ lb_ b.tabs), (blk B 37 [(iv b.scales), vt_, vm_]), (blk H 37 [(iv 0), (Value.slice none 0 0), (Value.slice none 0 0)]), (blk I 25 [(iv b.scales), vt, vm]), (d_9 false vt lr lb b.tabs), (e_1 false vm lk b.macs)] ∧ (m ≤ b.macs.length)) (fun m => b.macs.length - m) 0 ⟨(Value.slice none 0 0), (fun _ => Value.slice none 0 0), BU.as _ rfl, (Bu.h_1 (i := 1) rfl (by rfl) (by rfl)), (Nat.zero_le _)⟩ ?_
 clear BU Bu DI
 rintro m DJ Ek ⟨vm_, lk_, AN, J, hkm⟩
 have hmtk : (b.macs.take m).length = m := by rw [List.length_take]; omega
 refine b_6 (m2 (s1 AN (a_1 rfl AN.e) fun DK AP => ?_)); clear AN DJ
 refine s1 AP (a_3 rfl l_9 AP.e) fun DL AQ => ?_; clear AP DK
 refine s1 AQ (a_4 rfl x_3 AQ.e (J.bk 5 rfl) rfl) fun DM AR => ?_; clear AQ DL
 refine s1 AR (d_4 rfl x_5 AR.e (b_8 (J.ok 7 _ rfl)).macs) fun DN c => ?_; clear AR DM
 refine s1 c (f_9 rfl c.e c.e) fun CK N => ?_; clear c DN
 refine n1 ?_
 by_cases CB : (m : Int) < (b.macs.length : Int)
 ·skip
  rw [decide_eq_true CB] at N
  have hmkk := hth.mac m
  refine c_1 N rfl (d_1 (b_1 (b_6 (c_6 (m2 (s1 N (a_3 rfl l_9 N.e) fun DO AS => ?_)))))); clear N CK
  refine s1 AS (a_4 rfl x_3 AS.e (J.bk 5 rfl) rfl) fun DP AT => ?_; clear AS DO
  refine s1 AT (a_1 rfl AT.e) fun DQ d => ?_; clear AT DP
  refine s1 d (b_3 rfl x_5 z_7 d.e (i := m) d.e (b_8 (J.ok 7 _ rfl)).macs (by decide) (by omega)) fun DR AU => ?_; clear d DQ
  refine s1 AU (f_0 rfl z_7 AU.e (b_8 (J.ok 7 _ rfl)).macs (w_4 (by omega)) rfl (by decide)) fun DS BV => ?_; clear AU DR
  refine s2 BV (e_0 J rfl ze_61 (cs := [(iv 0), (Value.slice none 0 0)]) rfl) ?_
  rintro DT _ El ⟨L, rfl, Ax⟩ f; clear BV J DS
  refine s7 f (b_9 Ax rfl z_7 f.e f.e (i := 0) rfl (vs := [(iv ((b.macs.getD m mac0).scale)), (lk m)]) rfl rfl (h_6 rfl (h_6 (SlAt.one ((b_8 (Ax.ok 8 _ rfl)).blk (i := m) (by omega))) s_6)) (Nat.le_of_ble_eq_true rfl)) ?_
  intro _ Dz Bv BW; clear f
  have Ay : Sep NoB w Dz [(blk L 61 [(iv ((b.macs.getD m mac0).scale)), (lk m)]), (slsR true ((b.macs.take m).length) lk_ 3 (blkN (b.macs.take m)) (blkC (b.macs.take m))), (row vm_ 103 2 ((b.macs.take m).length) (l_1 lk_ (b.macs.take m))), (d_9 true vt_ lr_ lb_ b.tabs), (blk B 37 [(iv b.scales), vt_, vm_]), (blk H 37 [(iv 0), (Value.slice none 0 0), (Value.slice none 0 0)]), (blk I 25 [(iv b.scales), vt, vm]), (d_9 false vt lr lb b.tabs), (e_1 false vm lk b.macs)] := Bv; clear Bv Ax
  refine n2 ?_
  have AV := BW.as [(9, (bptr L 0)), (8, (iv (m : Int))), (3, (bptr B 0)), (2, (bptr H 0)), (1, (bptr I 0))] rfl; clear BW
  refine a_5 (s1 AV (a_3 rfl fd_61_0 AV.e) fun DU AW => ?_); clear AV DT
  refine s1 AW (a_4 rfl ty_3 AW.e (Ay.bk 0 rfl) rfl) fun DV AX => ?_; clear AW DU
  refine s1 AX (e_2 rfl (pv1 AX.e) (bd_103_0i _)) fun DW BX => ?_; clear AX DV
  refine s2 BX (e_0 Ay rfl ze_103 (cs := [(iv 0), (Value.slice none 0 0)]) rfl) ?_
  rintro DX _ Em ⟨O, rfl, Bw⟩ g; clear BX Ay DW
  refine s7 g (b_9 Bw rfl t_8 g.e g.e (i := 0) rfl (vs := [(iv ((b.macs.getD m mac0).scale)), (Value.slice none 0 0)]) rfl rfl (h_6 rfl (h_6 rfl s_6)) (Nat.le_of_ble_eq_true rfl)) ?_
  intro _ D0 Bx BY; clear g
  have By : Sep NoB w D0 [(blk O 103 [(iv ((b.macs.getD m mac0).scale)), (Value.slice none 0 0)]), (blk L 61 [(iv ((b.macs.getD m mac0).scale)), (lk m)]), (slsR true ((b.macs.take m).length) lk_ 3 (blkN (b.macs.take m)) (blkC (b.macs.take m))), (row vm_ 103 2 ((b.macs.take m).length) (l_1 lk_ (b.macs.take m))), (d_9 true vt_ lr_ lb_ b.tabs), (blk B 37 [(iv b.scales), vt_, vm_]), (blk H 37 [(iv 0), (Value.slice none 0 0), (Value.slice none 0 0)]), (blk I 25 [(iv b.scales), vt, vm]), (d_9 false vt lr lb b.tabs), (e_1 false vm lk b.macs)] := Bx; clear Bx Bw
  refine n2 (m2 (s1 BY (a_0 rfl (evc _ _)) fun DY BZ => ?_)); clear BY DX
  refine n1 (c_6 ?_)
  have Bz := By.y_7 100 3; clear By
  have Ba := BZ.as [(11, (iv 0)), (10, (bptr O 0)), (9, (bptr L 0)), (8, (iv (m : Int))), (3, (bptr B 0)), (2, (bptr H 0)), (1, (bptr I 0))] rfl; clear BZ
  refine h_3 (G := Nat) (fun (q : Nat) a_ w_ => ∃ vk_ : Value, Fr 116 [] [(11, (iv (q : Int))), (10, (bptr O 0)), (9, (bptr L 0)), (8, (iv (m : Int))), (3, (bptr B 0)), (2, (bptr H 0)), (1, (bptr I 0))] a_ ∧ Sep NoB w w_ [(row vk_ 100 3 (((b.macs.getD m mac0).blocks.take q).length) (trips ((b.macs.getD m mac0).blocks.take q))), (blk O 103 [(iv ((b.macs.getD m mac0).scale)), vk_]), (blk L 61 [(iv ((b.macs.getD m mac0).scale)), (lk m)]), (slsR true ((b.macs.take m).length) lk_ 3 (blkN (b.macs.take m)) (blkC (b.macs.take m))), (row vm_ 103 2 ((b.macs.take m).length) (l_1 lk_ (b.macs.take m))), (d_9 true vt_ lr_ lb_ b.tabs), (blk B 37 [(iv b.scales), vt_, vm_]), (blk H 37 [(iv 0), (Value.slice none 0 0), (Value.slice none 0 0)]), (blk I 25 [(iv b.scales), vt, vm]), (d_9 false vt lr lb b.tabs), (e_1 false vm lk b.macs)] ∧ (q ≤ (b.macs.getD m mac0).blocks.length)) (fun q => (b.macs.getD m mac0).blocks.length - q) 0 ⟨(Value.slice none 0 0), Ba.as _ rfl, (Bz.h_1 (i := 0) rfl (by rfl) (by rfl)), (Nat.zero_le _)⟩ ?_
  clear Ba Bz DY
  rintro q DZ En ⟨vk_, AY, Q, hkq⟩
  have hlt_q : ((b.macs.getD m mac0).blocks.take q).length ≤ 12 := by simp only [List.length_take]; omega
  refine b_6 (m2 (s1 AY (a_1 rfl AY.e) fun Da AZ => ?_)); clear AY DZ
  refine s1 AZ (a_3 rfl r_0 AZ.e) fun Db Aa => ?_; clear AZ Da
  refine s1 Aa (a_4 rfl ab_0 Aa.e (Q.bk 2 rfl) rfl) fun Dc Ab => ?_; clear Aa Db
  refine s1 Ab (d_4 rfl aa_5 Ab.e ((b_8 (Q.ok 10 _ rfl)).blk (i := m) (by omega))) fun Dd n => ?_; clear Ab Dc
  refine s1 n (f_9 rfl n.e n.e) fun De P => ?_; clear n Dd
  refine n1 ?_
  by_cases CC : (q : Int) < ((b.macs.getD m mac0).blocks.length : Int)
  ·skip
   rw [decide_eq_true CC] at P
   refine c_1 P rfl (d_1 (b_1 (b_6 (c_6 ?_))))
   have Bb := P.as [(11, (iv (q : Int))), (10, (bptr O 0)), (9, (bptr L 0)), (8, (iv (m : Int))), (3, (bptr B 0)), (2, (bptr H 0)), (1, (bptr I 0))] rfl; clear P
   refine c_drawV mixed Bb Q 17 [[], [0], [], [2], [], [3, 4], [5], [6], [7], [], [9], [], [10, 11], [12], [13], [8, 14], [15]] [(yw (bptr O 1)), (yw vk_), (yw (bptr L 1)), (yw (lk m)), (yw (iv (q : Int))), (yw (eptr (lk m) (q * 3))), (yw (eptr (lk m) (q * 3 + 0))), (yw (Value.agg #[(iv ((((b.macs.getD m mac0).blocks).getD q (0, 0, 0)).1)), (iv ((((b.macs.getD m mac0).blocks).getD q (0, 0, 0)).2.1))])), (yw (Value.agg #[(iv ((((b.macs.getD m mac0).blocks).getD q (0, 0, 0)).1)), (iv ((((b.macs.getD m mac0).blocks).getD q (0, 0, 0)).2.1))])), (yw (bptr L 1)), (yw (lk m)), (yw (iv (q : Int))), (yw (eptr (lk m) (q * 3))), (yw (eptr (lk m) (q * 3 + 2))), (yw (iv ((((b.macs.getD m mac0).blocks).getD q (0, 0, 0)).2.2))), (yw (Value.agg #[(iv ((((b.macs.getD m mac0).blocks).getD q (0, 0, 0)).1)), (iv ((((b.macs.getD m mac0).blocks).getD q (0, 0, 0)).2.1)), (iv ((((b.macs.getD m mac0).blocks).getD q (0, 0, 0)).2.2))])), (fun (C : Nat → Value) (v_ : Value) (rs_ : List Res) => True ∧ rs_ = [(row v_ 100 3 1 [(iv ((((b.macs.getD m mac0).blocks).getD q (0, 0, 0)).1)), (iv ((((b.macs.getD m mac0).blocks).getD q (0, 0, 0)).2.1)), (iv ((((b.macs.getD m mac0).blocks).getD q (0, 0, 0)).2.2))])])] (by decide +kernel) (by decide +kernel) rfl rfl ⟨dw, dw, dw, dw, dw, dw, dw, dw, dw, dw, dw, dw, dw, dw, dw, dw, (fun _ _ _ _ _ h_ => h_), trivial⟩ ?_ ?_
   ·skip
    refine ⟨fun a w C hA hS hd => gv1 (a_3 rfl fd_103_1 hA.e), ?_⟩
    refine ⟨fun a w C hA hS hd => gv1 (a_4 rfl ty_101 (gu hd 0) (hS.bk 1 rfl) rfl), ?_⟩
    refine ⟨fun a w C hA hS hd => gv1 (a_3 rfl r_0 hA.e), ?_⟩
    refine ⟨fun a w C hA hS hd => gv1 (a_4 rfl ab_0 (gu hd 2) (hS.bk 2 rfl) rfl), ?_⟩
    refine ⟨fun a w C hA hS hd => gv1 (a_1 rfl hA.e), ?_⟩
    refine ⟨fun a w C hA hS hd => gv1 (b_3 rfl aa_5 ty_63 (gu hd 3) (i := q) (gu hd 4) ((b_8 (hS.ok 10 _ rfl)).blk (i := m) (by omega)) (by decide) (by omega)), ?_⟩
    refine ⟨fun a w C hA hS hd => gv1 (c_9 rfl fd_63_0 (gu hd 5) ((b_8 (hS.ok 10 _ rfl)).blk (i := m) (by omega)) (by rw [(((b_8 (hS.ok 10 _ rfl)).blk (i := m) (by omega))).1]; omega)), ?_⟩
    refine ⟨fun a w C hA hS hd => gv1 (f_0 rfl ty_27 (gu hd 6) ((b_8 (hS.ok 10 _ rfl)).blk (i := m) (by omega)) (trips_sub0 (by omega)) rfl (by decide)), ?_⟩
    refine ⟨fun a w C hA hS hd => gx1 (b_0 rfl en_20 (ev1 (gu hd 7)) (to_ok _ _ _)), ?_⟩
    refine ⟨fun a w C hA hS hd => gv1 (a_3 rfl r_0 hA.e), ?_⟩
    refine ⟨fun a w C hA hS hd => gv1 (a_4 rfl ab_0 (gu hd 9) (hS.bk 2 rfl) rfl), ?_⟩
    refine ⟨fun a w C hA hS hd => gv1 (a_1 rfl hA.e), ?_⟩
    refine ⟨fun a w C hA hS hd => gv1 (b_3 rfl aa_5 ty_63 (gu hd 10) (i := q) (gu hd 11) ((b_8 (hS.ok 10 _ rfl)).blk (i := m) (by omega)) (by decide) (by omega)), ?_⟩
    refine ⟨fun a w C hA hS hd => gv1 (c_9 rfl fd_63_1 (gu hd 12) ((b_8 (hS.ok 10 _ rfl)).blk (i := m) (by omega)) (by rw [(((b_8 (hS.ok 10 _ rfl)).blk (i := m) (by omega))).1]; omega)), ?_⟩
    refine ⟨fun a w C hA hS hd => gv1 (c_5 rfl ty_3 (gu hd 13) ((b_8 (hS.ok 10 _ rfl)).blk (i := m) (by omega)) (trips_at2 (by omega))), ?_⟩
    refine ⟨fun a w C hA hS hd => gv1 (e_2 rfl (pv2 (gu hd 8) (gu hd 14)) (p_3 _ _ _)), ?_⟩
    refine ⟨fun a w C hA hS hd => d_2 rfl (vblt rfl (pv1 (gu hd 15)) aa_4 aa_2 ze_100 (by decide) (cs := [(iv ((((b.macs.getD m mac0).blocks).getD q (0, 0, 0)).1)), (iv ((((b.macs.getD m mac0).blocks).getD q (0, 0, 0)).2.1)), (iv ((((b.macs.getD m mac0).blocks).getD q (0, 0, 0)).2.2))]) (bs_100_1_0iiia _ _ _) rfl (by decide) (fun _ => And.intro trivial rfl)), ?_⟩
    trivial
   intro CL D1 C rsf252 Bc E Az; clear Bb Q
   obtain ⟨CH, C0⟩ := E 16 (by decide)
   obtain ⟨Cx, CF⟩ := C0
   have A0 : Sep NoB w D1 [(row (C 16) 100 3 1 [(iv ((((b.macs.getD m mac0).blocks).getD q (0, 0, 0)).1)), (iv ((((b.macs.getD m mac0).blocks).getD q (0, 0, 0)).2.1)), (iv ((((b.macs.getD m mac0).blocks).getD q (0, 0, 0)).2.2))]), (row vk_ 100 3 (((b.macs.getD m mac0).blocks.take q).length) (trips ((b.macs.getD m mac0).blocks.take q))), (blk O 103 [(iv ((b.macs.getD m mac0).scale)), vk_]), (blk L 61 [(iv ((b.macs.getD m mac0).scale)), (lk m)]), (slsR true ((b.macs.take m).length) lk_ 3 (blkN (b.macs.take m)) (blkC (b.macs.take m))), (row vm_ 103 2 ((b.macs.take m).length) (l_1 lk_ (b.macs.take m))), (d_9 true vt_ lr_ lb_ b.tabs), (blk B 37 [(iv b.scales), vt_, vm_]), (blk H 37 [(iv 0), (Value.slice none 0 0), (Value.slice none 0 0)]), (blk I 25 [(iv b.scales), vt, vm]), (d_9 false vt lr lb b.tabs), (e_1 false vm lk b.macs)] := by rw [show catR rsf252 0 17 = ([(row (C 16) 100 3 1 [(iv ((((b.macs.getD m mac0).blocks).getD q (0, 0, 0)).1)), (iv ((((b.macs.getD m mac0).blocks).getD q (0, 0, 0)).2.1)), (iv ((((b.macs.getD m mac0).blocks).getD q (0, 0, 0)).2.2))])] : List Res) by (try simp only [catR, gr (E 0 (by decide)), gr (E 1 (by decide)), gr (E 2 (by decide)), gr (E 3 (by decide)), gr (E 4 (by decide)), gr (E 5 (by decide)), gr (E 6 (by decide)), gr (E 7 (by decide)), gr (E 8 (by decide)), gr (E 9 (by decide)), gr (E 10 (by decide)), gr (E 11 (by decide)), gr (E 12 (by decide)), gr (E 13 (by decide)), gr (E 14 (by decide)), gr (E 15 (by decide)), CF]); (try rfl)] at Az; exact Az
   have Bd := Bc.add (gs (E 1 (by decide))); clear Bc
   have o : Fr 116 [] [(106, (C 16)), (91, vk_), (11, (iv (q : Int))), (10, (bptr O 0)), (9, (bptr L 0)), (8, (iv (m : Int))), (3, (bptr B 0)), (2, (bptr H 0)), (1, (bptr I 0))] CL := Bd.add (g_4 CH rfl); clear Bd
   clear E Az CH
   clear CF
   clear Cx
   refine s2 o (i_8 A0 rfl aa_4 el_100 o.e o.e (i := 1) rfl (SlAt.e_5 (A0.f_2 0 rfl)) rfl (by simp only [maxLen]; omega) (by omega)) ?_
   intro Df A6 Eo B0 Ac
   have y := B0.h_1 (i := 1) rfl (n' := (((b.macs.getD m mac0).blocks.take q) ++ [(b.macs.getD m mac0).blocks.getD q (0, 0, 0)]).length) (xs' := (trips (((b.macs.getD m mac0).blocks.take q) ++ [(b.macs.getD m mac0).blocks.getD q (0, 0, 0)]))) (by simp) (by simp [trips]); clear B0 o A0 CL
   refine s1 Ac (a_3 rfl fd_103_1 Ac.e) fun Dg p => ?_; clear Ac Df
   refine s7 p (b_9 y rfl ty_101 p.e p.e (i := 2) rfl (vs := [A6]) (n_9 (SlAt.isSl (SlAt.e_5 (y.f_2 1 rfl)))) rfl (h_6 (SlAt.one (SlAt.e_5 (y.f_2 1 rfl))) s_6) (Nat.le_of_ble_eq_true rfl)) ?_
   intro _ D2 B1 Ad; clear p
   have B2 : Sep NoB w D2 [(row (C 16) 100 3 1 [(iv ((((b.macs.getD m mac0).blocks).getD q (0, 0, 0)).1)), (iv ((((b.macs.getD m mac0).blocks).getD q (0, 0, 0)).2.1)), (iv ((((b.macs.getD m mac0).blocks).getD q (0, 0, 0)).2.2))]), (row A6 100 3 ((((b.macs.getD m mac0).blocks.take q) ++ [(b.macs.getD m mac0).blocks.getD q (0, 0, 0)]).length) (trips (((b.macs.getD m mac0).blocks.take q) ++ [(b.macs.getD m mac0).blocks.getD q (0, 0, 0)]))), (blk O 103 [(iv ((b.macs.getD m mac0).scale)), A6]), (blk L 61 [(iv ((b.macs.getD m mac0).scale)), (lk m)]), (slsR true ((b.macs.take m).length) lk_ 3 (blkN (b.macs.take m)) (blkC (b.macs.take m))), (row vm_ 103 2 ((b.macs.take m).length) (l_1 lk_ (b.macs.take m))), (d_9 true vt_ lr_ lb_ b.tabs), (blk B 37 [(iv b.scales), vt_, vm_]), (blk H 37 [(iv 0), (Value.slice none 0 0), (Value.slice none 0 0)]), (blk I 25 [(iv b.scales), vt, vm]), (d_9 false vt lr lb b.tabs), (e_1 false vm lk b.macs)] := B1; clear B1 y
   refine e_9 (h_0 (b_1 (a_5 (s1 Ad (a_1 rfl Ad.e) fun Dh Ae => ?_)))); clear Ad Dg
   refine s1 Ae (g_5 rfl Ae.e (evc _ _) (by omega) (by omega)) fun Di Af => ?_; clear Ae Dh
   refine s1 Af (a_0 rfl Af.e) fun Ec Cp => ?_; clear Af Di
   refine e_9 ?_
   have Ct := B2.gkp (gpc 1 (gpc 2 (gpc 3 (gpc 4 (gpc 5 (gpc 6 (gpc 7 (gpc 8 (gpc 9 (gpc 10 (gpc 11 gpn))))))))))); clear B2
   exact b_1 ⟨q + 1, ⟨A6, Cp.as _ rfl, (Ct.h_1 (i := 0) rfl (by rw [q_2 (by omega)]) (by rw [q_2 (by omega)])), by omega⟩, by omega⟩
  skip
  rw [decide_eq_false CC] at P
  refine b_7 P rfl (h_2 (b_4 (b_4 (f_8 (b_1 ?_)))))
  have Ag := P.as [(10, (bptr O 0)), (8, (iv (m : Int))), (3, (bptr B 0)), (2, (bptr H 0)), (1, (bptr I 0))] rfl; clear P
  refine a_5 (s1 Ag (a_3 rfl u_4 Ag.e) fun Dj Ah => ?_); clear Ag De
  refine s1 Ah (a_4 rfl ty_35 Ah.e (Q.bk 6 rfl) rfl) fun Dk Ai => ?_; clear Ah Dj
  refine s1 Ai (c_0 rfl t_8 (Ai.ev rfl) (Q.bk 1 rfl) (l := [(iv ((b.macs.getD m mac0).scale)), vk_]) rfl rfl) fun Dl Aj => ?_; clear Ai Dk
  refine s2 Aj (g_2 Q rfl (pv1 Aj.e) ab_5 t_8 ze_103 (by decide) (cs := [(iv ((b.macs.getD m mac0).scale)), vk_]) (bs_103_1_0iva _ _)) ?_
  rintro Dm _ Ep ⟨Ds, rfl, z⟩ r; clear Aj Q Dl
  refine s2 r (i_8 z rfl ab_5 el_103 r.e r.e (i := 5) rfl (SlAt.of_blk (z.bk 0 rfl) rfl (Nat.le_of_ble_eq_true rfl)) (h_6 rfl (h_6 (SlAt.one (SlAt.e_5 (z.f_2 1 rfl))) s_6)) (by simp only [maxLen]; omega) (by omega)) ?_
  intro Dn A7 Eq B3 Ak
  have AA := B3.h_1 (i := 5) rfl (n' := ((b.macs.take m) ++ [(b.macs.getD m mac0)]).length) (xs' := (l_1 (putV (b.macs.take m).length lk_ vk_) ((b.macs.take m) ++ [(b.macs.getD m mac0)]))) (by simp) (macs_snoc (b.macs.getD m mac0) vk_); clear B3 r z Dm
  refine s1 Ak (a_3 rfl u_4 Ak.e) fun Do s => ?_; clear Ak Dn
  refine s7 s (b_9 AA rfl ty_35 s.e s.e (i := 7) rfl (vs := [A7]) (n_9 (SlAt.isSl (SlAt.e_5 (AA.f_2 5 rfl)))) rfl (h_6 (SlAt.one (SlAt.e_5 (AA.f_2 5 rfl))) s_6) (Nat.le_of_ble_eq_true rfl)) ?_
  intro _ D3 B4 Be; clear s
  have B5 : Sep NoB w D3 [(blk Ds 103 [(iv ((b.macs.getD m mac0).scale)), vk_]), (row vk_ 100 3 (((b.macs.getD m mac0).blocks.take q).length) (trips ((b.macs.getD m mac0).blocks.take q))), (blk O 103 [(iv ((b.macs.getD m mac0).scale)), vk_]), (blk L 61 [(iv ((b.macs.getD m mac0).scale)), (lk m)]), (slsR true ((b.macs.take m).length) lk_ 3 (blkN (b.macs.take m)) (blkC (b.macs.take m))), (row A7 103 2 (((b.macs.take m) ++ [(b.macs.getD m mac0)]).length) (l_1 (putV (b.macs.take m).length lk_ vk_) ((b.macs.take m) ++ [(b.macs.getD m mac0)]))), (d_9 true vt_ lr_ lb_ b.tabs), (blk B 37 [(iv b.scales), vt_, A7]), (blk H 37 [(iv 0), (Value.slice none 0 0), (Value.slice none 0 0)]), (blk I 25 [(iv b.scales), vt, vm]), (d_9 false vt lr lb b.tabs), (e_1 false vm lk b.macs)] := B4; clear B4 AA
  refine e_9 (h_0 (b_1 ?_))
  have Al := Be.as [(8, (iv (m : Int))), (3, (bptr B 0)), (2, (bptr H 0)), (1, (bptr I 0))] rfl; clear Be
  refine a_5 (s1 Al (a_1 rfl Al.e) fun Dp Am => ?_); clear Al Do
  refine s1 Am (g_5 rfl Am.e (evc _ _) (by omega) (by omega)) fun Dq An => ?_; clear Am Dp
  refine s1 An (a_0 rfl An.e) fun Ed Cq => ?_; clear An Dq
  refine e_9 ?_
  have B6 := B5.h_1 (i := 1) rfl (n' := (b.macs.getD m mac0).blocks.length) (xs' := trips (b.macs.getD m mac0).blocks) (by rw [List.take_of_length_le (by omega)]) (by rw [List.take_of_length_le (by omega)]); clear B5
  have B7 := B6.gkp (gpc 1 (gpc 4 (gpc 0 (gpc 2 (gpc 3 (gpc 5 (gpc 6 (gpc 7 (gpc 8 (gpc 9 (gpc 10 (gpc 11 gpn)))))))))))); clear B6
  have B8 := k_6 (k' := blkN (b.macs.take (m + 1))) (c' := blkC (b.macs.take (m + 1))) B7 (blkN_new (by omega)).1 (blkN_new (by omega)).2 blkN_old; clear B7
  have B9 := sep_sls_say (i := 0) (n' := (b.macs.take (m + 1)).length) (v' := (putV (b.macs.take m).length lk_ vk_)) (k' := blkN (b.macs.take (m + 1))) (c' := blkC (b.macs.take (m + 1))) B8 rfl (take_len1 (by omega)) (fun _ _ => ⟨rfl, rfl, rfl⟩); clear B8
  have Cu := B9.gkp (gpc 0 (gpc 4 (gpc 5 (gpc 6 (gpc 7 (gpc 8 (gpc 9 (gpc 10 gpn)))))))); clear B9
  exact b_1 ⟨m + 1, ⟨A7, (putV (b.macs.take m).length lk_ vk_), Cq.as _ rfl, (Cu.h_1 (i := 1) rfl (by rw [q_2 (by omega)]) (by rw [q_2 (by omega)])), by omega⟩, by omega⟩
 skip
 rw [decide_eq_false CB] at N
 refine b_7 N rfl (h_2 (b_4 (b_4 (f_8 (b_1 (b_6 ?_))))))
 have Ao := N.as [(3, (bptr B 0)), (2, (bptr H 0))] rfl; clear N
 refine a_5 (s1 Ao (c_0 rfl t_9 (Ao.ev rfl) (J.bk 3 rfl) (l := [(iv b.scales), vt_, vm_]) rfl rfl) fun Ee t => ?_); clear Ao CK
 refine s7 t (b_9 J rfl t_9 t.e t.e (i := 4) rfl (vs := [(iv b.scales), vt_, vm_]) rfl rfl (h_6 rfl (h_6 ((b_5 (J.ok 2 _ rfl)).tabs.one) (h_6 (SlAt.one (SlAt.e_5 (J.f_2 1 rfl))) s_6))) (Nat.le_of_ble_eq_true rfl)) ?_
 intro _ D4 CA Bf; clear t
 have A1 : Sep NoB w D4 [(slsR true ((b.macs.take m).length) lk_ 3 (blkN (b.macs.take m)) (blkC (b.macs.take m))), (row vm_ 103 2 ((b.macs.take m).length) (l_1 lk_ (b.macs.take m))), (d_9 true vt_ lr_ lb_ b.tabs), (blk B 37 [(iv b.scales), vt_, vm_]), (blk H 37 [(iv b.scales), vt_, vm_]), (blk I 25 [(iv b.scales), vt, vm]), (d_9 false vt lr lb b.tabs), (e_1 false vm lk b.macs)] := CA; clear CA J
 refine n1 (c_2 (a_7 Bf (.inl rfl) (a_2 Bf rfl (.cellA rfl t_9 (A1.bk 4 rfl) (l := [(iv b.scales), vt_, vm_]) rfl rfl)) ?_))
 have Cv := A1.gkp (gpc 1 (gpc 0 (gpc 2 gpn))); clear A1
 have hmt : m = b.macs.length := by omega
 have hz := Cv
 rw [hmt, List.take_length] at hz
 exact ⟨_, _, _, _, _, rfl, (sep_macs_join hz).keep [1, 0] (by decide) _ rfl rfl⟩
end Go.Proofs.Ytohgladndklciaa

namespace Go.Hard
def d_8 : g_3 := ⟨3, [⟨0, 1, [(100, 200), (200, 300), (300, 500), (400, 600)], [2], 2⟩, ⟨1, 2, [(250, 90), (350, 50)], [], 0⟩], [⟨0, [(150, 154, 160), (240, 246, 249)]⟩, ⟨1, [(300, 300, 299)]⟩]⟩
open Go.RowKit Go.Eng in
theorem kept_tabsC (a b c d : Value) : j_5 (putV 1 (putV 0 (fun _ => Value.slice none 0 0) a) c) (putV 1 (putV 0 (fun _ => Value.slice none 0 0) b) d) d_8.tabs = [.int .i64 0, .int .i64 1, a, b, .int .i64 2, .int .i64 1, .int .i64 2, c, d, .int .i64 0] := rfl
open Go.RowKit Go.Eng in
theorem kept_macsC (a b : Value) : l_1 (putV 1 (putV 0 (fun _ => Value.slice none 0 0) a) b) d_8.macs = [.int .i64 0, a, .int .i64 1, b] := rfl
theorem kept_thin : o_2 d_8 := (thin_iff (n := 0)).1 (by decide) |>.1
theorem kept_read : h_8 d_8 [(0, 170)] = 0 := by decide
theorem kept_spans : k_4 d_8 [(0, 170)] = some [(161, 164), (259, 266), (83, 87)] := by
  unfold k_4
  rw [if_pos (by decide)]
  show q_4 3 _ (400000 + 1) _ = _
  rw [q_4, if_pos (by decide), if_neg (by decide)]
  show q_4 3 _ (399999 + 1) _ = _
  rw [q_4, if_pos (by decide), if_pos (by decide)]
  decide
end Go.Hard

namespace Go.Proofs.Ytohgladndklciaa
open Go.RowKit Go.Shelf Go.Eng Go.Hard
theorem bs_107_4_0iia_1iia_2iia_3iia (x0_0 : Int) (x0_1 : Int) (x1_0 : Int) (x1_1 : Int) (x2_0 : Int) (x2_1 : Int) (x3_0 : Int) (x3_1 : Int) : Instr.fill (fun i => some (i * 2, 2)) ((Array.range (4 * 2)).map ((Value.agg #[(iv 0), (iv 0)]).cells[· % (Value.agg #[(iv 0), (iv 0)]).cells.size]!)) [(0, .agg #[(.int .i64 x0_0), (.int .i64 x0_1)]), (1, .agg #[(.int .i64 x1_0), (.int .i64 x1_1)]), (2, .agg #[(.int .i64 x2_0), (.int .i64 x2_1)]), (3, .agg #[(.int .i64 x3_0), (.int .i64 x3_1)])] = some (([(.int .i64 x0_0), (.int .i64 x0_1), (.int .i64 x1_0), (.int .i64 x1_1), (.int .i64 x2_0), (.int .i64 x2_1), (.int .i64 x3_0), (.int .i64 x3_1)] : List Value).toArray) := by kernel_rfl
theorem bd_106_0i_1i_2s_3s_4i (x0_0 : Int) (x1_0 : Int) (x2_0 : Value) (hx2_0 : IsSl x2_0) (x3_0 : Value) (hx3_0 : IsSl x3_0) (x4_0 : Int) (w : World) : (Instr.build 106 #[(0, (.int .i64 x0_0)), (1, (.int .i64 x1_0)), (2, x2_0), (3, x3_0), (4, (.int .i64 x4_0))]).run Try.prog w = .ok (.agg #[(.int .i64 x0_0), (.int .i64 x1_0), x2_0, x3_0, (.int .i64 x4_0)]) w := by obtain ⟨Ax2_0, Bx2_0, Cx2_0, rfl⟩ := hx2_0; obtain ⟨Ax3_0, Bx3_0, Cx3_0, rfl⟩ := hx3_0; kernel_rfl
theorem bs_107_2_0iia_1iia (x0_0 : Int) (x0_1 : Int) (x1_0 : Int) (x1_1 : Int) : Instr.fill (fun i => some (i * 2, 2)) ((Array.range (2 * 2)).map ((Value.agg #[(iv 0), (iv 0)]).cells[· % (Value.agg #[(iv 0), (iv 0)]).cells.size]!)) [(0, .agg #[(.int .i64 x0_0), (.int .i64 x0_1)]), (1, .agg #[(.int .i64 x1_0), (.int .i64 x1_1)])] = some (([(.int .i64 x0_0), (.int .i64 x0_1), (.int .i64 x1_0), (.int .i64 x1_1)] : List Value).toArray) := by kernel_rfl
theorem bd_106_0i_1i_2s (x0_0 : Int) (x1_0 : Int) (x2_0 : Value) (hx2_0 : IsSl x2_0) (w : World) : (Instr.build 106 #[(0, (.int .i64 x0_0)), (1, (.int .i64 x1_0)), (2, x2_0)]).run Try.prog w = .ok (.agg #[(.int .i64 x0_0), (.int .i64 x1_0), x2_0, (Value.slice none 0 0), (iv 0)]) w := by obtain ⟨Ax2_0, Bx2_0, Cx2_0, rfl⟩ := hx2_0; kernel_rfl
theorem bs_106_2_0iivvia_1iivvia (x0_0 : Int) (x0_1 : Int) (x0_2 : Value) (x0_3 : Value) (x0_4 : Int) (x1_0 : Int) (x1_1 : Int) (x1_2 : Value) (x1_3 : Value) (x1_4 : Int) : Instr.fill (fun i => some (i * 5, 5)) ((Array.range (2 * 5)).map ((Value.agg #[(iv 0), (iv 0), (Value.slice none 0 0), (Value.slice none 0 0), (iv 0)]).cells[· % (Value.agg #[(iv 0), (iv 0), (Value.slice none 0 0), (Value.slice none 0 0), (iv 0)]).cells.size]!)) [(0, .agg #[(.int .i64 x0_0), (.int .i64 x0_1), x0_2, x0_3, (.int .i64 x0_4)]), (1, .agg #[(.int .i64 x1_0), (.int .i64 x1_1), x1_2, x1_3, (.int .i64 x1_4)])] = some (([(.int .i64 x0_0), (.int .i64 x0_1), x0_2, x0_3, (.int .i64 x0_4), (.int .i64 x1_0), (.int .i64 x1_1), x1_2, x1_3, (.int .i64 x1_4)] : List Value).toArray) := by kernel_rfl
theorem en_31 : ∀ args w, (callFunc 31 args).run Try.prog w = .ok (.enter 31 args) w := enters_of Try.func31 (by kernel_rfl) rfl
theorem bs_100_2_0iiia_1iiia (x0_0 : Int) (x0_1 : Int) (x0_2 : Int) (x1_0 : Int) (x1_1 : Int) (x1_2 : Int) : Instr.fill (fun i => some (i * 3, 3)) ((Array.range (2 * 3)).map ((Value.agg #[(iv 0), (iv 0), (iv 0)]).cells[· % (Value.agg #[(iv 0), (iv 0), (iv 0)]).cells.size]!)) [(0, .agg #[(.int .i64 x0_0), (.int .i64 x0_1), (.int .i64 x0_2)]), (1, .agg #[(.int .i64 x1_0), (.int .i64 x1_1), (.int .i64 x1_2)])] = some (([(.int .i64 x0_0), (.int .i64 x0_1), (.int .i64 x0_2), (.int .i64 x1_0), (.int .i64 x1_1), (.int .i64 x1_2)] : List Value).toArray) := by kernel_rfl
theorem bd_103_0i_1s (x0_0 : Int) (x1_0 : Value) (hx1_0 : IsSl x1_0) (w : World) : (Instr.build 103 #[(0, (.int .i64 x0_0)), (1, x1_0)]).run Try.prog w = .ok (.agg #[(.int .i64 x0_0), x1_0]) w := by obtain ⟨Ax1_0, Bx1_0, Cx1_0, rfl⟩ := hx1_0; kernel_rfl
theorem bs_103_2_0iva_1iva (x0_0 : Int) (x0_1 : Value) (x1_0 : Int) (x1_1 : Value) : Instr.fill (fun i => some (i * 2, 2)) ((Array.range (2 * 2)).map ((Value.agg #[(iv 0), (Value.slice none 0 0)]).cells[· % (Value.agg #[(iv 0), (Value.slice none 0 0)]).cells.size]!)) [(0, .agg #[(.int .i64 x0_0), x0_1]), (1, .agg #[(.int .i64 x1_0), x1_1])] = some (([(.int .i64 x0_0), x0_1, (.int .i64 x1_0), x1_1] : List Value).toArray) := by kernel_rfl
theorem bd_37_0i_1s_2s (x0_0 : Int) (x1_0 : Value) (hx1_0 : IsSl x1_0) (x2_0 : Value) (hx2_0 : IsSl x2_0) (w : World) : (Instr.build 37 #[(0, (.int .i64 x0_0)), (1, x1_0), (2, x2_0)]).run Try.prog w = .ok (.agg #[(.int .i64 x0_0), x1_0, x2_0]) w := by obtain ⟨Ax1_0, Bx1_0, Cx1_0, rfl⟩ := hx1_0; obtain ⟨Ax2_0, Bx2_0, Cx2_0, rfl⟩ := hx2_0; kernel_rfl
set_option maxHeartbeats 1000000 in
theorem kept_ok (w : World) :
  Calls Try.prog 46 #[] w (Ret fun v w' => ∃ vt' vm' lr' lb' lk', v = .agg #[.int .i64 d_8.scales, vt', vm'] ∧ Sep NoB w w' [d_9 true vt' lr' lb' d_8.tabs, e_1 true vm' lk' d_8.macs]) := by
 refine a_8 Try.func46 rfl fun a0 X => ?_
 replace X : Fr 25 [] [] a0 := X
 have AE : Sep NoB w w [] := Sep.start _ _
 refine m2 (s2 X (e_0 AE rfl ze_37 (cs := [(iv 0), (Value.slice none 0 0), (Value.slice none 0 0)]) rfl) ?_)
 rintro a1 _ w3 ⟨b4, rfl, AF⟩ AB; clear X AE a0
 refine n4 (s1 AB (e_2 rfl (pv2 (evc _ _) (evc _ _)) (m_4 _ _)) fun a6 AC => ?_); clear AB a1
 refine s1 AC (e_2 rfl (pv2 (evc _ _) (evc _ _)) (m_4 _ _)) fun a8 AD => ?_; clear AC a6
 refine s1 AD (e_2 rfl (pv2 (evc _ _) (evc _ _)) (m_4 _ _)) fun AW Y => ?_; clear AD a8
 refine s1 Y (e_2 rfl (pv2 (evc _ _) (evc _ _)) (m_4 _ _)) fun AX I => ?_; clear Y AW
 refine s2 I (g_2 AF rfl (pv4 I.e I.e I.e I.e) k_5 i_0 x_8 (by decide) (cs := [(iv 100), (iv 200), (iv 200), (iv 300), (iv 300), (iv 500), (iv 400), (iv 600)]) (bs_107_4_0iia_1iia_2iia_3iia _ _ _ _ _ _ _ _)) ?_
 rintro AY _ BC ⟨C, rfl, m⟩ Z; clear I AF AX
 refine s2 Z (g_2 m rfl (pv1 (evc _ _)) p_1 ty_3 ze_3 (by decide) (cs := [(iv 2)]) (bs_3_1_0i _)) ?_
 rintro AZ _ BD ⟨D, rfl, o⟩ J; clear Z m AY
 refine s1 J (e_2 rfl (pv5 (evc _ _) (evc _ _) J.e J.e (evc _ _)) (bd_106_0i_1i_2s_3s_4i _ _ _ ⟨_, _, _, rfl⟩ _ ⟨_, _, _, rfl⟩ _)) fun Aa a => ?_; clear J AZ
 refine s1 a (e_2 rfl (pv2 (evc _ _) (evc _ _)) (m_4 _ _)) fun Ab b => ?_; clear a Aa
 refine s1 b (e_2 rfl (pv2 (evc _ _) (evc _ _)) (m_4 _ _)) fun Ac K => ?_; clear b Ab
 refine s2 K (g_2 o rfl (pv2 K.e K.e) k_5 i_0 x_8 (by decide) (cs := [(iv 250), (iv 90), (iv 350), (iv 50)]) (bs_107_2_0iia_1iia _ _ _ _)) ?_
 rintro Ad _ BE ⟨E, rfl, p⟩ Q; clear K o Ac
 refine s1 Q (e_2 rfl (pv3 (evc _ _) (evc _ _) Q.e) (bd_106_0i_1i_2s _ _ _ ⟨_, _, _, rfl⟩)) fun Ae L => ?_; clear Q Ad
 refine s2 L (g_2 p rfl (pv2 L.e L.e) z_8 l_3 ze_106 (by decide) (cs := [(iv 0), (iv 1), (Value.slice (some ⟨C, 0, none⟩) 4 4), (Value.slice (some ⟨D, 0, none⟩) 1 1), (iv 2), (iv 1), (iv 2), (Value.slice (some ⟨E, 0, none⟩) 2 2), (Value.slice none 0 0), (iv 0)]) (bs_106_2_0iivvia_1iivvia _ _ _ _ _ _ _ _ _ _)) ?_
 rintro Af _ BF ⟨F, rfl, q⟩ c; clear L p Ae
 refine s2 c (b_0 rfl en_31 (ev2 (evc _ _) (evc _ _)) (m_7 _ _ _)) ?_
 rintro Ag _ BG ⟨rfl, h⟩ R; have r := q.step h; clear h c q Af
 refine s1 R (e_2 rfl (pv2 R.e (evc _ _)) (p_3 _ _ _)) fun Ah d => ?_; clear R Ag
 refine s2 d (b_0 rfl en_31 (ev2 (evc _ _) (evc _ _)) (m_7 _ _ _)) ?_
 rintro Ai _ BH ⟨rfl, j⟩ S; have s := r.step j; clear j d r Ah
 refine s1 S (e_2 rfl (pv2 S.e (evc _ _)) (p_3 _ _ _)) fun Aj M => ?_; clear S Ai
 refine s2 M (g_2 s rfl (pv2 M.e M.e) aa_4 aa_2 ze_100 (by decide) (cs := [(iv 150), (iv 154), (iv 160), (iv 240), (iv 246), (iv 249)]) (bs_100_2_0iiia_1iiia _ _ _ _ _ _)) ?_
 rintro Ak _ BI ⟨A, rfl, t⟩ T; clear M s Aj
 refine s1 T (e_2 rfl (pv2 (evc _ _) T.e) (bd_103_0i_1s _ _ ⟨_, _, _, rfl⟩)) fun Al f => ?_; clear T Ak
 refine s2 f (b_0 rfl en_31 (ev2 (evc _ _) (evc _ _)) (m_7 _ _ _)) ?_
 rintro Am _ BJ ⟨rfl, k⟩ U; have u := t.step k; clear k f t Al
 refine s1 U (e_2 rfl (pv2 U.e (evc _ _)) (p_3 _ _ _)) fun An V => ?_; clear U Am
 refine s2 V (g_2 u rfl (pv1 V.e) aa_4 aa_2 ze_100 (by decide) (cs := [(iv 300), (iv 300), (iv 299)]) (bs_100_1_0iiia _ _ _)) ?_
 rintro Ao _ BK ⟨B, rfl, x⟩ W; clear V u An
 refine s1 W (e_2 rfl (pv2 (evc _ _) W.e) (bd_103_0i_1s _ _ ⟨_, _, _, rfl⟩)) fun Ap N => ?_; clear W Ao
 refine s2 N (g_2 x rfl (pv2 N.e N.e) ab_5 t_8 ze_103 (by decide) (cs := [(iv 0), (Value.slice (some ⟨A, 0, none⟩) 2 2), (iv 1), (Value.slice (some ⟨B, 0, none⟩) 1 1)]) (bs_103_2_0iva_1iva _ _ _ _)) ?_
 rintro Aq _ BL ⟨G, rfl, y⟩ O; clear N x Ap
 refine s1 O (e_2 rfl (pv3 (evc _ _) O.e O.e) (bd_37_0i_1s_2s _ _ ⟨_, _, _, rfl⟩ _ ⟨_, _, _, rfl⟩)) fun BB P => ?_; clear O Aq
 refine s7 P (b_9 y rfl t_9 P.e P.e (i := 7) rfl (vs := [(iv 3), (Value.slice (some ⟨F, 0, none⟩) 2 2), (Value.slice (some ⟨G, 0, none⟩) 2 2)]) rfl rfl (h_6 rfl (h_6 rfl (h_6 rfl s_6))) (Nat.le_of_ble_eq_true rfl)) ?_
 intro _ H z g; clear P
 have AA : Sep NoB w H [(blk G 103 [(iv 0), (Value.slice (some ⟨A, 0, none⟩) 2 2), (iv 1), (Value.slice (some ⟨B, 0, none⟩) 1 1)]), (blk B 100 [(iv 300), (iv 300), (iv 299)]), (blk A 100 [(iv 150), (iv 154), (iv 160), (iv 240), (iv 246), (iv 249)]), (blk F 106 [(iv 0), (iv 1), (Value.slice (some ⟨C, 0, none⟩) 4 4), (Value.slice (some ⟨D, 0, none⟩) 1 1), (iv 2), (iv 1), (iv 2), (Value.slice (some ⟨E, 0, none⟩) 2 2), (Value.slice none 0 0), (iv 0)]), (blk E 107 [(iv 250), (iv 90), (iv 350), (iv 50)]), (blk D 3 [(iv 2)]), (blk C 107 [(iv 100), (iv 200), (iv 200), (iv 300), (iv 300), (iv 500), (iv 400), (iv 600)]), (blk b4 37 [(iv 3), (Value.slice (some ⟨F, 0, none⟩) 2 2), (Value.slice (some ⟨G, 0, none⟩) 2 2)])] := z; clear z y
 refine n1 (c_2 (a_7 g (.inl rfl) (a_2 g rfl (.cellA rfl t_9 (AA.bk 7 rfl) (l := [(iv 3), (Value.slice (some ⟨F, 0, none⟩) 2 2), (Value.slice (some ⟨G, 0, none⟩) 2 2)]) rfl rfl)) ?_))
 have Ar := AA.o_3 (i := 6) (sz := 2) (n := 4) rfl rfl (by decide)
 have As := Ar.o_3 (i := 5) (sz := 1) (n := 1) rfl rfl (by decide)
 have At := As.o_3 (i := 4) (sz := 2) (n := 2) rfl rfl (by decide)
 have Au := At.o_3 (i := 3) (sz := 5) (n := 2) rfl rfl (by decide)
 have Av := Au.o_3 (i := 2) (sz := 3) (n := 2) rfl rfl (by decide)
 have Aw := Av.o_3 (i := 1) (sz := 3) (n := 1) rfl rfl (by decide)
 have Ax := Aw.o_3 (i := 0) (sz := 2) (n := 2) rfl rfl (by decide)
 have Ay : Sep NoB w H [(row (Value.slice (some ⟨C, 0, none⟩) 4 4) 107 2 4 [(iv 100), (iv 200), (iv 200), (iv 300), (iv 300), (iv 500), (iv 400), (iv 600)]), (row (Value.slice (some ⟨E, 0, none⟩) 2 2) 107 2 2 [(iv 250), (iv 90), (iv 350), (iv 50)]), (row (Value.slice (some ⟨D, 0, none⟩) 1 1) 3 1 1 [(iv 2)]), (row (Value.slice (some ⟨F, 0, none⟩) 2 2) 106 5 2 [(iv 0), (iv 1), (Value.slice (some ⟨C, 0, none⟩) 4 4), (Value.slice (some ⟨D, 0, none⟩) 1 1), (iv 2), (iv 1), (iv 2), (Value.slice (some ⟨E, 0, none⟩) 2 2), (Value.slice none 0 0), (iv 0)]), (row (Value.slice (some ⟨A, 0, none⟩) 2 2) 100 3 2 [(iv 150), (iv 154), (iv 160), (iv 240), (iv 246), (iv 249)]), (row (Value.slice (some ⟨B, 0, none⟩) 1 1) 100 3 1 [(iv 300), (iv 300), (iv 299)]), (row (Value.slice (some ⟨G, 0, none⟩) 2 2) 103 2 2 [(iv 0), (Value.slice (some ⟨A, 0, none⟩) 2 2), (iv 1), (Value.slice (some ⟨B, 0, none⟩) 1 1)])] := Ax.keep [6, 4, 5, 3, 2, 1, 0] (by decide) _ rfl rfl
 have Az : Sep NoB w H [(slsR true 0 (fun _ => Value.slice none 0 0) 2 (j_9 d_8.tabs) (j_8 d_8.tabs)), (row (Value.slice (some ⟨C, 0, none⟩) 4 4) 107 2 4 [(iv 100), (iv 200), (iv 200), (iv 300), (iv 300), (iv 500), (iv 400), (iv 600)]), (row (Value.slice (some ⟨E, 0, none⟩) 2 2) 107 2 2 [(iv 250), (iv 90), (iv 350), (iv 50)]), (row (Value.slice (some ⟨D, 0, none⟩) 1 1) 3 1 1 [(iv 2)]), (row (Value.slice (some ⟨F, 0, none⟩) 2 2) 106 5 2 [(iv 0), (iv 1), (Value.slice (some ⟨C, 0, none⟩) 4 4), (Value.slice (some ⟨D, 0, none⟩) 1 1), (iv 2), (iv 1), (iv 2), (Value.slice (some ⟨E, 0, none⟩) 2 2), (Value.slice none 0 0), (iv 0)]), (row (Value.slice (some ⟨A, 0, none⟩) 2 2) 100 3 2 [(iv 150), (iv 154), (iv 160), (iv 240), (iv 246), (iv 249)]), (row (Value.slice (some ⟨B, 0, none⟩) 1 1) 100 3 1 [(iv 300), (iv 300), (iv 299)]), (row (Value.slice (some ⟨G, 0, none⟩) 2 2) 103 2 2 [(iv 0), (Value.slice (some ⟨A, 0, none⟩) 2 2), (iv 1), (Value.slice (some ⟨B, 0, none⟩) 1 1)])] := o_9 Ay (fun _ => Value.slice none 0 0) 2 (j_9 d_8.tabs) (j_8 d_8.tabs)
 have A0 : Sep NoB w H [(row (Value.slice (some ⟨C, 0, none⟩) 4 4) 107 2 4 [(iv 100), (iv 200), (iv 200), (iv 300), (iv 300), (iv 500), (iv 400), (iv 600)]), (slsR true 0 (fun _ => Value.slice none 0 0) 2 (j_9 d_8.tabs) (j_8 d_8.tabs)), (row (Value.slice (some ⟨E, 0, none⟩) 2 2) 107 2 2 [(iv 250), (iv 90), (iv 350), (iv 50)]), (row (Value.slice (some ⟨D, 0, none⟩) 1 1) 3 1 1 [(iv 2)]), (row (Value.slice (some ⟨F, 0, none⟩) 2 2) 106 5 2 [(iv 0), (iv 1), (Value.slice (some ⟨C, 0, none⟩) 4 4), (Value.slice (some ⟨D, 0, none⟩) 1 1), (iv 2), (iv 1), (iv 2), (Value.slice (some ⟨E, 0, none⟩) 2 2), (Value.slice none 0 0), (iv 0)]), (row (Value.slice (some ⟨A, 0, none⟩) 2 2) 100 3 2 [(iv 150), (iv 154), (iv 160), (iv 240), (iv 246), (iv 249)]), (row (Value.slice (some ⟨B, 0, none⟩) 1 1) 100 3 1 [(iv 300), (iv 300), (iv 299)]), (row (Value.slice (some ⟨G, 0, none⟩) 2 2) 103 2 2 [(iv 0), (Value.slice (some ⟨A, 0, none⟩) 2 2), (iv 1), (Value.slice (some ⟨B, 0, none⟩) 1 1)])] := Az.keep [1, 0, 2, 3, 4, 5, 6, 7] (by decide) _ rfl rfl
 have A1 : Sep NoB w H [(slsR true 1 (putV 0 (fun _ => Value.slice none 0 0) (Value.slice (some ⟨C, 0, none⟩) 4 4)) 2 (j_9 d_8.tabs) (j_8 d_8.tabs)), (row (Value.slice (some ⟨E, 0, none⟩) 2 2) 107 2 2 [(iv 250), (iv 90), (iv 350), (iv 50)]), (row (Value.slice (some ⟨D, 0, none⟩) 1 1) 3 1 1 [(iv 2)]), (row (Value.slice (some ⟨F, 0, none⟩) 2 2) 106 5 2 [(iv 0), (iv 1), (Value.slice (some ⟨C, 0, none⟩) 4 4), (Value.slice (some ⟨D, 0, none⟩) 1 1), (iv 2), (iv 1), (iv 2), (Value.slice (some ⟨E, 0, none⟩) 2 2), (Value.slice none 0 0), (iv 0)]), (row (Value.slice (some ⟨A, 0, none⟩) 2 2) 100 3 2 [(iv 150), (iv 154), (iv 160), (iv 240), (iv 246), (iv 249)]), (row (Value.slice (some ⟨B, 0, none⟩) 1 1) 100 3 1 [(iv 300), (iv 300), (iv 299)]), (row (Value.slice (some ⟨G, 0, none⟩) 2 2) 103 2 2 [(iv 0), (Value.slice (some ⟨A, 0, none⟩) 2 2), (iv 1), (Value.slice (some ⟨B, 0, none⟩) 1 1)])] := k_6 (k' := j_9 d_8.tabs) (c' := j_8 d_8.tabs) A0 rfl rfl (fun i hi => absurd hi (Nat.not_lt_zero _))
 have A2 : Sep NoB w H [(row (Value.slice (some ⟨E, 0, none⟩) 2 2) 107 2 2 [(iv 250), (iv 90), (iv 350), (iv 50)]), (slsR true 1 (putV 0 (fun _ => Value.slice none 0 0) (Value.slice (some ⟨C, 0, none⟩) 4 4)) 2 (j_9 d_8.tabs) (j_8 d_8.tabs)), (row (Value.slice (some ⟨D, 0, none⟩) 1 1) 3 1 1 [(iv 2)]), (row (Value.slice (some ⟨F, 0, none⟩) 2 2) 106 5 2 [(iv 0), (iv 1), (Value.slice (some ⟨C, 0, none⟩) 4 4), (Value.slice (some ⟨D, 0, none⟩) 1 1), (iv 2), (iv 1), (iv 2), (Value.slice (some ⟨E, 0, none⟩) 2 2), (Value.slice none 0 0), (iv 0)]), (row (Value.slice (some ⟨A, 0, none⟩) 2 2) 100 3 2 [(iv 150), (iv 154), (iv 160), (iv 240), (iv 246), (iv 249)]), (row (Value.slice (some ⟨B, 0, none⟩) 1 1) 100 3 1 [(iv 300), (iv 300), (iv 299)]), (row (Value.slice (some ⟨G, 0, none⟩) 2 2) 103 2 2 [(iv 0), (Value.slice (some ⟨A, 0, none⟩) 2 2), (iv 1), (Value.slice (some ⟨B, 0, none⟩) 1 1)])] := A1.keep [1, 0, 2, 3, 4, 5, 6] (by decide) _ rfl rfl
 have A3 : Sep NoB w H [(slsR true 2 (putV 1 (putV 0 (fun _ => Value.slice none 0 0) (Value.slice (some ⟨C, 0, none⟩) 4 4)) (Value.slice (some ⟨E, 0, none⟩) 2 2)) 2 (j_9 d_8.tabs) (j_8 d_8.tabs)), (row (Value.slice (some ⟨D, 0, none⟩) 1 1) 3 1 1 [(iv 2)]), (row (Value.slice (some ⟨F, 0, none⟩) 2 2) 106 5 2 [(iv 0), (iv 1), (Value.slice (some ⟨C, 0, none⟩) 4 4), (Value.slice (some ⟨D, 0, none⟩) 1 1), (iv 2), (iv 1), (iv 2), (Value.slice (some ⟨E, 0, none⟩) 2 2), (Value.slice none 0 0), (iv 0)]), (row (Value.slice (some ⟨A, 0, none⟩) 2 2) 100 3 2 [(iv 150), (iv 154), (iv 160), (iv 240), (iv 246), (iv 249)]), (row (Value.slice (some ⟨B, 0, none⟩) 1 1) 100 3 1 [(iv 300), (iv 300), (iv 299)]), (row (Value.slice (some ⟨G, 0, none⟩) 2 2) 103 2 2 [(iv 0), (Value.slice (some ⟨A, 0, none⟩) 2 2), (iv 1), (Value.slice (some ⟨B, 0, none⟩) 1 1)])] := k_6 (k' := j_9 d_8.tabs) (c' := j_8 d_8.tabs) A2 rfl rfl (fun _ _ => ⟨rfl, rfl⟩)
 have A4 : Sep NoB w H [(row (Value.slice none 0 0) 3 1 0 []), (slsR true 2 (putV 1 (putV 0 (fun _ => Value.slice none 0 0) (Value.slice (some ⟨C, 0, none⟩) 4 4)) (Value.slice (some ⟨E, 0, none⟩) 2 2)) 2 (j_9 d_8.tabs) (j_8 d_8.tabs)), (row (Value.slice (some ⟨D, 0, none⟩) 1 1) 3 1 1 [(iv 2)]), (row (Value.slice (some ⟨F, 0, none⟩) 2 2) 106 5 2 [(iv 0), (iv 1), (Value.slice (some ⟨C, 0, none⟩) 4 4), (Value.slice (some ⟨D, 0, none⟩) 1 1), (iv 2), (iv 1), (iv 2), (Value.slice (some ⟨E, 0, none⟩) 2 2), (Value.slice none 0 0), (iv 0)]), (row (Value.slice (some ⟨A, 0, none⟩) 2 2) 100 3 2 [(iv 150), (iv 154), (iv 160), (iv 240), (iv 246), (iv 249)]), (row (Value.slice (some ⟨B, 0, none⟩) 1 1) 100 3 1 [(iv 300), (iv 300), (iv 299)]), (row (Value.slice (some ⟨G, 0, none⟩) 2 2) 103 2 2 [(iv 0), (Value.slice (some ⟨A, 0, none⟩) 2 2), (iv 1), (Value.slice (some ⟨B, 0, none⟩) 1 1)])] := A3.y_7 3 1
 have A5 : Sep NoB w H [(slsR true 0 (fun _ => Value.slice none 0 0) 1 (brkN d_8.tabs) (brkC d_8.tabs)), (row (Value.slice none 0 0) 3 1 0 []), (slsR true 2 (putV 1 (putV 0 (fun _ => Value.slice none 0 0) (Value.slice (some ⟨C, 0, none⟩) 4 4)) (Value.slice (some ⟨E, 0, none⟩) 2 2)) 2 (j_9 d_8.tabs) (j_8 d_8.tabs)), (row (Value.slice (some ⟨D, 0, none⟩) 1 1) 3 1 1 [(iv 2)]), (row (Value.slice (some ⟨F, 0, none⟩) 2 2) 106 5 2 [(iv 0), (iv 1), (Value.slice (some ⟨C, 0, none⟩) 4 4), (Value.slice (some ⟨D, 0, none⟩) 1 1), (iv 2), (iv 1), (iv 2), (Value.slice (some ⟨E, 0, none⟩) 2 2), (Value.slice none 0 0), (iv 0)]), (row (Value.slice (some ⟨A, 0, none⟩) 2 2) 100 3 2 [(iv 150), (iv 154), (iv 160), (iv 240), (iv 246), (iv 249)]), (row (Value.slice (some ⟨B, 0, none⟩) 1 1) 100 3 1 [(iv 300), (iv 300), (iv 299)]), (row (Value.slice (some ⟨G, 0, none⟩) 2 2) 103 2 2 [(iv 0), (Value.slice (some ⟨A, 0, none⟩) 2 2), (iv 1), (Value.slice (some ⟨B, 0, none⟩) 1 1)])] := o_9 A4 (fun _ => Value.slice none 0 0) 1 (brkN d_8.tabs) (brkC d_8.tabs)
 have A6 : Sep NoB w H [(row (Value.slice (some ⟨D, 0, none⟩) 1 1) 3 1 1 [(iv 2)]), (slsR true 0 (fun _ => Value.slice none 0 0) 1 (brkN d_8.tabs) (brkC d_8.tabs)), (row (Value.slice none 0 0) 3 1 0 []), (slsR true 2 (putV 1 (putV 0 (fun _ => Value.slice none 0 0) (Value.slice (some ⟨C, 0, none⟩) 4 4)) (Value.slice (some ⟨E, 0, none⟩) 2 2)) 2 (j_9 d_8.tabs) (j_8 d_8.tabs)), (row (Value.slice (some ⟨F, 0, none⟩) 2 2) 106 5 2 [(iv 0), (iv 1), (Value.slice (some ⟨C, 0, none⟩) 4 4), (Value.slice (some ⟨D, 0, none⟩) 1 1), (iv 2), (iv 1), (iv 2), (Value.slice (some ⟨E, 0, none⟩) 2 2), (Value.slice none 0 0), (iv 0)]), (row (Value.slice (some ⟨A, 0, none⟩) 2 2) 100 3 2 [(iv 150), (iv 154), (iv 160), (iv 240), (iv 246), (iv 249)]), (row (Value.slice (some ⟨B, 0, none⟩) 1 1) 100 3 1 [(iv 300), (iv 300), (iv 299)]), (row (Value.slice (some ⟨G, 0, none⟩) 2 2) 103 2 2 [(iv 0), (Value.slice (some ⟨A, 0, none⟩) 2 2), (iv 1), (Value.slice (some ⟨B, 0, none⟩) 1 1)])] := A5.keep [3, 0, 1, 2, 4, 5, 6, 7] (by decide) _ rfl rfl
 have AG : Sep NoB w H [(slsR true 1 (putV 0 (fun _ => Value.slice none 0 0) (Value.slice (some ⟨D, 0, none⟩) 1 1)) 1 (brkN d_8.tabs) (brkC d_8.tabs)), (row (Value.slice none 0 0) 3 1 0 []), (slsR true 2 (putV 1 (putV 0 (fun _ => Value.slice none 0 0) (Value.slice (some ⟨C, 0, none⟩) 4 4)) (Value.slice (some ⟨E, 0, none⟩) 2 2)) 2 (j_9 d_8.tabs) (j_8 d_8.tabs)), (row (Value.slice (some ⟨F, 0, none⟩) 2 2) 106 5 2 [(iv 0), (iv 1), (Value.slice (some ⟨C, 0, none⟩) 4 4), (Value.slice (some ⟨D, 0, none⟩) 1 1), (iv 2), (iv 1), (iv 2), (Value.slice (some ⟨E, 0, none⟩) 2 2), (Value.slice none 0 0), (iv 0)]), (row (Value.slice (some ⟨A, 0, none⟩) 2 2) 100 3 2 [(iv 150), (iv 154), (iv 160), (iv 240), (iv 246), (iv 249)]), (row (Value.slice (some ⟨B, 0, none⟩) 1 1) 100 3 1 [(iv 300), (iv 300), (iv 299)]), (row (Value.slice (some ⟨G, 0, none⟩) 2 2) 103 2 2 [(iv 0), (Value.slice (some ⟨A, 0, none⟩) 2 2), (iv 1), (Value.slice (some ⟨B, 0, none⟩) 1 1)])] := k_6 (k' := brkN d_8.tabs) (c' := brkC d_8.tabs) A6 rfl rfl (fun i hi => absurd hi (Nat.not_lt_zero _))
 have AH : Sep NoB w H [(row (Value.slice none 0 0) 3 1 0 []), (slsR true 1 (putV 0 (fun _ => Value.slice none 0 0) (Value.slice (some ⟨D, 0, none⟩) 1 1)) 1 (brkN d_8.tabs) (brkC d_8.tabs)), (slsR true 2 (putV 1 (putV 0 (fun _ => Value.slice none 0 0) (Value.slice (some ⟨C, 0, none⟩) 4 4)) (Value.slice (some ⟨E, 0, none⟩) 2 2)) 2 (j_9 d_8.tabs) (j_8 d_8.tabs)), (row (Value.slice (some ⟨F, 0, none⟩) 2 2) 106 5 2 [(iv 0), (iv 1), (Value.slice (some ⟨C, 0, none⟩) 4 4), (Value.slice (some ⟨D, 0, none⟩) 1 1), (iv 2), (iv 1), (iv 2), (Value.slice (some ⟨E, 0, none⟩) 2 2), (Value.slice none 0 0), (iv 0)]), (row (Value.slice (some ⟨A, 0, none⟩) 2 2) 100 3 2 [(iv 150), (iv 154), (iv 160), (iv 240), (iv 246), (iv 249)]), (row (Value.slice (some ⟨B, 0, none⟩) 1 1) 100 3 1 [(iv 300), (iv 300), (iv 299)]), (row (Value.slice (some ⟨G, 0, none⟩) 2 2) 103 2 2 [(iv 0), (Value.slice (some ⟨A, 0, none⟩) 2 2), (iv 1), (Value.slice (some ⟨B, 0, none⟩) 1 1)])] := AG.keep [1, 0, 2, 3, 4, 5, 6] (by decide) _ rfl rfl
 have AI : Sep NoB w H [(slsR true 2 (putV 1 (putV 0 (fun _ => Value.slice none 0 0) (Value.slice (some ⟨D, 0, none⟩) 1 1)) (Value.slice none 0 0)) 1 (brkN d_8.tabs) (brkC d_8.tabs)), (slsR true 2 (putV 1 (putV 0 (fun _ => Value.slice none 0 0) (Value.slice (some ⟨C, 0, none⟩) 4 4)) (Value.slice (some ⟨E, 0, none⟩) 2 2)) 2 (j_9 d_8.tabs) (j_8 d_8.tabs)), (row (Value.slice (some ⟨F, 0, none⟩) 2 2) 106 5 2 [(iv 0), (iv 1), (Value.slice (some ⟨C, 0, none⟩) 4 4), (Value.slice (some ⟨D, 0, none⟩) 1 1), (iv 2), (iv 1), (iv 2), (Value.slice (some ⟨E, 0, none⟩) 2 2), (Value.slice none 0 0), (iv 0)]), (row (Value.slice (some ⟨A, 0, none⟩) 2 2) 100 3 2 [(iv 150), (iv 154), (iv 160), (iv 240), (iv 246), (iv 249)]), (row (Value.slice (some ⟨B, 0, none⟩) 1 1) 100 3 1 [(iv 300), (iv 300), (iv 299)]), (row (Value.slice (some ⟨G, 0, none⟩) 2 2) 103 2 2 [(iv 0), (Value.slice (some ⟨A, 0, none⟩) 2 2), (iv 1), (Value.slice (some ⟨B, 0, none⟩) 1 1)])] := k_6 (k' := brkN d_8.tabs) (c' := brkC d_8.tabs) AH rfl rfl (fun _ _ => ⟨rfl, rfl⟩)
 have AJ : Sep NoB w H [(row (Value.slice (some ⟨F, 0, none⟩) 2 2) 106 5 2 [(iv 0), (iv 1), (Value.slice (some ⟨C, 0, none⟩) 4 4), (Value.slice (some ⟨D, 0, none⟩) 1 1), (iv 2), (iv 1), (iv 2), (Value.slice (some ⟨E, 0, none⟩) 2 2), (Value.slice none 0 0), (iv 0)]), (slsR true 2 (putV 1 (putV 0 (fun _ => Value.slice none 0 0) (Value.slice (some ⟨C, 0, none⟩) 4 4)) (Value.slice (some ⟨E, 0, none⟩) 2 2)) 2 (j_9 d_8.tabs) (j_8 d_8.tabs)), (slsR true 2 (putV 1 (putV 0 (fun _ => Value.slice none 0 0) (Value.slice (some ⟨D, 0, none⟩) 1 1)) (Value.slice none 0 0)) 1 (brkN d_8.tabs) (brkC d_8.tabs)), (row (Value.slice (some ⟨A, 0, none⟩) 2 2) 100 3 2 [(iv 150), (iv 154), (iv 160), (iv 240), (iv 246), (iv 249)]), (row (Value.slice (some ⟨B, 0, none⟩) 1 1) 100 3 1 [(iv 300), (iv 300), (iv 299)]), (row (Value.slice (some ⟨G, 0, none⟩) 2 2) 103 2 2 [(iv 0), (Value.slice (some ⟨A, 0, none⟩) 2 2), (iv 1), (Value.slice (some ⟨B, 0, none⟩) 1 1)])] := AI.keep [2, 1, 0, 3, 4, 5] (by decide) _ rfl rfl
 have AK : Sep NoB w H [(row (Value.slice (some ⟨F, 0, none⟩) 2 2) 106 5 d_8.tabs.length (j_5 (putV 1 (putV 0 (fun _ => Value.slice none 0 0) (Value.slice (some ⟨C, 0, none⟩) 4 4)) (Value.slice (some ⟨E, 0, none⟩) 2 2)) (putV 1 (putV 0 (fun _ => Value.slice none 0 0) (Value.slice (some ⟨D, 0, none⟩) 1 1)) (Value.slice none 0 0)) d_8.tabs)), (slsR true 2 (putV 1 (putV 0 (fun _ => Value.slice none 0 0) (Value.slice (some ⟨C, 0, none⟩) 4 4)) (Value.slice (some ⟨E, 0, none⟩) 2 2)) 2 (j_9 d_8.tabs) (j_8 d_8.tabs)), (slsR true 2 (putV 1 (putV 0 (fun _ => Value.slice none 0 0) (Value.slice (some ⟨D, 0, none⟩) 1 1)) (Value.slice none 0 0)) 1 (brkN d_8.tabs) (brkC d_8.tabs)), (row (Value.slice (some ⟨A, 0, none⟩) 2 2) 100 3 2 [(iv 150), (iv 154), (iv 160), (iv 240), (iv 246), (iv 249)]), (row (Value.slice (some ⟨B, 0, none⟩) 1 1) 100 3 1 [(iv 300), (iv 300), (iv 299)]), (row (Value.slice (some ⟨G, 0, none⟩) 2 2) 103 2 2 [(iv 0), (Value.slice (some ⟨A, 0, none⟩) 2 2), (iv 1), (Value.slice (some ⟨B, 0, none⟩) 1 1)])] := AJ.h_1 (i := 0) rfl rfl (kept_tabsC _ _ _ _).symm
 have AL : Sep NoB w H [(d_9 true (Value.slice (some ⟨F, 0, none⟩) 2 2) (putV 1 (putV 0 (fun _ => Value.slice none 0 0) (Value.slice (some ⟨C, 0, none⟩) 4 4)) (Value.slice (some ⟨E, 0, none⟩) 2 2)) (putV 1 (putV 0 (fun _ => Value.slice none 0 0) (Value.slice (some ⟨D, 0, none⟩) 1 1)) (Value.slice none 0 0)) d_8.tabs), (row (Value.slice (some ⟨A, 0, none⟩) 2 2) 100 3 2 [(iv 150), (iv 154), (iv 160), (iv 240), (iv 246), (iv 249)]), (row (Value.slice (some ⟨B, 0, none⟩) 1 1) 100 3 1 [(iv 300), (iv 300), (iv 299)]), (row (Value.slice (some ⟨G, 0, none⟩) 2 2) 103 2 2 [(iv 0), (Value.slice (some ⟨A, 0, none⟩) 2 2), (iv 1), (Value.slice (some ⟨B, 0, none⟩) 1 1)])] := sep_tabs_join AK
 have AM : Sep NoB w H [(slsR true 0 (fun _ => Value.slice none 0 0) 3 (blkN d_8.macs) (blkC d_8.macs)), (d_9 true (Value.slice (some ⟨F, 0, none⟩) 2 2) (putV 1 (putV 0 (fun _ => Value.slice none 0 0) (Value.slice (some ⟨C, 0, none⟩) 4 4)) (Value.slice (some ⟨E, 0, none⟩) 2 2)) (putV 1 (putV 0 (fun _ => Value.slice none 0 0) (Value.slice (some ⟨D, 0, none⟩) 1 1)) (Value.slice none 0 0)) d_8.tabs), (row (Value.slice (some ⟨A, 0, none⟩) 2 2) 100 3 2 [(iv 150), (iv 154), (iv 160), (iv 240), (iv 246), (iv 249)]), (row (Value.slice (some ⟨B, 0, none⟩) 1 1) 100 3 1 [(iv 300), (iv 300), (iv 299)]), (row (Value.slice (some ⟨G, 0, none⟩) 2 2) 103 2 2 [(iv 0), (Value.slice (some ⟨A, 0, none⟩) 2 2), (iv 1), (Value.slice (some ⟨B, 0, none⟩) 1 1)])] := o_9 AL (fun _ => Value.slice none 0 0) 3 (blkN d_8.macs) (blkC d_8.macs)
 have AN : Sep NoB w H [(row (Value.slice (some ⟨A, 0, none⟩) 2 2) 100 3 2 [(iv 150), (iv 154), (iv 160), (iv 240), (iv 246), (iv 249)]), (slsR true 0 (fun _ => Value.slice none 0 0) 3 (blkN d_8.macs) (blkC d_8.macs)), (d_9 true (Value.slice (some ⟨F, 0, none⟩) 2 2) (putV 1 (putV 0 (fun _ => Value.slice none 0 0) (Value.slice (some ⟨C, 0, none⟩) 4 4)) (Value.slice (some ⟨E, 0, none⟩) 2 2)) (putV 1 (putV 0 (fun _ => Value.slice none 0 0) (Value.slice (some ⟨D, 0, none⟩) 1 1)) (Value.slice none 0 0)) d_8.tabs), (row (Value.slice (some ⟨B, 0, none⟩) 1 1) 100 3 1 [(iv 300), (iv 300), (iv 299)]), (row (Value.slice (some ⟨G, 0, none⟩) 2 2) 103 2 2 [(iv 0), (Value.slice (some ⟨A, 0, none⟩) 2 2), (iv 1), (Value.slice (some ⟨B, 0, none⟩) 1 1)])] := AM.keep [2, 0, 1, 3, 4] (by decide) _ rfl rfl
 have AO : Sep NoB w H [(slsR true 1 (putV 0 (fun _ => Value.slice none 0 0) (Value.slice (some ⟨A, 0, none⟩) 2 2)) 3 (blkN d_8.macs) (blkC d_8.macs)), (d_9 true (Value.slice (some ⟨F, 0, none⟩) 2 2) (putV 1 (putV 0 (fun _ => Value.slice none 0 0) (Value.slice (some ⟨C, 0, none⟩) 4 4)) (Value.slice (some ⟨E, 0, none⟩) 2 2)) (putV 1 (putV 0 (fun _ => Value.slice none 0 0) (Value.slice (some ⟨D, 0, none⟩) 1 1)) (Value.slice none 0 0)) d_8.tabs), (row (Value.slice (some ⟨B, 0, none⟩) 1 1) 100 3 1 [(iv 300), (iv 300), (iv 299)]), (row (Value.slice (some ⟨G, 0, none⟩) 2 2) 103 2 2 [(iv 0), (Value.slice (some ⟨A, 0, none⟩) 2 2), (iv 1), (Value.slice (some ⟨B, 0, none⟩) 1 1)])] := k_6 (k' := blkN d_8.macs) (c' := blkC d_8.macs) AN rfl rfl (fun i hi => absurd hi (Nat.not_lt_zero _))
 have AP : Sep NoB w H [(row (Value.slice (some ⟨B, 0, none⟩) 1 1) 100 3 1 [(iv 300), (iv 300), (iv 299)]), (slsR true 1 (putV 0 (fun _ => Value.slice none 0 0) (Value.slice (some ⟨A, 0, none⟩) 2 2)) 3 (blkN d_8.macs) (blkC d_8.macs)), (d_9 true (Value.slice (some ⟨F, 0, none⟩) 2 2) (putV 1 (putV 0 (fun _ => Value.slice none 0 0) (Value.slice (some ⟨C, 0, none⟩) 4 4)) (Value.slice (some ⟨E, 0, none⟩) 2 2)) (putV 1 (putV 0 (fun _ => Value.slice none 0 0) (Value.slice (some ⟨D, 0, none⟩) 1 1)) (Value.slice none 0 0)) d_8.tabs), (row (Value.slice (some ⟨G, 0, none⟩) 2 2) 103 2 2 [(iv 0), (Value.slice (some ⟨A, 0, none⟩) 2 2), (iv 1), (Value.slice (some ⟨B, 0, none⟩) 1 1)])] := AO.keep [2, 0, 1, 3] (by decide) _ rfl rfl
 have AQ : Sep NoB w H [(slsR true 2 (putV 1 (putV 0 (fun _ => Value.slice none 0 0) (Value.slice (some ⟨A, 0, none⟩) 2 2)) (Value.slice (some ⟨B, 0, none⟩) 1 1)) 3 (blkN d_8.macs) (blkC d_8.macs)), (d_9 true (Value.slice (some ⟨F, 0, none⟩) 2 2) (putV 1 (putV 0 (fun _ => Value.slice none 0 0) (Value.slice (some ⟨C, 0, none⟩) 4 4)) (Value.slice (some ⟨E, 0, none⟩) 2 2)) (putV 1 (putV 0 (fun _ => Value.slice none 0 0) (Value.slice (some ⟨D, 0, none⟩) 1 1)) (Value.slice none 0 0)) d_8.tabs), (row (Value.slice (some ⟨G, 0, none⟩) 2 2) 103 2 2 [(iv 0), (Value.slice (some ⟨A, 0, none⟩) 2 2), (iv 1), (Value.slice (some ⟨B, 0, none⟩) 1 1)])] := k_6 (k' := blkN d_8.macs) (c' := blkC d_8.macs) AP rfl rfl (fun _ _ => ⟨rfl, rfl⟩)
 have AR : Sep NoB w H [(row (Value.slice (some ⟨G, 0, none⟩) 2 2) 103 2 2 [(iv 0), (Value.slice (some ⟨A, 0, none⟩) 2 2), (iv 1), (Value.slice (some ⟨B, 0, none⟩) 1 1)]), (slsR true 2 (putV 1 (putV 0 (fun _ => Value.slice none 0 0) (Value.slice (some ⟨A, 0, none⟩) 2 2)) (Value.slice (some ⟨B, 0, none⟩) 1 1)) 3 (blkN d_8.macs) (blkC d_8.macs)), (d_9 true (Value.slice (some ⟨F, 0, none⟩) 2 2) (putV 1 (putV 0 (fun _ => Value.slice none 0 0) (Value.slice (some ⟨C, 0, none⟩) 4 4)) (Value.slice (some ⟨E, 0, none⟩) 2 2)) (putV 1 (putV 0 (fun _ => Value.slice none 0 0) (Value.slice (some ⟨D, 0, none⟩) 1 1)) (Value.slice none 0 0)) d_8.tabs)] := AQ.keep [2, 0, 1] (by decide) _ rfl rfl
 have AS : Sep NoB w H [(row (Value.slice (some ⟨G, 0, none⟩) 2 2) 103 2 d_8.macs.length (l_1 (putV 1 (putV 0 (fun _ => Value.slice none 0 0) (Value.slice (some ⟨A, 0, none⟩) 2 2)) (Value.slice (some ⟨B, 0, none⟩) 1 1)) d_8.macs)), (slsR true 2 (putV 1 (putV 0 (fun _ => Value.slice none 0 0) (Value.slice (some ⟨A, 0, none⟩) 2 2)) (Value.slice (some ⟨B, 0, none⟩) 1 1)) 3 (blkN d_8.macs) (blkC d_8.macs)), (d_9 true (Value.slice (some ⟨F, 0, none⟩) 2 2) (putV 1 (putV 0 (fun _ => Value.slice none 0 0) (Value.slice (some ⟨C, 0, none⟩) 4 4)) (Value.slice (some ⟨E, 0, none⟩) 2 2)) (putV 1 (putV 0 (fun _ => Value.slice none 0 0) (Value.slice (some ⟨D, 0, none⟩) 1 1)) (Value.slice none 0 0)) d_8.tabs)] := AR.h_1 (i := 0) rfl rfl (kept_macsC _ _).symm
 have AT : Sep NoB w H [(e_1 true (Value.slice (some ⟨G, 0, none⟩) 2 2) (putV 1 (putV 0 (fun _ => Value.slice none 0 0) (Value.slice (some ⟨A, 0, none⟩) 2 2)) (Value.slice (some ⟨B, 0, none⟩) 1 1)) d_8.macs), (d_9 true (Value.slice (some ⟨F, 0, none⟩) 2 2) (putV 1 (putV 0 (fun _ => Value.slice none 0 0) (Value.slice (some ⟨C, 0, none⟩) 4 4)) (Value.slice (some ⟨E, 0, none⟩) 2 2)) (putV 1 (putV 0 (fun _ => Value.slice none 0 0) (Value.slice (some ⟨D, 0, none⟩) 1 1)) (Value.slice none 0 0)) d_8.tabs)] := sep_macs_join AS
 have AU : Sep NoB w H [(d_9 true (Value.slice (some ⟨F, 0, none⟩) 2 2) (putV 1 (putV 0 (fun _ => Value.slice none 0 0) (Value.slice (some ⟨C, 0, none⟩) 4 4)) (Value.slice (some ⟨E, 0, none⟩) 2 2)) (putV 1 (putV 0 (fun _ => Value.slice none 0 0) (Value.slice (some ⟨D, 0, none⟩) 1 1)) (Value.slice none 0 0)) d_8.tabs), (e_1 true (Value.slice (some ⟨G, 0, none⟩) 2 2) (putV 1 (putV 0 (fun _ => Value.slice none 0 0) (Value.slice (some ⟨A, 0, none⟩) 2 2)) (Value.slice (some ⟨B, 0, none⟩) 1 1)) d_8.macs)] := AT.keep [1, 0] (by decide) _ rfl rfl
 exact ⟨_, _, _, _, _, rfl, AU⟩
end Go.Proofs.Ytohgladndklciaa

namespace Go.Proofs.Ytohgladndklciaa
open Go.RowKit Go.Shelf Go.Eng Go.Hard
theorem en_46 : ∀ args w, (callFunc 46 args).run Try.prog w = .ok (.enter 46 args) w := enters_of Try.func46 (by kernel_rfl) rfl
theorem en_33 : ∀ args w, (callFunc 33 args).run Try.prog w = .ok (.enter 33 args) w := enters_of Try.func33 (by kernel_rfl) rfl
theorem en_18 : ∀ args w, (callFunc 18 args).run Try.prog w = .ok (.enter 18 args) w := enters_of Try.func18 (by kernel_rfl) rfl
theorem en_25 : ∀ args w, (callFunc 25 args).run Try.prog w = .ok (.enter 25 args) w := enters_of Try.func25 (by kernel_rfl) rfl
theorem p_2 (w : World) :
  Calls Try.prog 17 #[] w (Ret fun v w' => v = .bool true ∧ Ext NoB w w') := by
 refine a_8 Try.func17 rfl fun a0 Z => ?_
 replace Z : Fr 71 [] [] a0 := Z
 have AT : Sep NoB w w [] := Sep.start _ _
 refine m2 (s1 Z (a_0 rfl (evc _ _)) fun a1 AS => ?_); clear Z a0
 refine n4 (s2 AS (b_0 rfl en_46 ev0 (kept_ok _)) ?_)
 rintro a3 _ w5 ⟨vt6, vm7, lr8, lb9, lk10, rfl, AN⟩ s; have L := AT.s_7 AN rfl; clear AN AS AT a1
 refine s2 s (b_0 rfl en_33 (ev2 s.e (evc _ _)) (Bias_ok d_8 vt6 vm7 lr8 lb9 lk10 _ (b_5 (L.ok 0 _ rfl)) (b_8 (L.ok 1 _ rfl)) kept_thin 0)) ?_
 rintro AZ _ BH ⟨rfl, z⟩ O; have AC := L.step z; clear z s L a3
 refine s1 O (a_1 rfl O.e) fun Aa P => ?_; clear O AZ
 refine s1 P (d_6 rfl P.e rfl) fun Ab Q => ?_; clear P Aa
 refine s1 Q (d_6 rfl Q.e rfl) fun Ac o => ?_; clear Q Ab
 refine s2 o (e_0 AC rfl z_2 (cs := [(iv 0), (iv 0)]) rfl) ?_
 rintro Ad _ BI ⟨B, rfl, AD⟩ H; clear o AC Ac
 refine s7 H (b_9 AD rfl f_4 H.e H.e (i := 0) rfl (vs := [(iv ((y_1 d_8 0).1)), (iv ((y_1 d_8 0).2))]) rfl rfl rfl (Nat.le_of_ble_eq_true rfl)) ?_
 intro _ A4 AE R; clear H
 have AF : Sep NoB w A4 [(blk B 30 [(iv ((y_1 d_8 0).1)), (iv ((y_1 d_8 0).2))]), (d_9 true vt6 lr8 lb9 d_8.tabs), (e_1 true vm7 lk10 d_8.macs)] := AE; clear AE AD
 refine s1 R (a_0 rfl R.e) fun Ae p => ?_; clear R Ad
 refine n2 ?_
 have q := p.as [(2, (iv (y_0 d_8 0))), (1, (bptr B 0))] rfl; clear p
 refine a_5 (s2 q (b_0 rfl en_46 ev0 (kept_ok _)) ?_)
 rintro Af _ BJ ⟨vt39, vm40, lr41, lb42, lk43, rfl, AO⟩ r; have AG := AF.s_7 AO rfl; clear AO q AF Ae
 refine s2 r (b_0 rfl en_31 (ev2 (evc _ _) (evc _ _)) (m_7 _ _ _)) ?_
 rintro Ag _ BK ⟨rfl, AA⟩ I; have M := AG.step AA; clear AA r AG Af
 refine s2 I (b_0 rfl en_18 (ev3 I.e (evc _ _) I.e) (Convert_ok d_8 vt39 vm40 lr41 lb42 lk43 _ (b_5 (M.ok 0 _ rfl)) (b_8 (M.ok 1 _ rfl)) kept_thin 0 150 180)) ?_
 rintro Ah _ BL ⟨rfl, AB⟩ S; have AH := M.step AB; clear AB I M Ag
 refine s1 S (a_1 rfl S.e) fun Ai T => ?_; clear S Ah
 refine s1 T (d_6 rfl T.e rfl) fun Aj U => ?_; clear T Ai
 refine s1 U (d_6 rfl U.e rfl) fun Ak t => ?_; clear U Aj
 refine s2 t (e_0 AH rfl z_2 (cs := [(iv 0), (iv 0)]) rfl) ?_
 rintro Al _ BM ⟨N, rfl, AI⟩ J; clear t AH Ak
 refine s7 J (b_9 AI rfl f_4 J.e J.e (i := 0) rfl (vs := [(iv ((z_0 d_8 0 (150, 180)).1)), (iv ((z_0 d_8 0 (150, 180)).2))]) rfl rfl rfl (Nat.le_of_ble_eq_true rfl)) ?_
 intro _ A5 AJ V; clear J
 have AK : Sep NoB w A5 [(blk N 30 [(iv ((z_0 d_8 0 (150, 180)).1)), (iv ((z_0 d_8 0 (150, 180)).2))]), (d_9 true vt39 lr41 lb42 d_8.tabs), (e_1 true vm40 lk43 d_8.macs), (blk B 30 [(iv ((y_1 d_8 0).1)), (iv ((y_1 d_8 0).2))]), (d_9 true vt6 lr8 lb9 d_8.tabs), (e_1 true vm7 lk10 d_8.macs)] := AJ; clear AJ AI
 refine s1 V (a_0 rfl V.e) fun Am u => ?_; clear V Al
 refine n2 ?_
 have x := u.as [(4, (iv (y_4 d_8 0 (150, 180)))), (3, (bptr N 0)), (2, (iv (y_0 d_8 0))), (1, (bptr B 0))] rfl; clear u
 refine a_5 (s2 x (b_0 rfl en_46 ev0 (kept_ok _)) ?_)
 rintro An _ BN ⟨vt77, vm78, lr79, lb80, lk81, rfl, AP⟩ y; have AL := AK.s_7 AP rfl; clear AP x AK Am
 refine s1 y (e_2 rfl (pv2 (evc _ _) (evc _ _)) (bd_98_0i_1i _ _)) fun Ao W => ?_; clear y An
 refine s2 W (g_2 AL rfl (pv1 W.e) un_53 ty_98 ze_98 (by decide) (cs := [(iv 0), (iv 170)]) (bs_98_1_0iia _ _)) ?_
 rintro Ap _ BO ⟨At, rfl, C⟩ K; clear W AL Ao
 refine s2 K (b_0 rfl en_25 (ev2 K.e K.e) (Spans_ok d_8 vt77 vm78 lr79 lb80 lk81 _ (b_5 (C.ok 1 _ rfl)) (b_8 (C.ok 2 _ rfl)) kept_thin ([(0, 170)]) _ (SlAt.of_blk (C.bk 0 rfl) rfl (Nat.le_of_ble_eq_true rfl)) (by decide) ([(161, 164), (259, 266), (83, 87)]) kept_read kept_spans)) ?_
 rintro Aq _ A6 ⟨A, rfl, AQ⟩ X
 have AM : Sep NoB w A6 [(row A 30 2 ([(161, 164), (259, 266), (83, 87)].length) (pairs ([(161, 164), (259, 266), (83, 87)]))), (blk At 98 [(iv 0), (iv 170)]), (d_9 true vt77 lr79 lb80 d_8.tabs), (e_1 true vm78 lk81 d_8.macs), (blk N 30 [(iv ((z_0 d_8 0 (150, 180)).1)), (iv ((z_0 d_8 0 (150, 180)).2))]), (d_9 true vt39 lr41 lb42 d_8.tabs), (e_1 true vm40 lk43 d_8.macs), (blk B 30 [(iv ((y_1 d_8 0).1)), (iv ((y_1 d_8 0).2))]), (d_9 true vt6 lr8 lb9 d_8.tabs), (e_1 true vm7 lk10 d_8.macs)] := C.s_7 AQ rfl; clear AQ K C Ap
 refine s1 X (a_1 rfl X.e) fun Ar Y => ?_; clear X Aq
 refine s1 Y (d_6 rfl Y.e rfl) fun As D => ?_; clear Y Ar
 refine s1 D (d_6 rfl D.e rfl) fun AU E => ?_; clear D As
 refine s1 E (a_0 rfl E.e) fun AV F => ?_; clear E AU
 refine s1 F (a_0 rfl F.e) fun A8 b => ?_; clear F AV
 refine n2 ?_
 have c := b.as [(6, (iv 0)), (5, A), (4, (iv (y_4 d_8 0 (150, 180)))), (3, (bptr N 0)), (2, (iv (y_0 d_8 0))), (1, (bptr B 0))] rfl; clear b
 have d := c.as [(6, (iv 0)), (5, A), (4, (iv (y_4 d_8 0 (150, 180)))), (3, (bptr N 0)), (2, (iv (y_0 d_8 0))), (1, (bptr B 0))] rfl; clear c
 refine h_5 mixed d AM 46 [[], [0], [1], [2], [2], [2, 3, 4], [2, 5], [6], [7], [7, 8], [7, 9], [10], [11], [11], [11, 12, 13], [11, 14], [15], [16], [16, 17], [16, 18], [19], [20], [20, 21], [20, 22], [20, 23], [24], [25], [25, 26], [25, 27], [25], [25, 28, 29], [25, 30], [31], [32], [32, 33], [32, 34], [32], [32, 35, 36], [32, 37], [38], [39], [39, 40], [39, 41], [39], [39, 42, 43], [39, 44]] [(Yd.val (iv (y_0 d_8 0))), (Yd.val (Value.bool true)), (Yd.val (Value.bool true)), (Yd.val (Value.agg #[(iv ((y_1 d_8 0).1)), (iv ((y_1 d_8 0).2))])), (Yd.val (Value.agg #[(iv 6), (iv 9)])), (Yd.val (Value.bool true)), (Yd.val (Value.bool true)), (Yd.val (Value.bool true)), (Yd.val (iv (y_4 d_8 0 (150, 180)))), (Yd.val (Value.bool true)), (Yd.val (Value.bool true)), (Yd.val (Value.bool true)), (Yd.val (Value.agg #[(iv ((z_0 d_8 0 (150, 180)).1)), (iv ((z_0 d_8 0 (150, 180)).2))])), (Yd.val (Value.agg #[(iv 248), (iv 282)])), (Yd.val (Value.bool true)), (Yd.val (Value.bool true)), (Yd.val (Value.bool true)), (Yd.val (iv 0)), (Yd.val (Value.bool true)), (Yd.val (Value.bool true)), (Yd.val (Value.bool true)), (Yd.val A), (Yd.val (iv ([(161, 164), (259, 266), (83, 87)].length : Int))), (Yd.val (Value.bool true)), (Yd.val (Value.bool true)), (Yd.val (Value.bool true)), (Yd.val A), (Yd.val (eptr A (0 * 2))), (Yd.val (Value.agg #[(iv ((([(161, 164), (259, 266), (83, 87)]).getD 0 (0, 0)).1)), (iv ((([(161, 164), (259, 266), (83, 87)]).getD 0 (0, 0)).2))])), (Yd.val (Value.agg #[(iv 161), (iv 164)])), (Yd.val (Value.bool true)), (Yd.val (Value.bool true)), (Yd.val (Value.bool true)), (Yd.val A), (Yd.val (eptr A (1 * 2))), (Yd.val (Value.agg #[(iv ((([(161, 164), (259, 266), (83, 87)]).getD 1 (0, 0)).1)), (iv ((([(161, 164), (259, 266), (83, 87)]).getD 1 (0, 0)).2))])), (Yd.val (Value.agg #[(iv 259), (iv 266)])), (Yd.val (Value.bool true)), (Yd.val (Value.bool true)), (Yd.val (Value.bool true)), (Yd.val A), (Yd.val (eptr A (2 * 2))), (Yd.val (Value.agg #[(iv ((([(161, 164), (259, 266), (83, 87)]).getD 2 (0, 0)).1)), (iv ((([(161, 164), (259, 266), (83, 87)]).getD 2 (0, 0)).2))])), (Yd.val (Value.agg #[(iv 83), (iv 87)])), (Yd.val (Value.bool true)), (Yd.val (Value.bool true))] (by decide +kernel) rfl rfl ?_ ?_
 ·skip
  refine dq (fun a w hA hS hd => a_1 rfl hA.e) ?_
  refine ⟨fun a w hA hS hd => by have e0 := hx hd 0; exact d_2 rfl (dv (o_0 rfl (c_3 e0) (evc _ _)) hS (by show Value.bool _ = _; simp only [decide_eq_true (show (y_0 d_8 0) = 0 from (by decide)), decide_true, decide_false, Bool.not_true, Bool.not_false])), ?_⟩
  refine dq (fun a w hA hS hd => a_1 rfl (hq hd 1)) ?_
  refine dy 2 (fun a w hA hS hd => c_0 rfl f_4 (hA.ev rfl) (hS.bk 7 rfl) (l := [(iv ((y_1 d_8 0).1)), (iv ((y_1 d_8 0).2))]) rfl rfl) ?_
  refine ⟨fun a w hA hS hd => by have e2 := hx hd 2; exact h_7 rfl rfl e2 (dx (b_0 rfl en_31 (ev2 (evc _ _) (evc _ _)) (m_7 _ _ _)) hS (fun _ => rfl)), ?_⟩
  refine ⟨fun a w hA hS hd => by have e2 := hx hd 2; have e3 := hx hd 3; have e4 := hx hd 4; exact h_7 rfl rfl e2 (dv (op_eqlP tw_30 rfl (c_3 e3) (c_3 e4)) hS (by show Value.bool _ = _; simp only [(show (decide ((((y_1 d_8 0).1) : Int) = 6) && decide ((((y_1 d_8 0).2) : Int) = 9)) = true from (by decide)), decide_true, decide_false, Bool.not_true, Bool.not_false])), ?_⟩
  refine dq (fun a w hA hS hd => b_2 rfl (hq hd 2) (hq hd 5)) ?_
  refine dq (fun a w hA hS hd => a_1 rfl (hq hd 6)) ?_
  refine dy 7 (fun a w hA hS hd => a_1 rfl hA.e) ?_
  refine ⟨fun a w hA hS hd => by have e7 := hx hd 7; have e8 := hx hd 8; exact h_7 rfl rfl e7 (dv (o_0 rfl (c_3 e8) (evc _ _)) hS (by show Value.bool _ = _; simp only [decide_eq_true (show (y_4 d_8 0 (150, 180)) = 0 from (by decide)), decide_true, decide_false, Bool.not_true, Bool.not_false])), ?_⟩
  refine dq (fun a w hA hS hd => b_2 rfl (hq hd 7) (hq hd 9)) ?_
  refine dq (fun a w hA hS hd => a_1 rfl (hq hd 10)) ?_
  refine dy 11 (fun a w hA hS hd => c_0 rfl f_4 (hA.ev rfl) (hS.bk 4 rfl) (l := [(iv ((z_0 d_8 0 (150, 180)).1)), (iv ((z_0 d_8 0 (150, 180)).2))]) rfl rfl) ?_
  refine ⟨fun a w hA hS hd => by have j := hx hd 11; exact h_7 rfl rfl j (dx (b_0 rfl en_31 (ev2 (evc _ _) (evc _ _)) (m_7 _ _ _)) hS (fun _ => rfl)), ?_⟩
  refine ⟨fun a w hA hS hd => by have j := hx hd 11; have Au := hx hd 12; have Av := hx hd 13; exact h_7 rfl rfl j (dv (op_eqlP tw_30 rfl (c_3 Au) (c_3 Av)) hS (by show Value.bool _ = _; simp only [(show (decide ((((z_0 d_8 0 (150, 180)).1) : Int) = 248) && decide ((((z_0 d_8 0 (150, 180)).2) : Int) = 282)) = true from (by decide)), decide_true, decide_false, Bool.not_true, Bool.not_false])), ?_⟩
  refine dq (fun a w hA hS hd => b_2 rfl (hq hd 11) (hq hd 14)) ?_
  refine dq (fun a w hA hS hd => a_1 rfl (hq hd 15)) ?_
  refine dy 16 (fun a w hA hS hd => a_1 rfl hA.e) ?_
  refine dy 16 (fun a w hA hS hd => o_0 rfl (hq hd 17) (evc _ _)) ?_
  refine dq (fun a w hA hS hd => b_2 rfl (hq hd 16) (hq hd 18)) ?_
  refine dq (fun a w hA hS hd => a_1 rfl (hq hd 19)) ?_
  refine dy 20 (fun a w hA hS hd => a_1 rfl hA.e) ?_
  refine dy 20 (fun a w hA hS hd => d_4 rfl q_8 (hq hd 21) (SlAt.e_5 (hS.f_2 0 rfl))) ?_
  refine ⟨fun a w hA hS hd => by have Aw := hx hd 20; have Ax := hx hd 22; exact h_7 rfl rfl Aw (dv (o_0 rfl (c_3 Ax) (evc _ _)) hS (by show Value.bool _ = _; simp only [decide_eq_true (show ([(161, 164), (259, 266), (83, 87)].length : Int) = 3 from (by decide)), decide_true, decide_false, Bool.not_true, Bool.not_false])), ?_⟩
  refine dq (fun a w hA hS hd => b_2 rfl (hq hd 20) (hq hd 23)) ?_
  refine dq (fun a w hA hS hd => a_1 rfl (hq hd 24)) ?_
  refine dy 25 (fun a w hA hS hd => a_1 rfl hA.e) ?_
  refine dy 25 (fun a w hA hS hd => b_3 rfl q_8 f_4 (hq hd 26) (i := 0) (show _ = Value.int .i64 ((0 : Nat) : Int) from (evc _ _)) (SlAt.e_5 (hS.f_2 0 rfl)) (by decide) (by decide)) ?_
  refine dy 25 (fun a w hA hS hd => f_0 rfl f_4 (hq hd 27) (SlAt.e_5 (hS.f_2 0 rfl)) (j_0 (by decide)) rfl (by decide)) ?_
  refine ⟨fun a w hA hS hd => by have k := hx hd 25; exact h_7 rfl rfl k (dx (b_0 rfl en_31 (ev2 (evc _ _) (evc _ _)) (m_7 _ _ _)) hS (fun _ => rfl)), ?_⟩
  refine ⟨fun a w hA hS hd => by have k := hx hd 25; have Ay := hx hd 28; have Az := hx hd 29; exact h_7 rfl rfl k (dv (op_eqlP tw_30 rfl (c_3 Ay) (c_3 Az)) hS (by show Value.bool _ = _; simp only [(show (decide ((((([(161, 164), (259, 266), (83, 87)]).getD 0 (0, 0)).1) : Int) = 161) && decide ((((([(161, 164), (259, 266), (83, 87)]).getD 0 (0, 0)).2) : Int) = 164)) = true from (by decide)), decide_true, decide_false, Bool.not_true, Bool.not_false])), ?_⟩
  refine dq (fun a w hA hS hd => b_2 rfl (hq hd 25) (hq hd 30)) ?_
  refine dq (fun a w hA hS hd => a_1 rfl (hq hd 31)) ?_
  refine dy 32 (fun a w hA hS hd => a_1 rfl hA.e) ?_
  refine dy 32 (fun a w hA hS hd => b_3 rfl q_8 f_4 (hq hd 33) (i := 1) (show _ = Value.int .i64 ((1 : Nat) : Int) from (evc _ _)) (SlAt.e_5 (hS.f_2 0 rfl)) (by decide) (by decide)) ?_
  refine dy 32 (fun a w hA hS hd => f_0 rfl f_4 (hq hd 34) (SlAt.e_5 (hS.f_2 0 rfl)) (j_0 (by decide)) rfl (by decide)) ?_
  refine ⟨fun a w hA hS hd => by have m := hx hd 32; exact h_7 rfl rfl m (dx (b_0 rfl en_31 (ev2 (evc _ _) (evc _ _)) (m_7 _ _ _)) hS (fun _ => rfl)), ?_⟩
  refine ⟨fun a w hA hS hd => by have m := hx hd 32; have A0 := hx hd 35; have A1 := hx hd 36; exact h_7 rfl rfl m (dv (op_eqlP tw_30 rfl (c_3 A0) (c_3 A1)) hS (by show Value.bool _ = _; simp only [(show (decide ((((([(161, 164), (259, 266), (83, 87)]).getD 1 (0, 0)).1) : Int) = 259) && decide ((((([(161, 164), (259, 266), (83, 87)]).getD 1 (0, 0)).2) : Int) = 266)) = true from (by decide)), decide_true, decide_false, Bool.not_true, Bool.not_false])), ?_⟩
  refine dq (fun a w hA hS hd => b_2 rfl (hq hd 32) (hq hd 37)) ?_
  refine dq (fun a w hA hS hd => a_1 rfl (hq hd 38)) ?_
  refine dy 39 (fun a w hA hS hd => a_1 rfl hA.e) ?_
  refine dy 39 (fun a w hA hS hd => b_3 rfl q_8 f_4 (hq hd 40) (i := 2) (show _ = Value.int .i64 ((2 : Nat) : Int) from (evc _ _)) (SlAt.e_5 (hS.f_2 0 rfl)) (by decide) (by decide)) ?_
  refine dy 39 (fun a w hA hS hd => f_0 rfl f_4 (hq hd 41) (SlAt.e_5 (hS.f_2 0 rfl)) (j_0 (by decide)) rfl (by decide)) ?_
  refine ⟨fun a w hA hS hd => by have n := hx hd 39; exact h_7 rfl rfl n (dx (b_0 rfl en_31 (ev2 (evc _ _) (evc _ _)) (m_7 _ _ _)) hS (fun _ => rfl)), ?_⟩
  refine ⟨fun a w hA hS hd => by have n := hx hd 39; have A2 := hx hd 42; have A3 := hx hd 43; exact h_7 rfl rfl n (dv (op_eqlP tw_30 rfl (c_3 A2) (c_3 A3)) hS (by show Value.bool _ = _; simp only [(show (decide ((((([(161, 164), (259, 266), (83, 87)]).getD 2 (0, 0)).1) : Int) = 83) && decide ((((([(161, 164), (259, 266), (83, 87)]).getD 2 (0, 0)).2) : Int) = 87)) = true from (by decide)), decide_true, decide_false, Bool.not_true, Bool.not_false])), ?_⟩
  refine dq (fun a w hA hS hd => b_2 rfl (hq hd 39) (hq hd 44)) ?_
  trivial
 intro AW BG f AR h; clear d AM
 have G := f.add (hz h 45); clear f
 clear h
 refine s1 G (a_0 rfl G.e) fun A9 g => ?_; clear G AW
 exact n1 (c_2 (a_7 g (.inl rfl) (a_2 g rfl (.tmp rfl)) (⟨rfl, AR.ext⟩)))
end Go.Proofs.Ytohgladndklciaa

namespace Go.Proofs.Ytohgladndklciaa
open Go.RowKit Go.Shelf Go.Eng Go.Hard
theorem en_16 : ∀ args w, (callFunc 16 args).run Try.prog w = .ok (.enter 16 args) w := enters_of Try.func16 (by kernel_rfl) rfl
theorem en_17 : ∀ args w, (callFunc 17 args).run Try.prog w = .ok (.enter 17 args) w := enters_of Try.func17 (by kernel_rfl) rfl
theorem en_19 : ∀ args w, (callFunc 19 args).run Try.prog w = .ok (.enter 19 args) w := enters_of Try.func19 (by kernel_rfl) rfl
theorem en_26 : ∀ args w, (callFunc 26 args).run Try.prog w = .ok (.enter 26 args) w := enters_of Try.func26 (by kernel_rfl) rfl
theorem en_27 : ∀ args w, (callFunc 27 args).run Try.prog w = .ok (.enter 27 args) w := enters_of Try.func27 (by kernel_rfl) rfl
theorem en_29 : ∀ args w, (callFunc 29 args).run Try.prog w = .ok (.enter 29 args) w := enters_of Try.func29 (by kernel_rfl) rfl
theorem un_5 : Try.prog.underlying 5 = some (.int .u8) := by kernel_rfl
theorem un_3 : Try.prog.underlying 3 = some (.int .i64) := by kernel_rfl
theorem ze_67 : (Try.prog.info? 67).bind (·.zero) = some (Value.agg #[(iv 0), (iv 0)]) := by kernel_rfl
theorem bs_67_1_0iia (x0_0 : Int) (x0_1 : Int) : Instr.fill (fun i => some (i * 2, 2)) ((Array.range (1 * 2)).map ((Value.agg #[(iv 0), (iv 0)]).cells[· % (Value.agg #[(iv 0), (iv 0)]).cells.size]!)) [(0, .agg #[(.int .i64 x0_0), (.int .i64 x0_1)])] = some (([(.int .i64 x0_0), (.int .i64 x0_1)] : List Value).toArray) := by kernel_rfl
theorem el_67 : elK Try.prog 67 = some ((Value.agg #[(iv 0), (iv 0)]), 2, 16) := by kernel_rfl
theorem ze_25 : (Try.prog.info? 25).bind (·.zero) = some (Value.agg #[(iv 0), (Value.slice none 0 0), (Value.slice none 0 0)]) := by kernel_rfl
theorem bs_67_0_  : Instr.fill (fun i => some (i * 2, 2)) ((Array.range (0 * 2)).map ((Value.agg #[(iv 0), (iv 0)]).cells[· % (Value.agg #[(iv 0), (iv 0)]).cells.size]!)) [] = some (([] : List Value).toArray) := by kernel_rfl
theorem en_30 : ∀ args w, (callFunc 30 args).run Try.prog w = .ok (.enter 30 args) w := enters_of Try.func30 (by kernel_rfl) rfl
theorem bs_46_0_  : Instr.fill (fun i => some (i * 5, 5)) ((Array.range (0 * 5)).map ((Value.agg #[(iv 0), (iv 0), (Value.slice none 0 0), (Value.slice none 0 0), (iv 0)]).cells[· % (Value.agg #[(iv 0), (iv 0), (Value.slice none 0 0), (Value.slice none 0 0), (iv 0)]).cells.size]!)) [] = some (([] : List Value).toArray) := by kernel_rfl
theorem el_46 : elK Try.prog 46 = some ((Value.agg #[(iv 0), (iv 0), (Value.slice none 0 0), (Value.slice none 0 0), (iv 0)]), 5, 72) := by kernel_rfl
theorem bs_61_0_  : Instr.fill (fun i => some (i * 2, 2)) ((Array.range (0 * 2)).map ((Value.agg #[(iv 0), (Value.slice none 0 0)]).cells[· % (Value.agg #[(iv 0), (Value.slice none 0 0)]).cells.size]!)) [] = some (([] : List Value).toArray) := by kernel_rfl
theorem el_61 : elK Try.prog 61 = some ((Value.agg #[(iv 0), (Value.slice none 0 0)]), 2, 32) := by kernel_rfl
theorem bs_63_1_0iiia (x0_0 : Int) (x0_1 : Int) (x0_2 : Int) : Instr.fill (fun i => some (i * 3, 3)) ((Array.range (1 * 3)).map ((Value.agg #[(iv 0), (iv 0), (iv 0)]).cells[· % (Value.agg #[(iv 0), (iv 0), (iv 0)]).cells.size]!)) [(0, .agg #[(.int .i64 x0_0), (.int .i64 x0_1), (.int .i64 x0_2)])] = some (([(.int .i64 x0_0), (.int .i64 x0_1), (.int .i64 x0_2)] : List Value).toArray) := by kernel_rfl
theorem el_63 : elK Try.prog 63 = some ((Value.agg #[(iv 0), (iv 0), (iv 0)]), 3, 24) := by kernel_rfl
theorem bs_63_0_  : Instr.fill (fun i => some (i * 3, 3)) ((Array.range (0 * 3)).map ((Value.agg #[(iv 0), (iv 0), (iv 0)]).cells[· % (Value.agg #[(iv 0), (iv 0), (iv 0)]).cells.size]!)) [] = some (([] : List Value).toArray) := by kernel_rfl
theorem bs_46_1_0iivvia (x0_0 : Int) (x0_1 : Int) (x0_2 : Value) (x0_3 : Value) (x0_4 : Int) : Instr.fill (fun i => some (i * 5, 5)) ((Array.range (1 * 5)).map ((Value.agg #[(iv 0), (iv 0), (Value.slice none 0 0), (Value.slice none 0 0), (iv 0)]).cells[· % (Value.agg #[(iv 0), (iv 0), (Value.slice none 0 0), (Value.slice none 0 0), (iv 0)]).cells.size]!)) [(0, .agg #[(.int .i64 x0_0), (.int .i64 x0_1), x0_2, x0_3, (.int .i64 x0_4)])] = some (([(.int .i64 x0_0), (.int .i64 x0_1), x0_2, x0_3, (.int .i64 x0_4)] : List Value).toArray) := by kernel_rfl
end Go.Proofs.Ytohgladndklciaa

namespace Go.Hard
def readyB (b : g_3) (l : List (Int × Int)) : Bool := aa_8 b l.length && decide (h_8 b l = 0)
theorem ready_is {b : g_3} {l : List (Int × Int)} (h : readyB b l = true) : o_2 b ∧ l.length ≤ 12 ∧ h_8 b l = 0 := by
  unfold readyB at h
  rw [Bool.and_eq_true, decide_eq_true_eq, thin_iff] at h
  exact ⟨h.1.1, h.1.2, h.2⟩
def narB (s : g_1) (e : Int) (t : g_1) (f : Int) : Bool :=
  if e = 0 then decide (f = 0) && decide (s.length = t.length) && allI s.length (fun i => decide ((t.getD i (0, 0)).1 ≤ (s.getD i (0, 0)).1) && decide ((s.getD i (0, 0)).2 ≤ (t.getD i (0, 0)).2) && decide ((s.getD i (0, 0)).1 ≤ (s.getD i (0, 0)).2))
  else (decide (e = 9) || decide (e = 11)) && decide ((s.length : Int) = 0)
section
variable {s t : g_1} {e f : Int} {k : Nat}
theorem nar_a (h : ¬ e = 0) (h2 : e = 9 ∨ e = 11) : narB s e t f = decide ((s.length : Int) = 0) := by
  unfold narB; rw [if_neg h]; rcases h2 with h2 | h2 <;> simp [h2]
theorem nar_b (h : ¬ e = 0) (h1 : ¬ e = 9) (h2 : ¬ e = 11) : narB s e t f = false := by
  unfold narB; rw [if_neg h]; simp [h1, h2]
theorem nar_c (h : e = 0) (h2 : ¬ f = 0 ∨ ¬ (s.length : Int) = (t.length : Int)) : narB s e t f = false := by
  unfold narB; rw [if_pos h]
  rcases h2 with h2 | h2
  · simp [h2]
  · rw [decide_eq_false (show ¬ s.length = t.length by omega)]; simp
theorem nar_d (h : e = 0) (hk : k < s.length) (h2 : (s.getD k (0, 0)).1 < (t.getD k (0, 0)).1 ∨ (t.getD k (0, 0)).2 < (s.getD k (0, 0)).2 ∨ (s.getD k (0, 0)).2 < (s.getD k (0, 0)).1) : narB s e t f = false := by
  unfold narB; rw [if_pos h, allI_no hk (by simp only [Bool.and_eq_false_iff, decide_eq_false_iff_not]; omega), Bool.and_false]
theorem nar_y (h : e = 0) (h1 : f = 0) (h2 : s.length = t.length) (h3 : ∀ i, i < s.length → (t.getD i (0, 0)).1 ≤ (s.getD i (0, 0)).1 ∧ (s.getD i (0, 0)).2 ≤ (t.getD i (0, 0)).2 ∧ (s.getD i (0, 0)).1 ≤ (s.getD i (0, 0)).2) : narB s e t f = true := by
  unfold narB; rw [if_pos h, decide_eq_true h1, decide_eq_true h2, g_6.2 fun i hi => by simp only [Bool.and_eq_true, decide_eq_true_eq]; exact ⟨⟨(h3 i hi).1, (h3 i hi).2.1⟩, (h3 i hi).2.2⟩]; rfl
end
theorem rem_nat {n : Int} {m : Nat} (h0 : 0 ≤ n) (hm : 0 < m) : ∃ b : Nat, n.tmod (m : Int) = (b : Int) ∧ b < m := by
  have h1 := Int.tmod_nonneg (m : Int) h0
  have h2 := Int.tmod_lt_of_pos n (show (0 : Int) < (m : Int) by omega)
  exact ⟨(n.tmod (m : Int)).toNat, by omega, by omega⟩
theorem sp_len {b : g_3} {l : List (Int × Int)} {t : g_1} (hb : o_1 b) (hl : x_9 b l) (h : k_4 b l = some t) : t.length = b.scales.toNat ∧ t.length ≤ 4 := by
  have := spans_is hb hl
  rw [h] at this
  have h4 := hb.four
  exact ⟨this.1, by rw [this.1]; exact h4⟩
section
variable {b : g_3} {l : List (Int × Int)} {k j : Nat}
variable {i : Nat}
end
end Go.Hard

namespace Go.Proofs.Ytohgladndklciaa
open Go.RowKit Go.Shelf Go.Eng Go.Hard
theorem ready_ok (b : g_3) (vt vm : Value) (lr lb lk : Nat → Value) (w : World) (hT : j_1 w vt lr lb b.tabs) (hM : k_3 w vm lk b.macs) (l : List (Int × Int)) (xl : Value) (hxl : SlAt w xl 2 l.length (pairs l)) :
  Calls Try.prog 29 #[(Value.agg #[(iv b.scales), vt, vm]), xl] w (Ret fun v w' => v = .bool (readyB b l) ∧ Ext NoB w w') := by
 refine a_8 Try.func29 rfl fun c H => ?_
 replace H : Fr 14 [] [(0, (Value.agg #[(iv b.scales), vt, vm])), (1, xl)] c := H
 have Z : Sep NoB w w [(d_9 false vt lr lb b.tabs), (e_1 false vm lk b.macs), (sl xl 2 l.length (pairs l))] := e_6 ⟨rfl, hT, rfl, hM, rfl, hxl, trivial⟩
 refine m2 (s2 H (e_8 Z rfl H.e (cs := [(iv b.scales), vt, vm]) rfl) ?_)
 rintro r _ w3 ⟨b4, rfl, C⟩ Y; clear H Z c
 refine s1 Y (a_0 rfl (evc _ _)) fun s T => ?_; clear Y r
 refine n4 (s1 T (c_0 rfl y_9 (T.ev rfl) (C.bk 0 rfl) (l := [(iv b.scales), vt, vm]) rfl rfl) fun t U => ?_); clear T s
 refine s1 U (a_1 rfl U.e) fun d D => ?_; clear U t
 refine s2 D (b_0 rfl en_16 (ev2 D.e D.e) (thin_ok b vt vm lr lb lk _ (b_5 (C.ok 1 _ rfl)) (b_8 (C.ok 2 _ rfl)) l _ (C.sk 3 rfl))) ?_
 rintro f _ y ⟨rfl, V⟩ I; have B := C.step V; clear V D C d
 refine s1 I (a_1 rfl I.e) fun X A => ?_; clear I f
 rcases Bool.eq_false_or_eq_true ((aa_8 b l.length)) with G | G
 ·skip
  rw [G] at A
  have hthl := thin_iff.1 G; have hth := hthl.1
  refine s5 A (c_0 rfl y_9 (A.ev rfl) (B.bk 0 rfl) (l := [(iv b.scales), vt, vm]) rfl rfl) fun g J => ?_; clear A X
  refine s5 J (a_1 rfl J.e) fun h E => ?_; clear J g
  refine s6 E (b_0 rfl en_27 (ev2 E.e E.e) (fault_ok b vt vm lr lb lk _ (b_5 (B.ok 1 _ rfl)) (b_8 (B.ok 2 _ rfl)) hth l _ (B.sk 3 rfl) (by omega))) ?_
  rintro i _ z ⟨rfl, W⟩ K; have a := B.step W; clear W E B h
  refine s5 K (o_0 rfl K.e (evc _ _)) fun j F => ?_; clear K i
  refine s1 F (b_2 rfl F.e F.e) fun k L => ?_; clear F j
  refine s1 L (a_0 rfl L.e) fun u O => ?_; clear L k
  refine n1 (c_2 (a_7 O (.inl rfl) (a_2 O rfl (.tmp rfl)) ?_))
  exact ⟨congrArg Value.bool (by unfold readyB; simp [*]), a.ext⟩
 skip
 rw [G] at A
 refine s3 A fun m P => ?_; clear A X
 refine s3 P fun n Q => ?_; clear P m
 refine s3 Q fun o R => ?_; clear Q n
 refine s3 R fun p M => ?_; clear R o
 refine s1 M (c_7 rfl M.e (evc _ _)) fun q N => ?_; clear M p
 refine s1 N (a_0 rfl N.e) fun x S => ?_; clear N q
 refine n1 (c_2 (a_7 S (.inl rfl) (a_2 S rfl (.tmp rfl)) ?_))
 exact ⟨congrArg Value.bool (by unfold readyB; simp [*]), B.ext⟩
theorem t_1 (sa : g_1) (xa : Value) (ea : Int) (sc : g_1) (xc : Value) (ec : Int) (w : World) (hxa : SlAt w xa 2 sa.length (pairs sa)) (hxc : SlAt w xc 2 sc.length (pairs sc)) (hal : sa.length ≤ 1000000) :
  Calls Try.prog 30 #[xa, (iv ea), xc, (iv ec)] w (Ret fun v w' => v = .bool (narB sa ea sc ec) ∧ Ext NoB w w') := by
 refine a_8 Try.func30 rfl fun a0 AJ => ?_
 replace AJ : Fr 75 [] [(0, xa), (1, (iv ea)), (2, xc), (3, (iv ec))] a0 := AJ
 have F : Sep NoB w w [(sl xa 2 sa.length (pairs sa)), (sl xc 2 sc.length (pairs sc))] := e_6 ⟨rfl, hxa, rfl, hxc, trivial⟩
 refine m2 (s1 AJ (a_0 rfl (evc _ _)) fun a1 Al => ?_); clear AJ a0
 refine n2 (m2 (s1 Al (a_1 rfl Al.e) fun a3 Ap => ?_)); clear Al a1
 refine s1 Ap (v_6 rfl Ap.e (evc _ _)) fun a5 I => ?_; clear Ap a3
 refine n1 ?_
 by_cases BJ : ea = 0
 ·skip
  rw [decide_eq_true BJ] at I
  refine b_7 I rfl (d_1 (b_1 (b_6 (m2 (s1 I (a_1 rfl I.e) fun a8 A6 => ?_))))); clear I a5
  refine s1 A6 (v_6 rfl A6.e (evc _ _)) fun Bq x => ?_; clear A6 a8
  refine s1 x (a_1 rfl x.e) fun BG J => ?_; clear x Bq
  by_cases BA : ec = 0
  ·skip
   rw [decide_eq_true BA] at J
   refine s5 J (a_1 rfl J.e) fun Br y => ?_; clear J BG
   refine s5 y (d_4 rfl q_8 y.e (F.sk 0 rfl)) fun Bs z => ?_; clear y Br
   refine s5 z (a_1 rfl z.e) fun Bt AA => ?_; clear z Bs
   refine s5 AA (d_4 rfl q_8 AA.e (F.sk 1 rfl)) fun Bu l => ?_; clear AA Bt
   refine s5 l (v_6 rfl l.e l.e) fun Bv m => ?_; clear l Bu
   refine s1 m (c_7 rfl m.e m.e) fun BH D => ?_; clear m Bv
   refine n1 ?_
   by_cases BB : (sa.length : Int) = (sc.length : Int)
   ·skip
    rw [decide_eq_true BB] at D
    refine b_7 D rfl (d_1 (b_1 (b_6 (b_6 ?_))))
    have Am := D.as [(0, xa), (2, xc)] rfl; clear D
    refine a_5 (s1 Am (a_0 rfl (evc _ _)) fun Bw An => ?_); clear Am BH
    refine n1 (c_6 ?_)
    have Ao := An.as [(9, (iv 0)), (0, xa), (2, xc)] rfl; clear An
    refine h_3 (G := Nat) (fun (k : Nat) a_ w_ => Fr 75 [] [(9, (iv (k : Int))), (0, xa), (2, xc)] a_ ∧ Sep NoB w w_ [(sl xa 2 sa.length (pairs sa)), (sl xc 2 sc.length (pairs sc))] ∧ (k ≤ sa.length) ∧ (sa.length = sc.length) ∧ (∀ i, i < k → (sc.getD i (0, 0)).1 ≤ (sa.getD i (0, 0)).1 ∧ (sa.getD i (0, 0)).2 ≤ (sc.getD i (0, 0)).2 ∧ (sa.getD i (0, 0)).1 ≤ (sa.getD i (0, 0)).2)) (fun k => sa.length - k) 0 ⟨Ao.as _ rfl, F, by omega, by omega, (fun _ h => absurd h (Nat.not_lt_zero _))⟩ ?_
    clear Ao F Bw
    rintro k Bx CO ⟨AB, H, hkk, hln, hq_⟩
    refine b_6 (m2 (s1 AB (a_1 rfl AB.e) fun By AC => ?_)); clear AB Bx
    refine s1 AC (a_1 rfl AC.e) fun Bz AD => ?_; clear AC By
    refine s1 AD (d_4 rfl q_8 AD.e (H.sk 0 rfl)) fun B0 n => ?_; clear AD Bz
    refine s1 n (f_9 rfl n.e n.e) fun B1 E => ?_; clear n B0
    refine n1 ?_
    by_cases BC : (k : Int) < (sa.length : Int)
    ·skip
     rw [decide_eq_true BC] at E
     refine c_1 E rfl (d_1 (b_1 (b_6 (c_6 (b_6 ?_)))))
     have o := E.as [(9, (iv (k : Int))), (0, xa), (2, xc)] rfl; clear E
     by_cases AI : ((sa.getD k (0, 0)).1) < ((sc.getD k (0, 0)).1)
     ·skip
      have Aq := o.as [(9, (iv (k : Int))), (0, xa), (2, xc)] rfl; clear o
      refine h_5 mixed Aq H 35 [[], [], [0, 1], [2], [3], [], [], [5, 6], [7], [8], [4, 9], [10], [11], [11], [11, 12, 13], [11, 14], [11, 15], [11], [11], [11, 17, 18], [11, 19], [11, 20], [11, 16, 21], [11, 22], [23], [24], [24], [24, 25, 26], [24, 27], [24, 28], [24], [24], [24, 30, 31], [24, 32], [24, 33]] [(Yd.val xa), (Yd.val (iv (k : Int))), (Yd.val (eptr xa (k * 2))), (Yd.val (eptr xa (k * 2 + 0))), (Yd.val (iv ((sa.getD k (0, 0)).1))), (Yd.val xc), (Yd.val (iv (k : Int))), (Yd.val (eptr xc (k * 2))), (Yd.val (eptr xc (k * 2 + 0))), (Yd.val (iv ((sc.getD k (0, 0)).1))), (Yd.val (Value.bool true)), (Yd.val (Value.bool true)), (Yd.val undef), (Yd.val undef), (Yd.val undef), (Yd.val undef), (Yd.val undef), (Yd.val undef), (Yd.val undef), (Yd.val undef), (Yd.val undef), (Yd.val undef), (Yd.val undef), (Yd.val (Value.bool true)), (Yd.val (Value.bool true)), (Yd.val undef), (Yd.val undef), (Yd.val undef), (Yd.val undef), (Yd.val undef), (Yd.val undef), (Yd.val undef), (Yd.val undef), (Yd.val undef), (Yd.val undef)] (by decide +kernel) rfl rfl ?_ ?_
      ·skip
       refine dq (fun a w hA hS hd => a_1 rfl hA.e) ?_
       refine dq (fun a w hA hS hd => a_1 rfl hA.e) ?_
       refine dq (fun a w hA hS hd => b_3 rfl q_8 f_4 (hq hd 0) (i := k) (hq hd 1) (hS.sk 0 rfl) (by decide) (by omega)) ?_
       refine dq (fun a w hA hS hd => c_9 rfl k_8 (hq hd 2) (hS.sk 0 rfl) (by rw [((hS.sk 0 rfl)).1]; omega)) ?_
       refine dq (fun a w hA hS hd => c_5 rfl ty_3 (hq hd 3) (hS.sk 0 rfl) (g_0 (by omega))) ?_
       refine dq (fun a w hA hS hd => a_1 rfl hA.e) ?_
       refine dq (fun a w hA hS hd => a_1 rfl hA.e) ?_
       refine dq (fun a w hA hS hd => b_3 rfl q_8 f_4 (hq hd 5) (i := k) (hq hd 6) (hS.sk 1 rfl) (by decide) (by omega)) ?_
       refine dq (fun a w hA hS hd => c_9 rfl k_8 (hq hd 7) (hS.sk 1 rfl) (by rw [((hS.sk 1 rfl)).1]; omega)) ?_
       refine dq (fun a w hA hS hd => c_5 rfl ty_3 (hq hd 8) (hS.sk 1 rfl) (g_0 (by omega))) ?_
       refine ⟨fun a w hA hS hd => by have e4 := hx hd 4; have e9 := hx hd 9; exact d_2 rfl (dv (f_9 rfl (c_3 e4) (c_3 e9)) hS (by show Value.bool _ = _; simp only [decide_eq_true AI, decide_true, decide_false, Bool.not_true, Bool.not_false])), ?_⟩
       refine dq (fun a w hA hS hd => a_1 rfl (hq hd 10)) ?_
       refine dn 11 (dn 11 (dn 11 (dn 11 (dn 11 (dn 11 (dn 11 (dn 11 (dn 11 (dn 11 (dn 11 (dq (fun a w hA hS hd => b_2 rfl (hq hd 11) (evc _ _)) ?_)))))))))))
       refine dq (fun a w hA hS hd => a_1 rfl (hq hd 23)) ?_
       refine dn 24 (dn 24 (dn 24 (dn 24 (dn 24 (dn 24 (dn 24 (dn 24 (dn 24 (dn 24 ?_)))))))))
       trivial
      intro B3 CP Ar Bn s; clear Aq H
      have As := Ar.add (hz s 24); clear Ar
      have At := As.add (hz s 29); clear As
      have Au := At.add (hz s 34); clear At
      clear s
      refine s3 Au fun B4 AE => ?_; clear Au B3
      refine s1 AE (b_2 rfl AE.e (evc _ _)) fun B5 AF => ?_; clear AE B4
      refine n1 (c_1 AF rfl (b_6 ?_))
      have Av := AF.as [] rfl; clear AF
      refine a_5 (s1 Av (a_0 rfl (evc _ _)) fun CM Aw => ?_); clear Av B5
      exact n1 (c_2 (c_4 (a_6 (a_6 (c_4 (a_6 (a_7 Aw (.inl rfl) (a_2 Aw rfl (.tmp rfl)) (⟨congrArg Value.bool (Eq.symm (by first | exact nar_b (by assumption) (by assumption) (by assumption) | exact nar_c (by assumption) (by first | exact .inl (by assumption) | exact .inr (by assumption)) | exact nar_d (k := k) (by assumption) (by omega) (by omega))), Bn.ext⟩))))))))
     skip
     have p := o.as [(9, (iv (k : Int))), (0, xa), (2, xc)] rfl; clear o
     by_cases BD : ((sc.getD k (0, 0)).2) < ((sa.getD k (0, 0)).2)
     ·skip
      have Ax := p.as [(9, (iv (k : Int))), (0, xa), (2, xc)] rfl; clear p
      refine h_5 mixed Ax H 35 [[], [], [0, 1], [2], [3], [], [], [5, 6], [7], [8], [4, 9], [10], [11], [11], [11, 12, 13], [11, 14], [11, 15], [11], [11], [11, 17, 18], [11, 19], [11, 20], [11, 16, 21], [11, 22], [23], [24], [24], [24, 25, 26], [24, 27], [24, 28], [24], [24], [24, 30, 31], [24, 32], [24, 33]] [(Yd.val xa), (Yd.val (iv (k : Int))), (Yd.val (eptr xa (k * 2))), (Yd.val (eptr xa (k * 2 + 0))), (Yd.val (iv ((sa.getD k (0, 0)).1))), (Yd.val xc), (Yd.val (iv (k : Int))), (Yd.val (eptr xc (k * 2))), (Yd.val (eptr xc (k * 2 + 0))), (Yd.val (iv ((sc.getD k (0, 0)).1))), (Yd.val (Value.bool false)), (Yd.val (Value.bool false)), (Yd.val xa), (Yd.val (iv (k : Int))), (Yd.val (eptr xa (k * 2))), (Yd.val (eptr xa (k * 2 + 1))), (Yd.val (iv ((sa.getD k (0, 0)).2))), (Yd.val xc), (Yd.val (iv (k : Int))), (Yd.val (eptr xc (k * 2))), (Yd.val (eptr xc (k * 2 + 1))), (Yd.val (iv ((sc.getD k (0, 0)).2))), (Yd.val (Value.bool true)), (Yd.val (Value.bool true)), (Yd.val (Value.bool true)), (Yd.val undef), (Yd.val undef), (Yd.val undef), (Yd.val undef), (Yd.val undef), (Yd.val undef), (Yd.val undef), (Yd.val undef), (Yd.val undef), (Yd.val undef)] (by decide +kernel) rfl rfl ?_ ?_
      ·skip
       refine dq (fun a w hA hS hd => a_1 rfl hA.e) ?_
       refine dq (fun a w hA hS hd => a_1 rfl hA.e) ?_
       refine dq (fun a w hA hS hd => b_3 rfl q_8 f_4 (hq hd 0) (i := k) (hq hd 1) (hS.sk 0 rfl) (by decide) (by omega)) ?_
       refine dq (fun a w hA hS hd => c_9 rfl k_8 (hq hd 2) (hS.sk 0 rfl) (by rw [((hS.sk 0 rfl)).1]; omega)) ?_
       refine dq (fun a w hA hS hd => c_5 rfl ty_3 (hq hd 3) (hS.sk 0 rfl) (g_0 (by omega))) ?_
       refine dq (fun a w hA hS hd => a_1 rfl hA.e) ?_
       refine dq (fun a w hA hS hd => a_1 rfl hA.e) ?_
       refine dq (fun a w hA hS hd => b_3 rfl q_8 f_4 (hq hd 5) (i := k) (hq hd 6) (hS.sk 1 rfl) (by decide) (by omega)) ?_
       refine dq (fun a w hA hS hd => c_9 rfl k_8 (hq hd 7) (hS.sk 1 rfl) (by rw [((hS.sk 1 rfl)).1]; omega)) ?_
       refine dq (fun a w hA hS hd => c_5 rfl ty_3 (hq hd 8) (hS.sk 1 rfl) (g_0 (by omega))) ?_
       refine ⟨fun a w hA hS hd => by have e4 := hx hd 4; have e9 := hx hd 9; exact d_2 rfl (dv (f_9 rfl (c_3 e4) (c_3 e9)) hS (by show Value.bool _ = _; simp only [decide_eq_false AI, decide_true, decide_false, Bool.not_true, Bool.not_false])), ?_⟩
       refine dq (fun a w hA hS hd => a_1 rfl (hq hd 10)) ?_
       refine dy 11 (fun a w hA hS hd => a_1 rfl hA.e) ?_
       refine dy 11 (fun a w hA hS hd => a_1 rfl hA.e) ?_
       refine dy 11 (fun a w hA hS hd => b_3 rfl q_8 f_4 (hq hd 12) (i := k) (hq hd 13) (hS.sk 0 rfl) (by decide) (by omega)) ?_
       refine dy 11 (fun a w hA hS hd => c_9 rfl m_0 (hq hd 14) (hS.sk 0 rfl) (by rw [((hS.sk 0 rfl)).1]; omega)) ?_
       refine dy 11 (fun a w hA hS hd => c_5 rfl ty_3 (hq hd 15) (hS.sk 0 rfl) (h_4 (by omega))) ?_
       refine dy 11 (fun a w hA hS hd => a_1 rfl hA.e) ?_
       refine dy 11 (fun a w hA hS hd => a_1 rfl hA.e) ?_
       refine dy 11 (fun a w hA hS hd => b_3 rfl q_8 f_4 (hq hd 17) (i := k) (hq hd 18) (hS.sk 1 rfl) (by decide) (by omega)) ?_
       refine dy 11 (fun a w hA hS hd => c_9 rfl m_0 (hq hd 19) (hS.sk 1 rfl) (by rw [((hS.sk 1 rfl)).1]; omega)) ?_
       refine dy 11 (fun a w hA hS hd => c_5 rfl ty_3 (hq hd 20) (hS.sk 1 rfl) (h_4 (by omega))) ?_
       refine ⟨fun a w hA hS hd => by have Ag := hx hd 11; have Ah := hx hd 16; have Ai := hx hd 21; exact h_7 rfl rfl Ag (dv (j_6 rfl (c_3 Ah) (c_3 Ai)) hS (by show Value.bool _ = _; simp only [decide_eq_true BD, decide_true, decide_false, Bool.not_true, Bool.not_false])), ?_⟩
       refine dq (fun a w hA hS hd => c_7 rfl (hq hd 11) (hq hd 22)) ?_
       refine dq (fun a w hA hS hd => a_1 rfl (hq hd 23)) ?_
       refine dn 24 (dn 24 (dn 24 (dn 24 (dn 24 (dn 24 (dn 24 (dn 24 (dn 24 (dn 24 ?_)))))))))
       trivial
      intro B6 CQ Ay Bo t; clear Ax H
      have Az := Ay.add (hz t 24); clear Ay
      have A0 := Az.add (hz t 29); clear Az
      have A1 := A0.add (hz t 34); clear A0
      clear t
      refine s3 A1 fun B7 AG => ?_; clear A1 B6
      refine s1 AG (b_2 rfl AG.e (evc _ _)) fun B8 AH => ?_; clear AG B7
      refine n1 (c_1 AH rfl (b_6 ?_))
      have A2 := AH.as [] rfl; clear AH
      refine a_5 (s1 A2 (a_0 rfl (evc _ _)) fun CN A3 => ?_); clear A2 B8
      exact n1 (c_2 (c_4 (a_6 (a_6 (c_4 (a_6 (a_7 A3 (.inl rfl) (a_2 A3 rfl (.tmp rfl)) (⟨congrArg Value.bool (Eq.symm (by first | exact nar_b (by assumption) (by assumption) (by assumption) | exact nar_c (by assumption) (by first | exact .inl (by assumption) | exact .inr (by assumption)) | exact nar_d (k := k) (by assumption) (by omega) (by omega))), Bo.ext⟩))))))))
     skip
     have A4 := p.as [(9, (iv (k : Int))), (0, xa), (2, xc)] rfl; clear p
     refine h_5 mixed A4 H 35 [[], [], [0, 1], [2], [3], [], [], [5, 6], [7], [8], [4, 9], [10], [11], [11], [11, 12, 13], [11, 14], [11, 15], [11], [11], [11, 17, 18], [11, 19], [11, 20], [11, 16, 21], [11, 22], [23], [24], [24], [24, 25, 26], [24, 27], [24, 28], [24], [24], [24, 30, 31], [24, 32], [24, 33]] [(Yd.val xa), (Yd.val (iv (k : Int))), (Yd.val (eptr xa (k * 2))), (Yd.val (eptr xa (k * 2 + 0))), (Yd.val (iv ((sa.getD k (0, 0)).1))), (Yd.val xc), (Yd.val (iv (k : Int))), (Yd.val (eptr xc (k * 2))), (Yd.val (eptr xc (k * 2 + 0))), (Yd.val (iv ((sc.getD k (0, 0)).1))), (Yd.val (Value.bool false)), (Yd.val (Value.bool false)), (Yd.val xa), (Yd.val (iv (k : Int))), (Yd.val (eptr xa (k * 2))), (Yd.val (eptr xa (k * 2 + 1))), (Yd.val (iv ((sa.getD k (0, 0)).2))), (Yd.val xc), (Yd.val (iv (k : Int))), (Yd.val (eptr xc (k * 2))), (Yd.val (eptr xc (k * 2 + 1))), (Yd.val (iv ((sc.getD k (0, 0)).2))), (Yd.val (Value.bool false)), (Yd.val (Value.bool false)), (Yd.val (Value.bool false)), (Yd.val xa), (Yd.val (iv (k : Int))), (Yd.val (eptr xa (k * 2))), (Yd.val (eptr xa (k * 2 + 0))), (Yd.val (iv ((sa.getD k (0, 0)).1))), (Yd.val xa), (Yd.val (iv (k : Int))), (Yd.val (eptr xa (k * 2))), (Yd.val (eptr xa (k * 2 + 1))), (Yd.val (iv ((sa.getD k (0, 0)).2)))] (by decide +kernel) rfl rfl ?_ ?_
     ·skip
      refine dq (fun a w hA hS hd => a_1 rfl hA.e) ?_
      refine dq (fun a w hA hS hd => a_1 rfl hA.e) ?_
      refine dq (fun a w hA hS hd => b_3 rfl q_8 f_4 (hq hd 0) (i := k) (hq hd 1) (hS.sk 0 rfl) (by decide) (by omega)) ?_
      refine dq (fun a w hA hS hd => c_9 rfl k_8 (hq hd 2) (hS.sk 0 rfl) (by rw [((hS.sk 0 rfl)).1]; omega)) ?_
      refine dq (fun a w hA hS hd => c_5 rfl ty_3 (hq hd 3) (hS.sk 0 rfl) (g_0 (by omega))) ?_
      refine dq (fun a w hA hS hd => a_1 rfl hA.e) ?_
      refine dq (fun a w hA hS hd => a_1 rfl hA.e) ?_
      refine dq (fun a w hA hS hd => b_3 rfl q_8 f_4 (hq hd 5) (i := k) (hq hd 6) (hS.sk 1 rfl) (by decide) (by omega)) ?_
      refine dq (fun a w hA hS hd => c_9 rfl k_8 (hq hd 7) (hS.sk 1 rfl) (by rw [((hS.sk 1 rfl)).1]; omega)) ?_
      refine dq (fun a w hA hS hd => c_5 rfl ty_3 (hq hd 8) (hS.sk 1 rfl) (g_0 (by omega))) ?_
      refine ⟨fun a w hA hS hd => by have e4 := hx hd 4; have e9 := hx hd 9; exact d_2 rfl (dv (f_9 rfl (c_3 e4) (c_3 e9)) hS (by show Value.bool _ = _; simp only [decide_eq_false AI, decide_true, decide_false, Bool.not_true, Bool.not_false])), ?_⟩
      refine dq (fun a w hA hS hd => a_1 rfl (hq hd 10)) ?_
      refine dy 11 (fun a w hA hS hd => a_1 rfl hA.e) ?_
      refine dy 11 (fun a w hA hS hd => a_1 rfl hA.e) ?_
      refine dy 11 (fun a w hA hS hd => b_3 rfl q_8 f_4 (hq hd 12) (i := k) (hq hd 13) (hS.sk 0 rfl) (by decide) (by omega)) ?_
      refine dy 11 (fun a w hA hS hd => c_9 rfl m_0 (hq hd 14) (hS.sk 0 rfl) (by rw [((hS.sk 0 rfl)).1]; omega)) ?_
      refine dy 11 (fun a w hA hS hd => c_5 rfl ty_3 (hq hd 15) (hS.sk 0 rfl) (h_4 (by omega))) ?_
      refine dy 11 (fun a w hA hS hd => a_1 rfl hA.e) ?_
      refine dy 11 (fun a w hA hS hd => a_1 rfl hA.e) ?_
      refine dy 11 (fun a w hA hS hd => b_3 rfl q_8 f_4 (hq hd 17) (i := k) (hq hd 18) (hS.sk 1 rfl) (by decide) (by omega)) ?_
      refine dy 11 (fun a w hA hS hd => c_9 rfl m_0 (hq hd 19) (hS.sk 1 rfl) (by rw [((hS.sk 1 rfl)).1]; omega)) ?_
      refine dy 11 (fun a w hA hS hd => c_5 rfl ty_3 (hq hd 20) (hS.sk 1 rfl) (h_4 (by omega))) ?_
      refine ⟨fun a w hA hS hd => by have Ag := hx hd 11; have Ah := hx hd 16; have Ai := hx hd 21; exact h_7 rfl rfl Ag (dv (j_6 rfl (c_3 Ah) (c_3 Ai)) hS (by show Value.bool _ = _; simp only [decide_eq_false BD, decide_true, decide_false, Bool.not_true, Bool.not_false])), ?_⟩
      refine dq (fun a w hA hS hd => c_7 rfl (hq hd 11) (hq hd 22)) ?_
      refine dq (fun a w hA hS hd => a_1 rfl (hq hd 23)) ?_
      refine dy 24 (fun a w hA hS hd => a_1 rfl hA.e) ?_
      refine dy 24 (fun a w hA hS hd => a_1 rfl hA.e) ?_
      refine dy 24 (fun a w hA hS hd => b_3 rfl q_8 f_4 (hq hd 25) (i := k) (hq hd 26) (hS.sk 0 rfl) (by decide) (by omega)) ?_
      refine dy 24 (fun a w hA hS hd => c_9 rfl k_8 (hq hd 27) (hS.sk 0 rfl) (by rw [((hS.sk 0 rfl)).1]; omega)) ?_
      refine dy 24 (fun a w hA hS hd => c_5 rfl ty_3 (hq hd 28) (hS.sk 0 rfl) (g_0 (by omega))) ?_
      refine dy 24 (fun a w hA hS hd => a_1 rfl hA.e) ?_
      refine dy 24 (fun a w hA hS hd => a_1 rfl hA.e) ?_
      refine dy 24 (fun a w hA hS hd => b_3 rfl q_8 f_4 (hq hd 30) (i := k) (hq hd 31) (hS.sk 0 rfl) (by decide) (by omega)) ?_
      refine dy 24 (fun a w hA hS hd => c_9 rfl m_0 (hq hd 32) (hS.sk 0 rfl) (by rw [((hS.sk 0 rfl)).1]; omega)) ?_
      refine dy 24 (fun a w hA hS hd => c_5 rfl ty_3 (hq hd 33) (hS.sk 0 rfl) (h_4 (by omega))) ?_
      trivial
     intro B9 CR A5 A9 u; clear A4 H
     have A7 := A5.add (hz u 24); clear A5
     have A8 := A7.add (hz u 29); clear A7
     have q := A8.add (hz u 34); clear A8
     clear u
     refine s5 q (j_6 rfl q.e q.e) fun CA r => ?_; clear q B9
     refine s1 r (c_7 rfl r.e r.e) fun BI C => ?_; clear r CA
     refine n1 ?_
     by_cases BE : ((sa.getD k (0, 0)).2) < ((sa.getD k (0, 0)).1)
     ·skip
      rw [decide_eq_true BE] at C
      refine c_1 C rfl (b_6 ?_)
      have AK := C.as [] rfl; clear C
      refine a_5 (s1 AK (a_0 rfl (evc _ _)) fun CC AL => ?_); clear AK BI
      exact n1 (c_2 (c_4 (a_6 (a_6 (c_4 (a_6 (a_7 AL (.inl rfl) (a_2 AL rfl (.tmp rfl)) (⟨congrArg Value.bool (Eq.symm (by first | exact nar_b (by assumption) (by assumption) (by assumption) | exact nar_c (by assumption) (by first | exact .inl (by assumption) | exact .inr (by assumption)) | exact nar_d (k := k) (by assumption) (by omega) (by omega))), A9.ext⟩))))))))
     skip
     rw [decide_eq_false BE] at C
     refine b_7 C rfl (d_1 (h_0 (b_1 (a_5 (s1 C (a_1 rfl C.e) fun BK N => ?_))))); clear C BI
     refine s1 N (g_5 rfl N.e (evc _ _) (by omega) (by omega)) fun BL O => ?_; clear N BK
     refine s1 O (a_0 rfl O.e) fun CD BF => ?_; clear O BL
     refine e_9 ?_
     exact b_1 ⟨k + 1, ⟨BF.as _ rfl, A9, by omega, hln, (fun i hi => by rcases Nat.lt_succ_iff_lt_or_eq.1 hi with h | h; exact hq_ i h; subst h; omega)⟩, by omega⟩
    skip
    rw [decide_eq_false BC] at E
    refine b_7 E rfl (h_2 (b_4 (b_4 (f_8 (b_1 (b_6 ?_))))))
    have AM := E.as [] rfl; clear E
    refine a_5 (s1 AM (a_0 rfl (evc _ _)) fun CE AN => ?_); clear AM B1
    exact n1 (c_2 (a_7 AN (.inl rfl) (a_2 AN rfl (.tmp rfl)) (⟨congrArg Value.bool (Eq.symm (nar_y (by assumption) (by omega) (by omega) (fun i hi => hq_ i (by omega)))), H.ext⟩)))
   skip
   rw [decide_eq_false BB] at D
   refine c_1 D rfl (b_6 ?_)
   have AO := D.as [] rfl; clear D
   refine a_5 (s1 AO (a_0 rfl (evc _ _)) fun CF AP => ?_); clear AO BH
   exact n1 (c_2 (a_6 (a_7 AP (.inl rfl) (a_2 AP rfl (.tmp rfl)) (⟨congrArg Value.bool (Eq.symm (by first | exact nar_b (by assumption) (by assumption) (by assumption) | exact nar_c (by assumption) (by first | exact .inl (by assumption) | exact .inr (by assumption)) | exact nar_d (k := k) (by assumption) (by omega) (by omega))), F.ext⟩))))
  skip
  rw [decide_eq_false BA] at J
  refine s3 J fun BM AQ => ?_; clear J BG
  refine s3 AQ fun BN AR => ?_; clear AQ BM
  refine s3 AR fun BO AS => ?_; clear AR BN
  refine s3 AS fun BP AT => ?_; clear AS BO
  refine s3 AT fun BQ P => ?_; clear AT BP
  refine s1 P (b_2 rfl P.e (evc _ _)) fun BR Q => ?_; clear P BQ
  refine n1 (c_1 Q rfl (b_6 ?_))
  have AU := Q.as [] rfl; clear Q
  refine a_5 (s1 AU (a_0 rfl (evc _ _)) fun CG AV => ?_); clear AU BR
  exact n1 (c_2 (a_6 (a_7 AV (.inl rfl) (a_2 AV rfl (.tmp rfl)) (⟨congrArg Value.bool (Eq.symm (by first | exact nar_b (by assumption) (by assumption) (by assumption) | exact nar_c (by assumption) (by first | exact .inl (by assumption) | exact .inr (by assumption)) | exact nar_d (k := k) (by assumption) (by omega) (by omega))), F.ext⟩))))
 skip
 rw [decide_eq_false BJ] at I
 refine c_1 I rfl (m2 (s1 I (a_1 rfl I.e) fun BS R => ?_)); clear I a5
 refine s1 R (o_0 rfl R.e (evc _ _)) fun BT S => ?_; clear R BS
 refine s1 S (a_1 rfl S.e) fun Ae A => ?_; clear S BT
 by_cases Ac : ea = 9
 ·skip
  rw [decide_eq_true Ac] at A
  refine s3 A fun BU AW => ?_; clear A Ae
  refine s3 AW fun BV T => ?_; clear AW BU
  refine s1 T (b_2 rfl T.e (evc _ _)) fun BW U => ?_; clear T BV
  refine s1 U (a_1 rfl U.e) fun BX V => ?_; clear U BW
  refine s5 V (a_1 rfl V.e) fun BY W => ?_; clear V BX
  refine s5 W (d_4 rfl q_8 W.e (F.sk 0 rfl)) fun BZ X => ?_; clear W BY
  refine s5 X (o_0 rfl X.e (evc _ _)) fun Ba K => ?_; clear X BZ
  refine s1 K (b_2 rfl K.e K.e) fun Bb Y => ?_; clear K Ba
  refine s1 Y (a_0 rfl Y.e) fun CH AX => ?_; clear Y Bb
  exact n1 (c_2 (a_6 (a_7 AX (.inl rfl) (a_2 AX rfl (.tmp rfl)) (⟨congrArg Value.bool (Eq.symm (nar_a (by assumption) (by first | exact .inl (by assumption) | exact .inr (by assumption)))), F.ext⟩))))
 skip
 rw [decide_eq_false Ac] at A
 refine s5 A (a_1 rfl A.e) fun Bc Z => ?_; clear A Ae
 refine s5 Z (o_0 rfl Z.e (evc _ _)) fun Bd L => ?_; clear Z Bc
 refine s1 L (c_7 rfl L.e L.e) fun Be b => ?_; clear L Bd
 refine s1 b (a_1 rfl b.e) fun Af B => ?_; clear b Be
 by_cases Ad : ea = 11
 ·skip
  rw [decide_eq_true Ad] at B
  refine s5 B (a_1 rfl B.e) fun Bf c => ?_; clear B Af
  refine s5 c (d_4 rfl q_8 c.e (F.sk 0 rfl)) fun Bg d => ?_; clear c Bf
  refine s5 d (o_0 rfl d.e (evc _ _)) fun Bh M => ?_; clear d Bg
  refine s1 M (b_2 rfl M.e M.e) fun Bi f => ?_; clear M Bh
  refine s1 f (a_0 rfl f.e) fun CI AY => ?_; clear f Bi
  exact n1 (c_2 (a_6 (a_7 AY (.inl rfl) (a_2 AY rfl (.tmp rfl)) (⟨congrArg Value.bool (Eq.symm (nar_a (by assumption) (by first | exact .inl (by assumption) | exact .inr (by assumption)))), F.ext⟩))))
 skip
 rw [decide_eq_false Ad] at B
 refine s3 B fun Bj AZ => ?_; clear B Af
 refine s3 AZ fun Bk Aa => ?_; clear AZ Bj
 refine s3 Aa fun Bl g => ?_; clear Aa Bk
 refine s1 g (c_7 rfl g.e (evc _ _)) fun Bm j => ?_; clear g Bl
 refine s1 j (a_0 rfl j.e) fun CJ Ab => ?_; clear j Bm
 exact n1 (c_2 (a_6 (a_7 Ab (.inl rfl) (a_2 Ab rfl (.tmp rfl)) (⟨congrArg Value.bool (Eq.symm (by first | exact nar_b (by assumption) (by assumption) (by assumption) | exact nar_c (by assumption) (by first | exact .inl (by assumption) | exact .inr (by assumption)) | exact nar_d (k := k) (by assumption) (by omega) (by omega))), F.ext⟩))))
end Go.Proofs.Ytohgladndklciaa

namespace Go.Hard
section
variable {b : g_3} {l : List (Int × Int)} {z : List Int} {t : TabD} {k : Nat}
end
end Go.Hard

namespace Go.Hard
section
variable {n m next k : Nat} {p : List Int → Bool} {s : List Int} {l : List (Int × Int)} {b : g_3}
def Below0 (s : List Int) (k : Nat) : Prop := ∀ y ∈ s, (0 : Int) ≤ y ∧ y < (k : Int)
theorem Below0.nil : Below0 [] k := fun _ h => by cases h
end
end Go.Hard

namespace Go.Hard
theorem spans_or (b : g_3) (l : List (Int × Int)) : k_4 b l = none ∨ ∃ t, k_4 b l = some t := by
  cases h : k_4 b l with
  | none => exact .inl rfl
  | some t => exact .inr ⟨t, rfl⟩
theorem bias_iff (bl : List (Int × Int × Int)) : ∀ k, k ≤ bl.length → ∀ c : Int, ((i_4 bl k).1 ≤ c ↔ -100000 ≤ c ∧ ∀ i, i < k → (bl.getD i (0, 0, 0)).2.2 - (bl.getD i (0, 0, 0)).2.1 ≤ c) ∧ (c ≤ (i_4 bl k).2 ↔ c ≤ 100000 ∧ ∀ i, i < k → c ≤ (bl.getD i (0, 0, 0)).2.2 - (bl.getD i (0, 0, 0)).1)
  | 0, _, c => by
    unfold i_4
    exact ⟨⟨fun h => ⟨h, fun _ h => absurd h (Nat.not_lt_zero _)⟩, fun h => h.1⟩, ⟨fun h => ⟨h, fun _ h => absurd h (Nat.not_lt_zero _)⟩, fun h => h.1⟩⟩
  | k + 1, hk, c => by
    have ih := bias_iff bl k (by omega) c
    rw [i_4]; dsimp only [cutR]
    constructor
    · rw [Int.max_le, ih.1]
      constructor
      · rintro ⟨⟨h1, h2⟩, h3⟩
        refine ⟨h1, fun i hi => ?_⟩
        rcases Nat.lt_succ_iff_lt_or_eq.1 hi with hi | rfl
        · exact h2 i hi
        · exact h3
      · exact fun h => ⟨⟨h.1, fun i hi => h.2 i (by omega)⟩, h.2 k (by omega)⟩
    · rw [Int.le_min, ih.2]
      constructor
      · rintro ⟨⟨h1, h2⟩, h3⟩
        refine ⟨h1, fun i hi => ?_⟩
        rcases Nat.lt_succ_iff_lt_or_eq.1 hi with hi | rfl
        · exact h2 i hi
        · exact h3
      · exact fun h => ⟨⟨h.1, fun i hi => h.2 i (by omega)⟩, h.2 k (by omega)⟩
theorem bias_all (m : MacD) (c : Int) : ((d_5 m).1 ≤ c ↔ -100000 ≤ c ∧ ∀ x ∈ m.blocks, x.2.2 - x.2.1 ≤ c) ∧ (c ≤ (d_5 m).2 ↔ c ≤ 100000 ∧ ∀ x ∈ m.blocks, c ≤ x.2.2 - x.1) := by
  have h := bias_iff m.blocks m.blocks.length (Nat.le_refl _) c
  have e : ∀ P : Int × Int × Int → Prop, (∀ i, i < m.blocks.length → P (m.blocks.getD i (0, 0, 0))) ↔ ∀ x ∈ m.blocks, P x := fun P =>
    ⟨fun h x hx => by
      obtain ⟨i, hi, e⟩ := List.getElem_of_mem hx
      have := h i hi
      simpa only [List.getD, List.getElem?_eq_getElem hi, Option.getD_some, e] using this, fun h i hi => h _ (t_0 hi)⟩
  unfold d_5
  rw [h.1, h.2, e (fun x => x.2.2 - x.2.1 ≤ c), e (fun x => c ≤ x.2.2 - x.1)]
  exact ⟨Iff.rfl, Iff.rfl⟩
theorem bias_narrow {m m' : MacD} (h : ∀ x ∈ m.blocks, ∃ y ∈ m'.blocks, x.2.2 - x.2.1 ≤ y.2.2 - y.2.1 ∧ y.2.2 - y.1 ≤ x.2.2 - x.1) : (d_5 m).1 ≤ (d_5 m').1 ∧ (d_5 m').2 ≤ (d_5 m).2 := by
  have h1 := ((bias_all m' (d_5 m').1).1.1 (Int.le_refl _))
  have h2 := ((bias_all m' (d_5 m').2).2.1 (Int.le_refl _))
  refine ⟨(bias_all m _).1.2 ⟨h1.1, fun x hx => ?_⟩, (bias_all m _).2.2 ⟨h2.1, fun x hx => ?_⟩⟩ <;> obtain ⟨y, hy, e1, e2⟩ := h x hx
  · have := h1.2 y hy; omega
  · have := h2.2 y hy; omega
def InR (b : g_3) (s : g_1) (x : Int × Int) : Prop := x.2 - (d_5 (b.macs.getD x.1.toNat mac0)).2 ≤ (at' s (b.macs.getD x.1.toNat mac0).scale.toNat).1 ∧ (at' s (b.macs.getD x.1.toNat mac0).scale.toNat).2 ≤ x.2 - (d_5 (b.macs.getD x.1.toNat mac0)).1
section
variable {b b' : g_3} {l l' : List (Int × Int)} {s : g_1}
theorem sol_iff (hb : o_1 b) (hl : x_9 b l) : Sol b.scales.toNat b.tabs (t_7 b l) s ↔ Sub b.scales.toNat s e_3 ∧ Full b.scales.toNat s ∧ (∀ t ∈ b.tabs, m_9 t s) ∧ ∀ x ∈ l, InR b s x := by
  have e : (∀ j, j < l.length → (rangeOf b l j).1 ≤ (at' s (m_6 b l j)).1 ∧ (at' s (m_6 b l j)).2 ≤ (rangeOf b l j).2) ↔ ∀ x ∈ l, InR b s x :=
    ⟨fun h x hx => by
      obtain ⟨i, hi, e⟩ := List.getElem_of_mem hx
      have := h i hi
      unfold rangeOf m_6 at this
      simp only [List.getD, List.getElem?_eq_getElem hi, Option.getD_some, e] at this
      exact this, fun h i hi => h _ (t_0 hi)⟩
  have h := start_iff hb hl rfl (s := e_3) hb.four (s' := s) l.length (Nat.le_refl _)
  rw [e] at h
  constructor
  · rintro ⟨h1, h2, h3⟩
    exact ⟨(h.1 h1).1, h2, h3, (h.1 h1).2⟩
  · rintro ⟨h1, h2, h3, h4⟩
    exact ⟨h.2 ⟨h1, h4⟩, h2, h3⟩
theorem spans_less (hb : o_1 b) (hl : x_9 b l) (hb' : o_1 b') (hl' : x_9 b' l') (hn : b'.scales = b.scales) (h : ∀ s, Sub b.scales.toNat s e_3 → Full b.scales.toNat s → (∀ t ∈ b'.tabs, m_9 t s) → (∀ x ∈ l', InR b' s x) → (∀ t ∈ b.tabs, m_9 t s) ∧ ∀ x ∈ l, InR b s x) :
    k_4 b' l' = none ∨ ∃ s s', k_4 b l = some s ∧ k_4 b' l' = some s' ∧ s'.length = s.length ∧ s'.length ≤ 4 ∧ ∀ i, i < s'.length → (s.getD i (0, 0)).1 ≤ (s'.getD i (0, 0)).1 ∧ (s'.getD i (0, 0)).2 ≤ (s.getD i (0, 0)).2 ∧ (s'.getD i (0, 0)).1 ≤ (s'.getD i (0, 0)).2 := by
  have h1 := spans_is hb hl
  have h2 := spans_is hb' hl'
  have h4 := hb.four
  rw [show b'.scales.toNat = b.scales.toNat by rw [hn]] at h2
  rcases h1.narrow h2 (fun s g => by
    have e := sol_iff (s := s) hb' hl'
    rw [show b'.scales.toNat = b.scales.toNat by rw [hn]] at e
    have g := e.1 g
    have k := h s g.1 g.2.1 g.2.2.1 g.2.2.2
    exact (sol_iff hb hl).2 ⟨g.1, g.2.1, k.1, k.2⟩) with h | ⟨s, s', e1, e2, e3, e4, e5, e6⟩
  · exact .inl h
  · exact .inr ⟨s, s', e1, e2, by omega, by omega, fun i hi => ⟨(e5 i (by omega)).1, (e5 i (by omega)).2, e6 i (by omega)⟩⟩
theorem nar_less {s s' : g_1} (h1 : s'.length = s.length) (h2 : ∀ i, i < s'.length → (s.getD i (0, 0)).1 ≤ (s'.getD i (0, 0)).1 ∧ (s'.getD i (0, 0)).2 ≤ (s.getD i (0, 0)).2 ∧ (s'.getD i (0, 0)).1 ≤ (s'.getD i (0, 0)).2) : narB s' 0 s 0 = true := nar_y rfl rfl h1 h2
end
end Go.Hard

namespace Go.Hard
open Go.RowKit Go.Eng
section
variable {X : Nat → Prop} {w0 w : World} {L : List Res}
theorem t_6 {r : Res} (h : Sep X w0 w L) (ho : r.own = false) (hr : r.p w) (hn : ∀ b, r.S b → ∃ (i : Nat) (s : Res), L[i]? = some s ∧ s.own = false ∧ s.S b) : Sep X w0 w (r :: L) :=
  h.fact ho hr fun b hb i s hi hs hbs => by
    obtain ⟨j, t, hj, ht, hbt⟩ := hn b hb
    have hij : i ≠ j := fun e => by subst e; rw [hi] at hj; cases hj; rw [hs] at ht; cases ht
    exact h.apart i j s t hij hi hj hs b hbs hbt
def RoSl (w : World) (L : List Res) (u : Value) (sz n : Nat) (cs : List Value) : Prop := SlAt w u sz n cs ∧ ∀ b, slFoot u cs b → ∃ (i : Nat) (s : Res), L[i]? = some s ∧ s.own = false ∧ s.S b
theorem roSl_sl {i : Nat} {u : Value} {sz n : Nat} {cs : List Value} (h : Sep X w0 w L) (hi : L[i]? = some (sl u sz n cs)) : RoSl w L u sz n cs := ⟨h.sk i hi, fun _ hb => ⟨i, _, hi, rfl, hb⟩⟩
theorem roSl_row {i q : Nat} {vt : Value} {lr lb : Nat → Value} {ts : List TabD} (h : Sep X w0 w L) (hi : L[i]? = some (d_9 false vt lr lb ts)) (hq : q < ts.length) : RoSl w L (lr q) 2 (j_9 ts q) (j_8 ts q) :=
  ⟨(b_5 (h.ok i _ hi)).rows q hq, fun _ hb => ⟨i, _, hi, rfl, .inr (.inl ⟨q, hq, hb⟩)⟩⟩
theorem roSl_brk {i q : Nat} {vt : Value} {lr lb : Nat → Value} {ts : List TabD} (h : Sep X w0 w L) (hi : L[i]? = some (d_9 false vt lr lb ts)) (hq : q < ts.length) : RoSl w L (lb q) 1 (brkN ts q) (brkC ts q) :=
  ⟨(b_5 (h.ok i _ hi)).brks q hq, fun _ hb => ⟨i, _, hi, rfl, .inr (.inr ⟨q, hq, hb⟩)⟩⟩
theorem roSl_blk {i q : Nat} {vm : Value} {lk : Nat → Value} {ms : List MacD} (h : Sep X w0 w L) (hi : L[i]? = some (e_1 false vm lk ms)) (hq : q < ms.length) : RoSl w L (lk q) 3 (blkN ms q) (blkC ms q) :=
  ⟨(b_8 (h.ok i _ hi)).blks q hq, fun _ hb => ⟨i, _, hi, rfl, .inr ⟨q, hq, hb⟩⟩⟩
theorem sep_tabs_ro {v : Value} {e : Nat} {lr lb : Nat → Value} {ts : List TabD} (h : Sep X w0 w (row v e 5 ts.length (j_5 lr lb ts) :: L)) (hr : ∀ j, j < ts.length → RoSl w L (lr j) 2 (j_9 ts j) (j_8 ts j)) (hb : ∀ j, j < ts.length → RoSl w L (lb j) 1 (brkN ts j) (brkC ts j)) : Sep X w0 w (d_9 false v lr lb ts :: L) := by
  have h1 : Sep X w0 w (sl v 5 ts.length (j_5 lr lb ts) :: L) := sep_row_sl h (i := 0) rfl
  have h2 := t_6 (r := d_9 false v lr lb ts) h1 rfl ⟨h1.sk 0 rfl, fun j hj => (hr j hj).1, fun j hj => (hb j hj).1⟩ (fun b hbb => by
    rcases hbb with hbb | ⟨j, hj, hbb⟩ | ⟨j, hj, hbb⟩
    · exact ⟨0, _, rfl, rfl, hbb⟩
    · obtain ⟨i, s, e1, e2, e3⟩ := (hr j hj).2 b hbb; exact ⟨i + 1, s, e1, e2, e3⟩
    · obtain ⟨i, s, e1, e2, e3⟩ := (hb j hj).2 b hbb; exact ⟨i + 1, s, e1, e2, e3⟩)
  have hp := List.pairwise_cons.1 h2.pw
  exact Sep.of_pw h2.ext (fun r hr => h2.mem (by rcases List.mem_cons.1 hr with rfl | hr <;> simp [*])) (fun r hr ho b hb => h2.mineM (by rcases List.mem_cons.1 hr with rfl | hr <;> simp [*]) ho b hb) (List.pairwise_cons.2 ⟨fun r hr => hp.1 r (List.mem_cons_of_mem _ hr), (List.pairwise_cons.1 hp.2).2⟩)
theorem sep_macs_ro {v : Value} {e : Nat} {lk : Nat → Value} {ms : List MacD} (h : Sep X w0 w (row v e 2 ms.length (l_1 lk ms) :: L)) (hk : ∀ j, j < ms.length → RoSl w L (lk j) 3 (blkN ms j) (blkC ms j)) : Sep X w0 w (e_1 false v lk ms :: L) := by
  have h1 : Sep X w0 w (sl v 2 ms.length (l_1 lk ms) :: L) := sep_row_sl h (i := 0) rfl
  have h2 := t_6 (r := e_1 false v lk ms) h1 rfl ⟨h1.sk 0 rfl, fun j hj => (hk j hj).1⟩ (fun b hbb => by
    rcases hbb with hbb | ⟨j, hj, hbb⟩
    · exact ⟨0, _, rfl, rfl, hbb⟩
    · obtain ⟨i, s, e1, e2, e3⟩ := (hk j hj).2 b hbb; exact ⟨i + 1, s, e1, e2, e3⟩)
  have hp := List.pairwise_cons.1 h2.pw
  exact Sep.of_pw h2.ext (fun r hr => h2.mem (by rcases List.mem_cons.1 hr with rfl | hr <;> simp [*])) (fun r hr ho b hb => h2.mineM (by rcases List.mem_cons.1 hr with rfl | hr <;> simp [*]) ho b hb) (List.pairwise_cons.2 ⟨fun r hr => hp.1 r (List.mem_cons_of_mem _ hr), (List.pairwise_cons.1 hp.2).2⟩)
end
theorem getD_app2 {α : Type} {l m : List α} {d : α} {i : Nat} : (l ++ m).getD i d = if i < l.length then l.getD i d else m.getD (i - l.length) d := by
  split
  · rename_i h; simp [List.getD, List.getElem?_append_left h]
  · rename_i h; simp [List.getD, List.getElem?_append_right (by omega : l.length ≤ i)]
section
variable {lr lb lk : Nat → Value} {ts : List TabD} {ms : List MacD} {k : Nat}
theorem macs_setB {u : Value} {bl : List (Int × Int × Int)} (h : k < ms.length) : (l_1 lk ms).set (k * 2 + 1) u = l_1 (putV k lk u) (ms.set k ⟨(ms.getD k mac0).scale, bl⟩) := by
  unfold l_1
  rw [flatI_set (macC_len lk ms) h (by decide), List.length_set]
  refine n_6 fun i hi => ?_
  unfold macC putV
  by_cases e : i = k
  · subst e
    rw [if_pos rfl, if_pos rfl]; simp [List.getD, h]
  · rw [if_neg e, if_neg e]; simp [List.getD, List.getElem?_set_ne (fun e' => e e'.symm)]
end
theorem macs_len (lk : Nat → Value) (ms : List MacD) : (l_1 lk ms).length = ms.length * 2 := s_9 (macC_len lk ms) _
theorem tabs_len (lr lb : Nat → Value) (ts : List TabD) : (j_5 lr lb ts).length = ts.length * 5 := s_9 (tabC_len lr lb ts) _
section
variable {X : Nat → Prop} {w0 w : World} {L : List Res}
theorem setB_ro {i j k : Nat} {vm u : Value} {lk : Nat → Value} {ms : List MacD} {m : MacD} (h : Sep X w0 w L) (hi : L[i]? = some (e_1 false vm lk ms)) (hj : L[j]? = some (sl u 3 m.blocks.length (trips m.blocks))) (hk : k < ms.length) :
    ∀ q, q < (ms.set k m).length → RoSl w L (putV k lk u q) 3 (blkN (ms.set k m) q) (blkC (ms.set k m) q) := fun q hq => by
  rw [List.length_set] at hq
  unfold putV
  by_cases e : q = k
  · subst e
    rw [if_pos rfl, show blkN (ms.set q m) q = m.blocks.length by unfold blkN; simp [List.getD, hk], show blkC (ms.set q m) q = trips m.blocks by unfold blkC; simp [List.getD, hk]]
    exact roSl_sl h hj
  · rw [if_neg e, show blkN (ms.set k m) q = blkN ms q by unfold blkN; simp [List.getD, List.getElem?_set_ne (fun e' => e e'.symm)], show blkC (ms.set k m) q = blkC ms q by unfold blkC; simp [List.getD, List.getElem?_set_ne (fun e' => e e'.symm)]]
    exact roSl_blk h hi hq
end
section
variable {b : g_3} {l : List (Int × Int)} {k : Nat}
end
section
variable {b : g_3} {l : List (Int × Int)} {k : Nat} {bl : List (Int × Int × Int)}
end
end Go.Hard

namespace Go.Hard
open Go.RowKit Go.Eng
theorem c_seqI {r : Option Nat} {P : Program} {x y : Code} {Q : Exit → Act → World → Prop} {a : Act} {w : World} (I : Act → World → Prop) (h : WC r P x (Exit.then I Q) a w) (k : ∀ a w, I a w → WC r P y Q a w) : WC r P (.seq x y) Q a w :=
  b_6 (c_cut h fun e a w he => by cases e <;> first | exact k _ _ he | exact he)
theorem opY_int {r : Option Nat} {P : Program} {o : Oper} {a : Act} {w : World} {x y : Int} {k : IntKind} (h : OpY r P o a w (fun v' w' => v' = .int k x ∧ w' = w)) (e : x = y) : OpY r P o a w (fun v' w' => v' = .int k y ∧ w' = w) := by subst e; exact h
def withE (t : TabD) (e : Int) : TabD := { t with err := e }
section
variable {t : TabD} {e : Int} {n : Int} {s : g_1}
end
structure FinT (ts ts' : List TabD) : Prop where
  len : ts'.length = ts.length
  each : ∀ j, j < ts.length → ∃ e, 0 ≤ e ∧ e ≤ (ts.getD j tab0).err ∧ ts'.getD j tab0 = withE (ts.getD j tab0) e
theorem FinT.set {ts : List TabD} {k : Nat} {e : Int} (h : ∀ j, j < ts.length → 0 ≤ (ts.getD j tab0).err) (hk : k < ts.length) (h0 : 0 ≤ e) (h1 : e ≤ (ts.getD k tab0).err) : FinT ts (ts.set k { ts.getD k tab0 with err := e }) := by
  refine ⟨List.length_set .., fun j hj => ?_⟩
  by_cases c : j = k
  · subst c; exact ⟨e, h0, h1, by simp [List.getD, hj, withE]⟩
  · exact ⟨_, h j hj, Int.le_refl _, by simp only [List.getD, List.getElem?_set_ne (fun e' => c e'.symm)]; rfl⟩
section
variable {X : Nat → Prop} {w0 w : World} {L : List Res}
end
structure FinM (n : Int) (ms ms' : List MacD) : Prop where
  len : ms'.length = ms.length
  scale : ∀ j, (ms'.getD j mac0).scale = (ms.getD j mac0).scale
  bias : ∀ j, (d_5 (ms.getD j mac0)).1 ≤ (d_5 (ms'.getD j mac0)).1 ∧ (d_5 (ms'.getD j mac0)).2 ≤ (d_5 (ms.getD j mac0)).2
  macs : ∀ m ∈ ms', macB n m = true
  blks : ∀ m ∈ ms', m.blocks.length ≤ 5
theorem set_at {ms : List MacD} {k : Nat} {m : MacD} (hk : k < ms.length) (j : Nat) : (ms.set k m).getD j mac0 = if j = k then m else ms.getD j mac0 := by
  by_cases e : j = k
  · subst e; rw [if_pos rfl]; simp [List.getD, hk]
  · rw [if_neg e]; simp [List.getD, List.getElem?_set_ne (fun e' => e e'.symm)]
theorem FinM.set {n : Int} {ms : List MacD} {k : Nat} {bl : List (Int × Int × Int)} (h1 : ∀ m ∈ ms, macB n m = true) (h2 : ∀ m ∈ ms, m.blocks.length ≤ 5) (hk : k < ms.length) (h3 : bl.length ≤ 5) (h4 : ∀ x ∈ bl, blkB x = true)
    (h5 : (d_5 (ms.getD k mac0)).1 ≤ (d_5 ⟨(ms.getD k mac0).scale, bl⟩).1 ∧ (d_5 ⟨(ms.getD k mac0).scale, bl⟩).2 ≤ (d_5 (ms.getD k mac0)).2) : FinM n ms (ms.set k ⟨(ms.getD k mac0).scale, bl⟩) := by
  refine ⟨List.length_set .., fun j => ?_, fun j => ?_, fun m hm => ?_, fun m hm => ?_⟩
  · rw [set_at hk]; split
    · rename_i e; subst e; rfl
    · rfl
  · rw [set_at hk]; split
    · rename_i e; subst e; exact h5
    · exact ⟨Int.le_refl _, Int.le_refl _⟩
  · rcases List.mem_or_eq_of_mem_set hm with h | h
    · exact h1 m h
    · rw [h]
      have := h1 _ (t_0 (d := mac0) hk)
      unfold macB at this ⊢
      rw [Bool.and_eq_true] at this ⊢
      exact ⟨this.1, (u_9 (p := blkB) (d := (0, 0, 0))).2 h4⟩
  · rcases List.mem_or_eq_of_mem_set hm with h | h
    · exact h2 m h
    · rw [h]; exact h3
def finB (b : g_3) (ts : List TabD) (ms : List MacD) : g_3 := ⟨b.scales, ts, ms⟩
section
variable {b b2 : g_3} {l l2 : List (Int × Int)} {ts : List TabD} {ms : List MacD}
theorem less_none (hr : h_8 b l = 0) (h2 : h_8 b2 l2 = 0 ∨ h_8 b2 l2 = 11) (hn : b2.scales = b.scales) (h : ∀ s, (∀ t ∈ b2.tabs, m_9 t s) → (∀ x ∈ l2, InR b2 s x) → (∀ t ∈ b.tabs, m_9 t s) ∧ ∀ x ∈ l, InR b s x) (hs : k_4 b l = none) : h_8 b2 l2 = 11 ∨ (h_8 b2 l2 = 0 ∧ k_4 b2 l2 = none) := by
  rcases h2 with h2 | h2
  · refine .inr ⟨h2, ?_⟩
    rcases spans_less (t_3 hr).1 (t_3 hr).2 (t_3 h2).1 (t_3 h2).2 hn (fun s _ _ h3 h4 => h s h3 h4) with h5 | ⟨s, s', h5, _⟩
    · exact h5
    · rw [hs] at h5; cases h5
  · exact .inl h2
theorem less_some {t : g_1} (hr : h_8 b l = 0) (h2 : h_8 b2 l2 = 0 ∨ h_8 b2 l2 = 11) (hn : b2.scales = b.scales) (h : ∀ s, (∀ t ∈ b2.tabs, m_9 t s) → (∀ x ∈ l2, InR b2 s x) → (∀ t ∈ b.tabs, m_9 t s) ∧ ∀ x ∈ l, InR b s x) (hs : k_4 b l = some t) :
    h_8 b2 l2 = 11 ∨ (h_8 b2 l2 = 0 ∧ k_4 b2 l2 = none) ∨ ∃ t', h_8 b2 l2 = 0 ∧ k_4 b2 l2 = some t' ∧ narB t' 0 t 0 = true ∧ t'.length ≤ 4 := by
  rcases h2 with h2 | h2
  · rcases spans_less (t_3 hr).1 (t_3 hr).2 (t_3 h2).1 (t_3 h2).2 hn (fun s _ _ h3 h4 => h s h3 h4) with h5 | ⟨s, s', h5, h6, h7, h8, h9⟩
    · exact .inr (.inl ⟨h2, h5⟩)
    · rw [hs] at h5
      obtain rfl := Option.some.inj h5
      exact .inr (.inr ⟨s', h2, h6, nar_less h7 h9, h8⟩)
  · exact .inl h2
theorem nar_err {s : g_1} {e f : Int} (h : e = 9 ∨ e = 11) : narB [] e s f = true := by
  rw [nar_a (by rcases h with h | h <;> rw [h] <;> decide) h]; rfl
theorem InR_less (hsc : ∀ j, (b2.macs.getD j mac0).scale = (b.macs.getD j mac0).scale) (hbi : ∀ j, (d_5 (b.macs.getD j mac0)).1 ≤ (d_5 (b2.macs.getD j mac0)).1 ∧ (d_5 (b2.macs.getD j mac0)).2 ≤ (d_5 (b.macs.getD j mac0)).2) {s : g_1} {x : Int × Int} (h : InR b2 s x) : InR b s x := by
  unfold InR at h ⊢
  rw [hsc] at h
  have := hbi x.1.toNat
  omega
end
end Go.Hard

namespace Go.Hard
open Go.RowKit Go.Eng
def MoreI (b : g_3) (l ox : List (Int × Int)) (tsx : List TabD) (msx : List MacD) : Prop :=
  (tsx = b.tabs ∧ msx = b.macs ∧ ∃ r, ox = l ++ [r]) ∨ (ox = l ∧ tsx = b.tabs ∧ ∃ k x, k < b.macs.length ∧ msx = b.macs.set k ⟨(b.macs.getD k mac0).scale, (b.macs.getD k mac0).blocks ++ [x]⟩) ∨ (ox = l ∧ msx = b.macs ∧ ∃ t, tsx = b.tabs ++ [t])
section
variable {b : g_3} {l ox : List (Int × Int)} {tsx : List TabD} {msx : List MacD}
theorem more_len (h : MoreI b l ox tsx msx) : ox.length ≤ l.length + 1 := by
  rcases h with ⟨_, _, _, rfl⟩ | ⟨rfl, _⟩ | ⟨rfl, _⟩ <;> simp
theorem more_less (hm : MoreI b l ox tsx msx) (s : g_1) (h1 : ∀ t ∈ (finB b tsx msx).tabs, m_9 t s) (h2 : ∀ x ∈ ox, InR (finB b tsx msx) s x) : (∀ t ∈ b.tabs, m_9 t s) ∧ ∀ x ∈ l, InR b s x := by
  rcases hm with ⟨rfl, rfl, r, rfl⟩ | ⟨rfl, rfl, k, x, hk, rfl⟩ | ⟨rfl, rfl, t, rfl⟩
  · exact ⟨h1, fun x hx => h2 x (List.mem_append_left _ hx)⟩
  · refine ⟨h1, fun y hy => InR_less (fun j => ?_) (fun j => ?_) (h2 y hy)⟩
    · show ((b.macs.set k _).getD j mac0).scale = _
      rw [set_at hk]; split
      · rename_i e; subst e; rfl
      · rfl
    · show _ ≤ (d_5 ((b.macs.set k _).getD j mac0)).1 ∧ (d_5 ((b.macs.set k _).getD j mac0)).2 ≤ _
      rw [set_at hk]; split
      · rename_i e; subst e
        exact bias_narrow fun y hy => ⟨y, List.mem_append_left _ hy, Int.le_refl _, Int.le_refl _⟩
      · exact ⟨Int.le_refl _, Int.le_refl _⟩
  · exact ⟨fun t ht => h1 t (List.mem_append_left _ ht), h2⟩
theorem more_read (hc : f_1 b = 0) (h8 : l.length ≤ 8) (h2 : h_8 b l ≠ 2) : h_8 b l = 0 ∨ h_8 b l = 11 := by
  unfold h_8 at h2 ⊢
  rw [if_neg (by rw [hc]; decide), if_neg (by omega)] at h2 ⊢
  split at h2
  · exact absurd rfl h2
  · rename_i h3
    rw [if_neg h3]
    split
    · exact .inr rfl
    · exact .inl rfl
theorem tabs_one1 {tb : TabD} {vr vb : Value} (h1 : vr.oneCell' = true) (h2 : vb.oneCell' = true) : ([Value.int .i64 tb.frm, .int .i64 tb.dst, vr, vb, .int .i64 tb.err] : List Value).all (·.oneCell') = true := by
  simp only [List.all_cons, List.all_nil, h1, h2]; rfl
variable {X : Nat → Prop} {w0 w : World} {L : List Res}
theorem snoc_ro {i j k : Nat} {vt : Value} {lr lb : Nat → Value} {ts : List TabD} {tb : TabD} {vr vb : Value} (h : Sep X w0 w L) (hi : L[i]? = some (d_9 false vt lr lb ts)) (hj : L[j]? = some (sl vr 2 tb.rows.length (pairs tb.rows))) (hk : L[k]? = some (sl vb 1 tb.brk.length (ints tb.brk))) :
    (∀ q, q < (ts ++ [tb]).length → RoSl w L (putV ts.length lr vr q) 2 (j_9 (ts ++ [tb]) q) (j_8 (ts ++ [tb]) q)) ∧ ∀ q, q < (ts ++ [tb]).length → RoSl w L (putV ts.length lb vb q) 1 (brkN (ts ++ [tb]) q) (brkC (ts ++ [tb]) q) := by
  have e1 : ∀ q, q < ts.length → (ts ++ [tb]).getD q tab0 = ts.getD q tab0 := fun q hq => by rw [getD_app2, if_pos hq]
  have e2 : (ts ++ [tb]).getD ts.length tab0 = tb := by rw [getD_app2, if_neg (by omega), Nat.sub_self]; rfl
  constructor <;> intro q hq <;> rw [List.length_append, List.length_singleton] at hq <;> by_cases c : q < ts.length
  · rw [show j_9 (ts ++ [tb]) q = j_9 ts q by unfold j_9; rw [e1 q c], show j_8 (ts ++ [tb]) q = j_8 ts q by unfold j_8; rw [e1 q c], show putV ts.length lr vr q = lr q by unfold putV; rw [if_neg (by omega)]]
    exact roSl_row h hi c
  · obtain rfl : q = ts.length := by omega
    rw [show j_9 (ts ++ [tb]) ts.length = tb.rows.length by unfold j_9; rw [e2], show j_8 (ts ++ [tb]) ts.length = pairs tb.rows by unfold j_8; rw [e2], r_8]
    exact roSl_sl h hj
  · rw [show brkN (ts ++ [tb]) q = brkN ts q by unfold brkN; rw [e1 q c], show brkC (ts ++ [tb]) q = brkC ts q by unfold brkC; rw [e1 q c], show putV ts.length lb vb q = lb q by unfold putV; rw [if_neg (by omega)]]
    exact roSl_brk h hi c
  · obtain rfl : q = ts.length := by omega
    rw [show brkN (ts ++ [tb]) ts.length = tb.brk.length by unfold brkN; rw [e2], show brkC (ts ++ [tb]) ts.length = ints tb.brk by unfold brkC; rw [e2], r_8]
    exact roSl_sl h hk
end
end Go.Hard
