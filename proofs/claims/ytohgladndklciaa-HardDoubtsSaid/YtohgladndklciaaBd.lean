/-
  Books built in memory: slices of slices, one more; tables and machines as one thing.
  The chapter's book and what it shows; decided by the kernel.
  What the laws ask first: may a book be played; narrower spans. What HardAllows says.
  Values that fit a book: told by all their tests at once.
  The doubtful readings: lists of numbers by size, readings but some, the first list without which the others fit.
-/
import Derived.Test.YtohgladndklciaaBc
import Derived.Test.YtohgladndklciaaEnga
set_option linter.unusedSimpArgs false
set_option linter.unusedVariables false
namespace Go.Proofs.Ytohgladndklciaa
open Go.RowKit Go.Shelf Go.Eng Go.Hard
theorem en_56 : ∀ args w, (callFunc 56 args).run Try.prog w = .ok (.enter 56 args) w := enters_of Try.func56 (by kernel_rfl) rfl
theorem en_57 : ∀ args w, (callFunc 57 args).run Try.prog w = .ok (.enter 57 args) w := enters_of Try.func57 (by kernel_rfl) rfl
theorem en_58 : ∀ args w, (callFunc 58 args).run Try.prog w = .ok (.enter 58 args) w := enters_of Try.func58 (by kernel_rfl) rfl
theorem Spans_ok (b : h_7) (vt vm : Value) (lr lb lk : Nat → Value) (w : World) (hT : j_1 w vt lr lb b.tabs) (hM : k_0 w vm lk b.macs) (hth : n_5 b) (l : List (Int × Int)) (xl : Value) (hxl : SlAt w xl 2 l.length (pairs l)) (hlb : l.length ≤ 1000000) (t : h_3) (hr : k_9 b l = 0) (hs : k_5 b l = some t) :
  Calls Try.prog 25 #[(Value.agg #[(iv b.scales), vt, vm]), xl] w (Ret fun v w' => ∃ u, v = .tuple #[u, .int .i64 0] ∧ Sep NoB w w' [row u 30 2 t.length (pairs t)]) := by
 refine a_8 Try.func25 rfl fun a0 J => ?_
 replace J : Fr 31 [] [(0, (Value.agg #[(iv b.scales), vt, vm])), (1, xl)] a0 := J
 have hc : g_4 b = 0 := read_check hr; have hbl := read_ok hr; have hb := hbl.1; have hl := hbl.2; have hll := hl.len; have hsc := hb.scales
 have AA : Sep NoB w w [(d_3 false vt lr lb b.tabs), (d_9 false vm lk b.macs), (sl xl 2 l.length (pairs l))] := f_2 ⟨rfl, hT, rfl, hM, rfl, hxl, trivial⟩
 refine m2 (s2 J (f_4 AA rfl J.e (cs := [(iv b.scales), vt, vm]) rfl) ?_)
 rintro a1 _ w3 ⟨b4, rfl, B⟩ y; clear J AA a0
 refine s1 y (a_0 rfl (evc _ _)) fun a6 z => ?_; clear y a1
 refine s1 z (a_0 rfl (evc _ _)) fun a8 m => ?_; clear z a6
 refine n4 (s1 m (c_5 rfl w_2 (m.ev rfl) (B.bk 0 rfl) (l := [(iv b.scales), vt, vm]) rfl rfl) fun AE L => ?_); clear m a8
 refine s1 L (a_1 rfl L.e) fun AF C => ?_; clear L AE
 refine s2 C (b_3 rfl en_56 (ev2 C.e C.e) (read_yes b vt vm lr lb lk _ (c_1 (B.ok 1 _ rfl)) (c_8 (B.ok 2 _ rfl)) hth l _ (B.sk 3 rfl) (by omega) hc hr)) ?_
 rintro AG _ Al ⟨bx19, bm20, es21, ck22, rfl, hMO23, x⟩ M; have A := B.aa_5 x rfl; clear x C B AF
 refine s1 M (a_1 rfl M.e) fun AH N => ?_; clear M AG
 refine s1 N (e_9 rfl N.e rfl) fun AI O => ?_; clear N AH
 refine s1 O (e_9 rfl O.e rfl) fun AJ P => ?_; clear O AI
 refine s1 P (a_0 rfl P.e) fun AK Q => ?_; clear P AJ
 refine s1 Q (a_0 rfl Q.e) fun AL g => ?_; clear Q AK
 refine n2 (b_5 ?_)
 have R := g.as [(7, (iv 0)), (6, (bptr bx19 0)), (2, (bptr b4 0)), (1, xl)] rfl; clear g
 refine a_5 (s1 R (a_1 rfl R.e) fun AM S => ?_); clear R AL
 refine s1 S (u_1 rfl S.e (evc _ _)) fun AN D => ?_; clear S AM
 refine n1 (b_4 D rfl (c_6 (a_7 (m2 (s1 D (a_1 rfl D.e) fun AO T => ?_))))); clear D AN
 refine s1 T (a_1 rfl T.e) fun AP E => ?_; clear T AO
 refine s2 E (b_3 rfl en_57 (ev2 E.e E.e) (spansb_ok b vt vm lr lb lk _ (c_1 (A.ok 3 _ rfl)) (c_8 (A.ok 4 _ rfl)) hth bx19 bm20 _ _ (by assumption) (A.bk 0 rfl) (mapX_ro (A.ok 1 _ rfl)) hb l _ (A.sk 5 rfl) hl)) ?_
 rintro AQ _ Am ⟨K, Ai, rfl, htk48, o⟩ U; have q := A.step o; clear o E A AP
 refine s1 U (a_1 rfl U.e) fun AR V => ?_; clear U AQ
 refine s1 V (e_9 rfl V.e rfl) fun AS W => ?_; clear V AR
 refine s1 W (e_9 rfl W.e rfl) fun AT X => ?_; clear W AS
 have AC : ((k_5 b l).isSome) = true := (by rw [hs]; rfl)
 rw [AC] at X
 refine s2 X (e_0 q rfl ze_120 (cs := [(iv 0), (iv 0), (iv 0), (iv 0), (iv 0), (iv 0), (iv 0), (iv 0)]) rfl) ?_
 rintro AU _ An ⟨Ae, rfl, r⟩ F; clear X q AT
 refine s7 F (c_0 r rfl m_1 F.e F.e (i := 0) rfl (vs := (pairs K)) rfl (show (pairs K).length = 8 from by simp only [b_2, List.length_set]; omega) (l_9 _) (by decide)) ?_
 intro _ Ao s Y; have I := s.p_3 (i := 0) rfl (cs' := (pairs K)) (k_7 _ _ (Eq.symm (show (pairs K).length = 8 from by simp only [b_2, List.length_set]; omega))); clear s F r
 refine s1 Y (a_0 rfl Y.e) fun AV j => ?_; clear Y AU
 refine n2 (b_5 ?_)
 have Z := j.as [(9, (Value.bool true)), (8, (bptr Ae 0)), (2, (bptr b4 0))] rfl; clear j
 refine a_5 (s1 Z (a_1 rfl Z.e) fun AW a => ?_); clear Z AV
 refine s1 a (g_0 rfl a.e) fun AX G => ?_; clear a AW
 refine n1 (b_4 G rfl (c_6 (a_7 (m2 (s1 G (a_4 rfl fd_37_0 G.e) fun AY c => ?_))))); clear G AX
 refine s1 c (a_3 rfl ty_3 c.e (I.bk 3 rfl) rfl) fun AZ H => ?_; clear c AY
 refine s1 H (op_sliceArr rfl aa_1 h_5 H.e (h := b.scales.toNat) (H.e.trans (h_4 (by omega))) (by omega)) fun Aa d => ?_; clear H AZ
 refine s2 d (b_3 rfl en_58 (ev1 d.e) (clone_rng (K.take b.scales.toNat) _ _ ((SlAt.of_blkCut (I.bk 0 rfl) (by rw [b_2]; omega) (by omega) (by decide)).say (by rw [List.length_take]; omega) (pairs_takeH _ _)) (by rw [List.length_take]; omega))) ?_
 rintro Ab Ak Ap ⟨p, hO84⟩ f; have AB := I.x_8 p hO84; clear p hO84 d I Aa
 refine s1 f (a_0 rfl f.e) fun Ac k => ?_; clear f Ab
 refine s1 k (a_0 rfl (evc _ _)) fun Aj n => ?_; clear k Ac
 refine n1 (c_4 (a_9 n (.inl rfl) (d_2 n rfl (.tmp rfl) (.tmp rfl)) ?_))
 have hz := AB.keep [0] (by decide) [_] rfl rfl
 rw [htk48 _ hs] at hz
 exact ⟨_, rfl, hz⟩
end Go.Proofs.Ytohgladndklciaa

namespace Go.Hard
open Go.RowKit Go.Eng
section
variable {X : Nat → Prop} {w0 w : World} {L : List Res}
theorem r_9 (h : Sep X w0 w L) (v : Nat → Value) (sz : Nat) (k : Nat → Nat) (c : Nat → List Value) : Sep X w0 w (slsR true 0 v sz k c :: L) :=
  h.push (Ext.refl _ _) (fun i hi => absurd hi (Nat.not_lt_zero _)) (fun b hb => by obtain ⟨i, hi, _⟩ := hb; exact absurd hi (Nat.not_lt_zero _))
theorem l_4 {u : Value} {e sz m n : Nat} {xs : List Value} {v : Nat → Value} {k k' : Nat → Nat} {c c' : Nat → List Value} (h : Sep X w0 w (row u e sz m xs :: slsR true n v sz k c :: L)) (hk : k' n = m) (hc : c' n = xs) (hold : ∀ i, i < n → k' i = k i ∧ c' i = c i) :
    Sep X w0 w (slsR true (n + 1) (putV n v u) sz k' c' :: L) := by
  have h0 := h.e_4 0 rfl
  have h1 := h.ok 1 _ rfl
  refine h.join (t := slsR true (n + 1) (putV n v u) sz k' c') (fun i hi => ?_) (fun b hb => ?_) (fun _ => ⟨rfl, rfl⟩) (fun _ => trivial)
  · rcases Nat.lt_succ_iff_lt_or_eq.1 hi with hi | rfl
    · rw [z_5 _ _ hi, (hold i hi).1, (hold i hi).2]; exact h1 i hi
    · rw [z_4, hk, hc]; exact SlAt.d_6 h0
  · obtain ⟨i, hi, hb⟩ := hb
    rcases Nat.lt_succ_iff_lt_or_eq.1 hi with hi | rfl
    · rw [z_5 _ _ hi, (hold i hi).2] at hb; exact .inr ⟨i, hi, hb⟩
    · rw [z_4, hc] at hb; exact .inl (v_1 hb)
theorem sep_sls_say {i : Nat} {o : Bool} {sz n n' : Nat} {v v' : Nat → Value} {k k' : Nat → Nat} {c c' : Nat → List Value} (h : Sep X w0 w L) (hi : L[i]? = some (slsR o n v sz k c)) (hn : n = n') (he : ∀ i, i < n → v' i = v i ∧ k' i = k i ∧ c' i = c i) : Sep X w0 w (L.set i (slsR o n' v' sz k' c')) := by
  subst hn
  have h1 := h.ok i _ hi
  refine h.say hi (fun q hq => ?_) (fun b hb => ?_) (fun ho => ho)
  · rw [(he q hq).1, (he q hq).2.1, (he q hq).2.2]; exact h1 q hq
  · obtain ⟨q, hq, hb⟩ := hb
    rw [(he q hq).1, (he q hq).2.2] at hb; exact ⟨q, hq, hb⟩
theorem sep_tabs_join {vt : Value} {lr lb : Nat → Value} {ts : List TabD} (h : Sep X w0 w (row vt 106 5 ts.length (o_6 lr lb ts) :: slsR true ts.length lr 2 (n_1 ts) (n_0 ts) :: slsR true ts.length lb 1 (brkN ts) (brkC ts) :: L)) : Sep X w0 w (d_3 true vt lr lb ts :: L) := by
  have h0 := h.e_4 0 rfl
  have hp := h.pw
  have ap := List.pairwise_cons.1 hp
  -- the row and both together
  refine Sep.of_pw h.ext (fun r hr => ?_) (fun r hr ho b hb => ?_) (List.pairwise_cons.2 ⟨fun r hr => ?_, (List.pairwise_cons.1 (List.pairwise_cons.1 ap.2).2).2⟩)
  · rcases List.mem_cons.1 hr with rfl | hr
    · exact ⟨SlAt.d_6 h0, h.ok 1 _ rfl, h.ok 2 _ rfl⟩
    · exact h.mem (List.mem_cons_of_mem _ (List.mem_cons_of_mem _ (List.mem_cons_of_mem _ hr)))
  · rcases List.mem_cons.1 hr with rfl | hr
    · rcases hb with hb | hb | hb
      · exact h.mine 0 _ rfl rfl b (v_1 hb)
      · exact h.mine 1 _ rfl rfl b hb
      · exact h.mine 2 _ rfl rfl b hb
    · exact h.mineM (List.mem_cons_of_mem _ (List.mem_cons_of_mem _ (List.mem_cons_of_mem _ hr))) ho b hb
  · have a0 := ap.1 r (List.mem_cons_of_mem _ (List.mem_cons_of_mem _ hr))
    have a1 := (List.pairwise_cons.1 ap.2).1 r (List.mem_cons_of_mem _ hr)
    have a2 := (List.pairwise_cons.1 (List.pairwise_cons.1 ap.2).2).1 r hr
    refine ⟨fun _ b hb => ?_, fun ho b hb hb' => ?_⟩
    · rcases hb with hb | hb | hb
      · exact a0.1 rfl b (v_1 hb)
      · exact a1.1 rfl b hb
      · exact a2.1 rfl b hb
    · rcases hb' with hb' | hb' | hb'
      · exact a0.2 ho b hb (v_1 hb')
      · exact a1.2 ho b hb hb'
      · exact a2.2 ho b hb hb'
theorem sep_macs_join {vm : Value} {lk : Nat → Value} {ms : List MacD} (h : Sep X w0 w (row vm 103 2 ms.length (q_4 lk ms) :: slsR true ms.length lk 3 (blkN ms) (blkC ms) :: L)) : Sep X w0 w (d_9 true vm lk ms :: L) := by
  have h0 := h.e_4 0 rfl
  refine h.join (t := d_9 true vm lk ms) ⟨SlAt.d_6 h0, h.ok 1 _ rfl⟩ (fun b hb => ?_) (fun _ => ⟨rfl, rfl⟩) (fun _ => trivial)
  rcases hb with hb | hb
  · exact .inl (v_1 hb)
  · exact .inr hb
theorem sep_row_sl {i : Nat} {v : Value} {e sz n : Nat} {xs : List Value} (h : Sep X w0 w L) (hi : L[i]? = some (row v e sz n xs)) : Sep X w0 w (L.set i (sl v sz n xs)) :=
  h.say hi (SlAt.d_6 (h.e_4 i hi)) (fun _ hb => v_1 hb) (fun e => by cases e)
end
theorem s_9 {α : Type} {l : List α} {d : α} {k : Nat} (h : k < l.length) : l.take k ++ [l.getD k d] = l.take (k + 1) := by
  rw [List.take_add_one, List.getElem?_eq_getElem h, List.getD, List.getElem?_eq_getElem h]; rfl
section
variable {ts : List TabD} {ms : List MacD} {k : Nat}
theorem take_at {α : Type} {l : List α} {d : α} {k i : Nat} (hk : i < k) : (l.take k).getD i d = l.getD i d := by
  simp [List.getD, List.getElem?_take, hk]
theorem rowsN_new (h : k < ts.length) : n_1 (ts.take (k + 1)) (ts.take k).length = (ts.getD k tab0).rows.length ∧ n_0 (ts.take (k + 1)) (ts.take k).length = pairs (ts.getD k tab0).rows ∧ brkN (ts.take (k + 1)) (ts.take k).length = (ts.getD k tab0).brk.length ∧ brkC (ts.take (k + 1)) (ts.take k).length = ints (ts.getD k tab0).brk := by
  rw [List.length_take, Nat.min_eq_left (by omega)]
  unfold n_1 n_0 brkN brkC
  rw [take_at (Nat.lt_succ_self k)]
  exact ⟨rfl, rfl, rfl, rfl⟩
theorem rowsN_old (i : Nat) (hi : i < (ts.take k).length) : (n_1 (ts.take (k + 1)) i = n_1 (ts.take k) i ∧ n_0 (ts.take (k + 1)) i = n_0 (ts.take k) i) ∧ brkN (ts.take (k + 1)) i = brkN (ts.take k) i ∧ brkC (ts.take (k + 1)) i = brkC (ts.take k) i := by
  have hk : i < k := by rw [List.length_take] at hi; omega
  unfold n_1 n_0 brkN brkC
  rw [take_at (show i < k + 1 by omega), take_at hk]
  exact ⟨⟨rfl, rfl⟩, rfl, rfl⟩
theorem blkN_new (h : k < ms.length) : blkN (ms.take (k + 1)) (ms.take k).length = (ms.getD k mac0).blocks.length ∧ blkC (ms.take (k + 1)) (ms.take k).length = trips (ms.getD k mac0).blocks := by
  rw [List.length_take, Nat.min_eq_left (by omega)]
  unfold blkN blkC
  rw [take_at (Nat.lt_succ_self k)]
  exact ⟨rfl, rfl⟩
theorem blkN_old (i : Nat) (hi : i < (ms.take k).length) : blkN (ms.take (k + 1)) i = blkN (ms.take k) i ∧ blkC (ms.take (k + 1)) i = blkC (ms.take k) i := by
  have hk : i < k := by rw [List.length_take] at hi; omega
  unfold blkN blkC
  rw [take_at (show i < k + 1 by omega), take_at hk]
  exact ⟨rfl, rfl⟩
theorem take_len1 {α : Type} {l : List α} (h : k < l.length) : (l.take k).length + 1 = (l.take (k + 1)).length := by simp only [List.length_take]; omega
end
end Go.Hard

namespace Go.Proofs.Ytohgladndklciaa
open Go.RowKit Go.Shelf Go.Eng Go.Hard
theorem bd_98_0i_1i (x0_0 : Int) (x1_0 : Int) (w : World) : (Instr.build 98 #[(0, (.int .i64 x0_0)), (1, (.int .i64 x1_0))]).run Try.prog w = .ok (.agg #[(.int .i64 x0_0), (.int .i64 x1_0)]) w := by kernel_rfl
theorem t_1 (x0_0 : Int) (x0_1 : Int) : Instr.fill (fun i => some (i * 2, 2)) ((Array.range (1 * 2)).map ((Value.agg #[(iv 0), (iv 0)]).cells[· % (Value.agg #[(iv 0), (iv 0)]).cells.size]!)) [(0, .agg #[(.int .i64 x0_0), (.int .i64 x0_1)])] = some (([(.int .i64 x0_0), (.int .i64 x0_1)] : List Value).toArray) := by kernel_rfl
theorem list_ok (l : List Int) (xl : Value) (w : World) (hxl : SlAt w xl 1 l.length (ints l)) (hlen : l.length ≤ 1000000) :
  Calls Try.prog 40 #[xl] w (Ret fun v w' => Ext NoB w w' ∧ w'.ownsRow w.heap.size 3 1 v l.length (ints l)) := by
 refine a_8 Try.func40 rfl fun J A => ?_
 replace A : Fr 5 [] [(0, xl)] J := A
 have I : Sep NoB w w [(sl xl 1 l.length (ints l))] := f_2 ⟨rfl, hxl, trivial⟩
 refine m2 (s1 A (a_0 rfl (evc _ _)) fun K C => ?_); clear A J
 refine n4 (s1 C (a_1 rfl C.e) fun L D => ?_); clear C K
 have H := I.p_4 3 1; clear I
 refine s2 D (j_9 H rfl j_3 el_3 (evc _ _) D.e (i := 0) rfl (H.sk 1 rfl) (ints_one _) (by simp only [maxLen]; omega) (by omega)) ?_
 intro M O P F E
 have G := F.f_6 (i := 0) rfl (n' := l.length) (xs' := (ints l)) (by simp) (by simp); clear F D H L
 refine s1 E (a_0 rfl E.e) fun N B => ?_; clear E M
 exact n1 (c_4 (a_9 B (.inl rfl) (a_2 B rfl (.tmp rfl)) (⟨G.ext, G.row_new (i := 0) rfl⟩)))
theorem Readings_ok (l : List (Int × Int)) (xl : Value) (w : World) (hxl : SlAt w xl 2 l.length (pairs l)) (AK : l.length ≤ 12) :
  Calls Try.prog 26 #[xl] w (Ret fun v w' => Ext NoB w w' ∧ w'.ownsRow w.heap.size 98 2 v l.length (pairs l)) := by
 refine a_8 Try.func26 rfl fun s S => ?_
 replace S : Fr 26 [] [(0, xl)] s := S
 have o : Sep NoB w w [(sl xl 2 l.length (pairs l))] := f_2 ⟨rfl, hxl, trivial⟩
 refine m2 (s1 S (a_0 rfl (evc _ _)) fun a1 h => ?_); clear S s
 refine n4 (s1 h (a_0 rfl (evc _ _)) fun a3 j => ?_); clear h a1
 have p := o.p_4 98 2; clear o
 refine n2 (m2 (s1 j (a_0 rfl (evc _ _)) fun a6 m => ?_)); clear j a3
 refine n1 (c_2 ?_)
 have n := m.as [(4, (iv 0)), (3, (Value.slice none 0 0)), (0, xl)] rfl; clear m
 refine g_7 (G := Nat) (fun (k : Nat) a_ w_ => ∃ v3_ : Value, Fr 26 [] [(4, (iv (k : Int))), (3, v3_), (0, xl)] a_ ∧ Sep NoB w w_ [(row v3_ 98 2 ((l.take k).length) (pairs (l.take k))), (sl xl 2 l.length (pairs l))] ∧ (k ≤ l.length)) (fun k => l.length - k) 0 ⟨(Value.slice none 0 0), n.as _ rfl, (p.f_6 (i := 0) rfl (by rfl) (by rfl)), by omega⟩ ?_
 clear n p a6
 rintro k a9 AN ⟨v3_, H, F, hkk⟩
 have hlt_ : (l.take k).length ≤ 12 := by simp only [List.length_take]; omega
 refine b_5 (m2 (s1 H (a_1 rfl H.e) fun t I => ?_)); clear H a9
 refine s1 I (a_1 rfl I.e) fun u J => ?_; clear I t
 refine s1 J (c_9 rfl u_8 J.e (F.sk 1 rfl)) fun x D => ?_; clear J u
 refine s1 D (f_5 rfl D.e D.e) fun y C => ?_; clear D x
 refine n1 ?_
 by_cases c : (k : Int) < (l.length : Int)
 ·skip
  rw [decide_eq_true c] at C
  refine b_7 C rfl (c_6 (a_7 (b_5 (c_2 ?_))))
  have V := C.as [(4, (iv (k : Int))), (3, v3_), (0, xl)] rfl; clear C
  refine x_4 mixed V F 13 [[], [], [], [1, 2], [3], [4], [], [], [6, 7], [8], [9], [5, 10], [11]] [(yw v3_), (yw xl), (yw (iv (k : Int))), (yw (eptr xl (k * 2))), (yw (eptr xl (k * 2 + 0))), (yw (iv ((l.getD k (0, 0)).1))), (yw xl), (yw (iv (k : Int))), (yw (eptr xl (k * 2))), (yw (eptr xl (k * 2 + 1))), (yw (iv ((l.getD k (0, 0)).2))), (yw (Value.agg #[(iv ((l.getD k (0, 0)).1)), (iv ((l.getD k (0, 0)).2))])), (fun (A : Nat → Value) (v_ : Value) (rs_ : List Res) => True ∧ rs_ = [(row v_ 98 2 1 [(iv ((l.getD k (0, 0)).1)), (iv ((l.getD k (0, 0)).2))])])] (by decide +kernel) (by decide +kernel) rfl rfl ⟨dw, dw, dw, dw, dw, dw, dw, dw, dw, dw, dw, dw, (fun _ _ _ _ _ h_ => h_), trivial⟩ ?_ ?_
  ·skip
   refine ⟨fun a w A hA hS hd => gv1 (a_1 rfl hA.e), ?_⟩
   refine ⟨fun a w A hA hS hd => gv1 (a_1 rfl hA.e), ?_⟩
   refine ⟨fun a w A hA hS hd => gv1 (a_1 rfl hA.e), ?_⟩
   refine ⟨fun a w A hA hS hd => gv1 (b_0 rfl u_8 ad_5 (gu hd 1) (i := k) (gu hd 2) (hS.sk 1 rfl) (by decide) (by omega)), ?_⟩
   refine ⟨fun a w A hA hS hd => gv1 (d_1 rfl fd_67_0 (gu hd 3) (hS.sk 1 rfl) (by rw [((hS.sk 1 rfl)).1]; omega)), ?_⟩
   refine ⟨fun a w A hA hS hd => gv1 (b_9 rfl ty_3 (gu hd 4) (hS.sk 1 rfl) (f_8 (by omega))), ?_⟩
   refine ⟨fun a w A hA hS hd => gv1 (a_1 rfl hA.e), ?_⟩
   refine ⟨fun a w A hA hS hd => gv1 (a_1 rfl hA.e), ?_⟩
   refine ⟨fun a w A hA hS hd => gv1 (b_0 rfl u_8 ad_5 (gu hd 6) (i := k) (gu hd 7) (hS.sk 1 rfl) (by decide) (by omega)), ?_⟩
   refine ⟨fun a w A hA hS hd => gv1 (d_1 rfl fd_67_1 (gu hd 8) (hS.sk 1 rfl) (by rw [((hS.sk 1 rfl)).1]; omega)), ?_⟩
   refine ⟨fun a w A hA hS hd => gv1 (b_9 rfl ty_3 (gu hd 9) (hS.sk 1 rfl) (h_6 (by omega))), ?_⟩
   refine ⟨fun a w A hA hS hd => gv1 (e_8 rfl (pv2 (gu hd 5) (gu hd 10)) (bd_98_0i_1i _ _)), ?_⟩
   refine ⟨fun a w A hA hS hd => d_4 rfl (vblt rfl (pv1 (gu hd 11)) p_9 aa_7 ze_98 (by decide) (cs := [(iv ((l.getD k (0, 0)).1)), (iv ((l.getD k (0, 0)).2))]) (t_1 _ _) rfl (by decide) (fun _ => And.intro trivial rfl)), ?_⟩
   trivial
  intro g AF A rsf29 W B Q; clear V F
  obtain ⟨U, f⟩ := B 12 (by decide)
  obtain ⟨d, T⟩ := f
  have R : Sep NoB w AF [(row (A 12) 98 2 1 [(iv ((l.getD k (0, 0)).1)), (iv ((l.getD k (0, 0)).2))]), (row v3_ 98 2 ((l.take k).length) (pairs (l.take k))), (sl xl 2 l.length (pairs l))] := by rw [show catR rsf29 0 13 = ([(row (A 12) 98 2 1 [(iv ((l.getD k (0, 0)).1)), (iv ((l.getD k (0, 0)).2))])] : List Res) by (try simp only [catR, gr (B 0 (by decide)), gr (B 1 (by decide)), gr (B 2 (by decide)), gr (B 3 (by decide)), gr (B 4 (by decide)), gr (B 5 (by decide)), gr (B 6 (by decide)), gr (B 7 (by decide)), gr (B 8 (by decide)), gr (B 9 (by decide)), gr (B 10 (by decide)), gr (B 11 (by decide)), T]); (try rfl)] at Q; exact Q
  have X := W.add (gs (B 0 (by decide))); clear W
  have E : Fr 26 [] [(23, (A 12)), (11, v3_), (4, (iv (k : Int))), (3, v3_), (0, xl)] g := X.add (h_2 U rfl); clear X
  clear B Q U
  clear T
  clear d
  refine s2 E (j_9 R rfl p_9 el_98 E.e E.e (i := 1) rfl (SlAt.d_6 (R.e_4 0 rfl)) rfl (by simp only [maxLen]; omega) (by omega)) ?_
  intro z AE AO Z K
  have b := Z.f_6 (i := 1) rfl (n' := ((l.take k) ++ [l.getD k (0, 0)]).length) (xs' := (pairs ((l.take k) ++ [l.getD k (0, 0)]))) (by simp) (by simp [pairs]); clear Z E R g
  refine s1 K (a_0 rfl K.e) fun AA L => ?_; clear K z
  refine e_2 (g_6 (a_7 (a_5 (s1 L (a_1 rfl L.e) fun AB M => ?_)))); clear L AA
  refine s1 M (f_0 rfl M.e (evc _ _) (by omega) (by omega)) fun AC N => ?_; clear M AB
  refine s1 N (a_0 rfl N.e) fun AL q => ?_; clear N AC
  refine e_2 ?_
  have r := b.gkp (gpc 1 (gpc 2 gpn)); clear b
  exact a_7 ⟨k + 1, ⟨AE, q.as _ rfl, (r.f_6 (i := 0) rfl (by rw [s_9 (by omega)]) (by rw [s_9 (by omega)])), by omega⟩, by omega⟩
 skip
 rw [decide_eq_false c] at C
 refine b_4 C rfl (g_3 (b_1 (b_1 (f_1 (a_7 (b_5 ?_))))))
 have O := C.as [(3, v3_)] rfl; clear C
 refine a_5 (s1 O (a_1 rfl O.e) fun AD P => ?_); clear O y
 refine s1 P (a_0 rfl P.e) fun AM Y => ?_; clear P AD
 refine n1 (c_4 (a_9 Y (.inl rfl) (a_2 Y rfl (.tmp rfl)) ?_))
 have hz := F.f_6 (i := 0) rfl (n' := l.length) (xs' := pairs l) (by rw [show k = l.length by omega, List.take_length]) (by rw [show k = l.length by omega, List.take_length])
 exact ⟨hz.ext, hz.row_new (i := 0) rfl⟩
end Go.Proofs.Ytohgladndklciaa

namespace Go.Proofs.Ytohgladndklciaa
open Go.RowKit Go.Shelf Go.Eng Go.Hard
theorem ze_37 : (Try.prog.info? 37).bind (·.zero) = some (Value.agg #[(iv 0), (Value.slice none 0 0), (Value.slice none 0 0)]) := by kernel_rfl
theorem bd_37_0i (x0_0 : Int) (w : World) : (Instr.build 37 #[(0, (.int .i64 x0_0))]).run Try.prog w = .ok (.agg #[(.int .i64 x0_0), (Value.slice none 0 0), (Value.slice none 0 0)]) w := by kernel_rfl
theorem ze_46 : (Try.prog.info? 46).bind (·.zero) = some (Value.agg #[(iv 0), (iv 0), (Value.slice none 0 0), (Value.slice none 0 0), (iv 0)]) := by kernel_rfl
theorem bd_106_0i_1i_3s_4i (x0_0 : Int) (x1_0 : Int) (x2_0 : Value) (hx2_0 : IsSl x2_0) (x3_0 : Int) (w : World) : (Instr.build 106 #[(0, (.int .i64 x0_0)), (1, (.int .i64 x1_0)), (3, x2_0), (4, (.int .i64 x3_0))]).run Try.prog w = .ok (.agg #[(.int .i64 x0_0), (.int .i64 x1_0), (Value.slice none 0 0), x2_0, (.int .i64 x3_0)]) w := by obtain ⟨Ax2_0, Bx2_0, Cx2_0, rfl⟩ := hx2_0; kernel_rfl
theorem en_40 : ∀ args w, (callFunc 40 args).run Try.prog w = .ok (.enter 40 args) w := enters_of Try.func40 (by kernel_rfl) rfl
theorem n_6 (x0_0 : Int) (x1_0 : Int) (w : World) : (Instr.build 107 #[(0, (.int .i64 x0_0)), (1, (.int .i64 x1_0))]).run Try.prog w = .ok (.agg #[(.int .i64 x0_0), (.int .i64 x1_0)]) w := by kernel_rfl
theorem bs_107_1_0iia (x0_0 : Int) (x0_1 : Int) : Instr.fill (fun i => some (i * 2, 2)) ((Array.range (1 * 2)).map ((Value.agg #[(iv 0), (iv 0)]).cells[· % (Value.agg #[(iv 0), (iv 0)]).cells.size]!)) [(0, .agg #[(.int .i64 x0_0), (.int .i64 x0_1)])] = some (([(.int .i64 x0_0), (.int .i64 x0_1)] : List Value).toArray) := by kernel_rfl
theorem el_107 : elK Try.prog 107 = some ((Value.agg #[(iv 0), (iv 0)]), 2, 16) := by kernel_rfl
theorem bd_103_0i (x0_0 : Int) (w : World) : (Instr.build 103 #[(0, (.int .i64 x0_0))]).run Try.prog w = .ok (.agg #[(.int .i64 x0_0), (Value.slice none 0 0)]) w := by kernel_rfl
theorem s_2 (x0_0 : Int) (x0_1 : Int) (x1_0 : Int) (w : World) : (Instr.build 100 #[(0, .agg #[(.int .i64 x0_0), (.int .i64 x0_1)]), (1, (.int .i64 x1_0))]).run Try.prog w = .ok (.agg #[(.int .i64 x0_0), (.int .i64 x0_1), (.int .i64 x1_0)]) w := by kernel_rfl
theorem en_20 : ∀ args w, (callFunc 20 args).run Try.prog w = .ok (.enter 20 args) w := enters_of Try.func20 (by kernel_rfl) rfl
theorem bs_100_1_0iiia (x0_0 : Int) (x0_1 : Int) (x0_2 : Int) : Instr.fill (fun i => some (i * 3, 3)) ((Array.range (1 * 3)).map ((Value.agg #[(iv 0), (iv 0), (iv 0)]).cells[· % (Value.agg #[(iv 0), (iv 0), (iv 0)]).cells.size]!)) [(0, .agg #[(.int .i64 x0_0), (.int .i64 x0_1), (.int .i64 x0_2)])] = some (([(.int .i64 x0_0), (.int .i64 x0_1), (.int .i64 x0_2)] : List Value).toArray) := by kernel_rfl
theorem el_100 : elK Try.prog 100 = some ((Value.agg #[(iv 0), (iv 0), (iv 0)]), 3, 24) := by kernel_rfl
theorem bs_103_1_0iva (x0_0 : Int) (x0_1 : Value) : Instr.fill (fun i => some (i * 2, 2)) ((Array.range (1 * 2)).map ((Value.agg #[(iv 0), (Value.slice none 0 0)]).cells[· % (Value.agg #[(iv 0), (Value.slice none 0 0)]).cells.size]!)) [(0, .agg #[(.int .i64 x0_0), x0_1])] = some (([(.int .i64 x0_0), x0_1] : List Value).toArray) := by kernel_rfl
theorem el_103 : elK Try.prog 103 = some ((Value.agg #[(iv 0), (Value.slice none 0 0)]), 2, 32) := by kernel_rfl
set_option maxHeartbeats 4000000 in
theorem Book_ok (b : h_7) (vt vm : Value) (lr lb lk : Nat → Value) (w : World) (hT : j_1 w vt lr lb b.tabs) (hM : k_0 w vm lk b.macs) (hth : n_5 b) :
  Calls Try.prog 19 #[(Value.agg #[(iv b.scales), vt, vm])] w (Ret fun v w' => ∃ vt' vm' lr' lb' lk', v = .agg #[.int .i64 b.scales, vt', vm'] ∧ Sep NoB w w' [d_3 true vt' lr' lb' b.tabs, d_9 true vm' lk' b.macs]) := by
 refine a_8 Try.func19 rfl fun a0 A8 => ?_
 replace A8 : Fr 116 [] [(0, (Value.agg #[(iv b.scales), vt, vm]))] a0 := A8
 have htl9 := hth.tl; have hml9 := hth.ml
 have C4 : Sep NoB w w [(d_3 false vt lr lb b.tabs), (d_9 false vm lk b.macs)] := f_2 ⟨rfl, hT, rfl, hM, trivial⟩
 refine m2 (s2 A8 (f_4 C4 rfl A8.e (cs := [(iv b.scales), vt, vm]) rfl) ?_)
 rintro a1 _ w3 ⟨I, rfl, C5⟩ C3; clear A8 C4 a0
 refine s2 C3 (e_0 C5 rfl ze_37 (cs := [(iv 0), (Value.slice none 0 0), (Value.slice none 0 0)]) rfl) ?_
 rintro a6 _ w8 ⟨H, rfl, BM⟩ CV; clear C3 C5 a1
 refine n4 (s1 CV (a_4 rfl fd_25_0 CV.e) fun D6 A9 => ?_); clear CV a6
 refine s1 A9 (a_3 rfl ty_3 A9.e (BM.bk 1 rfl) rfl) fun D7 BA => ?_; clear A9 D6
 refine s1 BA (e_8 rfl (pv1 BA.e) (bd_37_0i _)) fun D8 CM => ?_; clear BA D7
 refine s2 CM (e_0 BM rfl ze_37 (cs := [(iv 0), (Value.slice none 0 0), (Value.slice none 0 0)]) rfl) ?_
 rintro D9 _ Eu ⟨B, rfl, Cb⟩ AO; clear CM BM D8
 refine s7 AO (c_0 Cb rfl w_2 AO.e AO.e (i := 0) rfl (vs := [(iv b.scales), (Value.slice none 0 0), (Value.slice none 0 0)]) rfl rfl (i_8 rfl (i_8 rfl (i_8 rfl w_1))) (Nat.le_of_ble_eq_true rfl)) ?_
 intro _ EV Cc CN; clear AO
 have Cd : Sep NoB w EV [(blk B 37 [(iv b.scales), (Value.slice none 0 0), (Value.slice none 0 0)]), (blk H 37 [(iv 0), (Value.slice none 0 0), (Value.slice none 0 0)]), (blk I 25 [(iv b.scales), vt, vm]), (d_3 false vt lr lb b.tabs), (d_9 false vm lk b.macs)] := Cc; clear Cc Cb
 refine n2 (m2 (s1 CN (a_0 rfl (evc _ _)) fun EA CO => ?_)); clear CN D9
 refine n1 (c_2 ?_)
 have Ce := r_9 (r_9 (Cd.p_4 106 5) (fun _ => Value.slice none 0 0) 1 (brkN (b.tabs.take 0)) (brkC (b.tabs.take 0))) (fun _ => Value.slice none 0 0) 2 (n_1 (b.tabs.take 0)) (n_0 (b.tabs.take 0)); clear Cd
 have CP := CO.as [(4, (iv 0)), (3, (bptr B 0)), (2, (bptr H 0)), (1, (bptr I 0))] rfl; clear CO
 refine g_7 (G := Nat) (fun (k : Nat) a_ w_ => ∃ vt_ : Value, ∃ lr_ : Nat → Value, ∃ lb_ : Nat → Value, Fr 116 [] [(4, (iv (k : Int))), (3, (bptr B 0)), (2, (bptr H 0)), (1, (bptr I 0))] a_ ∧ Sep NoB w w_ [(slsR true ((b.tabs.take k).length) lr_ 2 (n_1 (b.tabs.take k)) (n_0 (b.tabs.take k))), (slsR true ((b.tabs.take k).length) lb_ 1 (brkN (b.tabs.take k)) (brkC (b.tabs.take k))), (row vt_ 106 5 ((b.tabs.take k).length) (o_6 lr_ lb_ (b.tabs.take k))), (blk B 37 [(iv b.scales), vt_, (Value.slice none 0 0)]), (blk H 37 [(iv 0), (Value.slice none 0 0), (Value.slice none 0 0)]), (blk I 25 [(iv b.scales), vt, vm]), (d_3 false vt lr lb b.tabs), (d_9 false vm lk b.macs)] ∧ (k ≤ b.tabs.length)) (fun k => b.tabs.length - k) 0 ⟨(Value.slice none 0 0), (fun _ => Value.slice none 0 0), (fun _ => Value.slice none 0 0), CP.as _ rfl, (Ce.f_6 (i := 2) rfl (by rfl) (by rfl)), by omega⟩ ?_
 clear CP Ce EA
 rintro k EB Ev ⟨vt_, lr_, lb_, BB, S, hk⟩
 have htk : (b.tabs.take k).length = k := by rw [List.length_take]; omega
 refine b_5 (m2 (s1 BB (a_1 rfl BB.e) fun EC BC => ?_)); clear BB EB
 refine s1 BC (a_4 rfl r_4 BC.e) fun ED BD => ?_; clear BC EC
 refine s1 BD (a_3 rfl ad_1 BD.e (S.bk 5 rfl) rfl) fun EE BE => ?_; clear BD ED
 refine s1 BE (c_9 rfl ad_2 BE.e (c_1 (S.ok 6 _ rfl)).tabs) fun EF Ap => ?_; clear BE EE
 refine s1 Ap (f_5 rfl Ap.e Ap.e) fun C1 R => ?_; clear Ap EF
 refine n1 ?_
 by_cases Ck : (k : Int) < (b.tabs.length : Int)
 ·skip
  rw [decide_eq_true Ck] at R
  have htkk := hth.tab k
  refine b_7 R rfl (c_6 (a_7 (b_5 (c_2 (m2 (s1 R (a_4 rfl r_4 R.e) fun EG BF => ?_)))))); clear R C1
  refine s1 BF (a_3 rfl ad_1 BF.e (S.bk 5 rfl) rfl) fun EH BG => ?_; clear BF EG
  refine s1 BG (a_1 rfl BG.e) fun EI Aq => ?_; clear BG EH
  refine s1 Aq (b_0 rfl ad_2 z_9 Aq.e (i := k) Aq.e (c_1 (S.ok 6 _ rfl)).tabs (by decide) (by omega)) fun EJ BH => ?_; clear Aq EI
  refine s1 BH (e_7 rfl z_9 BH.e (c_1 (S.ok 6 _ rfl)).tabs (x_2 (by omega)) rfl (by decide)) fun EK CQ => ?_; clear BH EJ
  refine s2 CQ (e_0 S rfl ze_46 (cs := [(iv 0), (iv 0), (Value.slice none 0 0), (Value.slice none 0 0), (iv 0)]) rfl) ?_
  rintro Er _ Ew ⟨K, rfl, A2⟩ Ar; clear CQ S EK
  refine s7 Ar (c_0 A2 rfl z_9 Ar.e Ar.e (i := 0) rfl (vs := [(iv ((b.tabs.getD k tab0).frm)), (iv ((b.tabs.getD k tab0).dst)), (lr k), (lb k), (iv ((b.tabs.getD k tab0).err))]) rfl rfl (i_8 rfl (i_8 rfl (i_8 (SlAt.one ((c_1 (A2.ok 7 _ rfl)).row (i := k) (by omega))) (i_8 (SlAt.one ((c_1 (A2.ok 7 _ rfl)).brk (i := k) (by omega))) (i_8 rfl w_1))))) (Nat.le_of_ble_eq_true rfl)) ?_
  intro _ EW Cf CR; clear Ar
  have Cg : Sep NoB w EW [(blk K 46 [(iv ((b.tabs.getD k tab0).frm)), (iv ((b.tabs.getD k tab0).dst)), (lr k), (lb k), (iv ((b.tabs.getD k tab0).err))]), (slsR true ((b.tabs.take k).length) lr_ 2 (n_1 (b.tabs.take k)) (n_0 (b.tabs.take k))), (slsR true ((b.tabs.take k).length) lb_ 1 (brkN (b.tabs.take k)) (brkC (b.tabs.take k))), (row vt_ 106 5 ((b.tabs.take k).length) (o_6 lr_ lb_ (b.tabs.take k))), (blk B 37 [(iv b.scales), vt_, (Value.slice none 0 0)]), (blk H 37 [(iv 0), (Value.slice none 0 0), (Value.slice none 0 0)]), (blk I 25 [(iv b.scales), vt, vm]), (d_3 false vt lr lb b.tabs), (d_9 false vm lk b.macs)] := Cf; clear Cf A2
  refine n2 ?_
  have CS := CR.as [(5, (bptr K 0)), (4, (iv (k : Int))), (3, (bptr B 0)), (2, (bptr H 0)), (1, (bptr I 0))] rfl; clear CR
  have CT := CS.as [(5, (bptr K 0)), (4, (iv (k : Int))), (3, (bptr B 0)), (2, (bptr H 0)), (1, (bptr I 0))] rfl; clear CS
  refine x_4 mixed CT Cg 11 [[], [0], [], [2], [], [4], [5], [], [7], [1, 3, 6, 8], []] [(yw (bptr K 0)), (yw (iv ((b.tabs.getD k tab0).frm))), (yw (bptr K 1)), (yw (iv ((b.tabs.getD k tab0).dst))), (yw (bptr K 3)), (yw (lb k)), (fun (A : Nat → Value) (v_ : Value) (rs_ : List Res) => True ∧ rs_ = [(row v_ 3 1 ((b.tabs.getD k tab0).brk.length) (ints ((b.tabs.getD k tab0).brk)))]), (yw (bptr K 4)), (yw (iv ((b.tabs.getD k tab0).err))), (fun (A : Nat → Value) (v_ : Value) (rs_ : List Res) => v_ = (Value.agg #[(iv ((b.tabs.getD k tab0).frm)), (iv ((b.tabs.getD k tab0).dst)), (Value.slice none 0 0), (A 6), (iv ((b.tabs.getD k tab0).err))]) ∧ rs_ = []), (fun (A : Nat → Value) (v_ : Value) (rs_ : List Res) => ∃ (b10_ : Nat), v_ = (bptr b10_ 0) ∧ rs_ = [(blk b10_ 106 [(iv 0), (iv 0), (Value.slice none 0 0), (Value.slice none 0 0), (iv 0)])])] (by decide +kernel) (by decide +kernel) rfl rfl ⟨dw, dw, dw, dw, dw, dw, (fun _ _ _ _ _ h_ => h_), dw, dw, (fun _ _ _ _ he_ h_ => by dsimp only at h_ ⊢; rw [← he_ 6 (by decide)]; exact h_), (fun _ _ _ _ _ h_ => h_), trivial⟩ ?_ ?_
  ·skip
   refine ⟨fun a w A hA hS hd => gv1 (a_4 rfl z_2 hA.e), ?_⟩
   refine ⟨fun a w A hA hS hd => gv1 (a_3 rfl ty_3 (gu hd 0) (hS.bk 0 rfl) rfl), ?_⟩
   refine ⟨fun a w A hA hS hd => gv1 (a_4 rfl t_7 hA.e), ?_⟩
   refine ⟨fun a w A hA hS hd => gv1 (a_3 rfl ty_3 (gu hd 2) (hS.bk 0 rfl) rfl), ?_⟩
   refine ⟨fun a w A hA hS hd => gv1 (a_4 rfl x_6 hA.e), ?_⟩
   refine ⟨fun a w A hA hS hd => gv1 (a_3 rfl ab_1 (gu hd 4) (hS.bk 0 rfl) rfl), ?_⟩
   refine ⟨fun a w A hA hS hd => d_4 rfl (vn (b_3 rfl en_40 (ev1 (gu hd 5)) (list_ok ((b.tabs.getD k tab0).brk) _ _ ((c_1 (hS.ok 7 _ rfl)).brk (i := k) (by omega)) (hth.bl _))) (fun v w' h => ⟨_, And.intro trivial rfl, (Sep.start NoB _).x_8 h.1 h.2, rfl⟩)), ?_⟩
   refine ⟨fun a w A hA hS hd => gv1 (a_4 rfl fd_46_4 hA.e), ?_⟩
   refine ⟨fun a w A hA hS hd => gv1 (a_3 rfl ty_3 (gu hd 7) (hS.bk 0 rfl) rfl), ?_⟩
   refine ⟨fun a w A hA hS hd => ?_, ?_⟩
   ·skip
    obtain ⟨e6, Et, EU, ES⟩ := hd 6 (by decide)
    obtain ⟨Es, ET⟩ := EU; subst ET
    have hp6_0 := ES _ (List.mem_of_getElem? (i := 0) rfl)
    exact gv1 (e_8 rfl (pv4 (gu hd 1) (gu hd 3) (b_8 (h_2 e6 rfl)) (gu hd 8)) (bd_106_0i_1i_3s_4i _ _ _ (SlAt.isSl (SlAt.d_6 hp6_0)) _))
   refine ⟨fun a w A hA hS hd => d_4 rfl (valloc rfl ze_106 (cs := [(iv 0), (iv 0), (Value.slice none 0 0), (Value.slice none 0 0), (iv 0)]) rfl (fun b_ => ⟨b_, rfl, rfl⟩)), ?_⟩
   trivial
  intro C2 EX A rsf72 CU M BN; clear CT Cg
  obtain ⟨Dt, Dv⟩ := M 6 (by decide)
  obtain ⟨Du, Cm⟩ := Dv
  obtain ⟨A3, Cy⟩ := M 10 (by decide)
  obtain ⟨b10_, CI, CD⟩ := Cy
  have BO : Sep NoB w EX [(row (A 6) 3 1 ((b.tabs.getD k tab0).brk.length) (ints ((b.tabs.getD k tab0).brk))), (blk b10_ 106 [(iv 0), (iv 0), (Value.slice none 0 0), (Value.slice none 0 0), (iv 0)]), (blk K 46 [(iv ((b.tabs.getD k tab0).frm)), (iv ((b.tabs.getD k tab0).dst)), (lr k), (lb k), (iv ((b.tabs.getD k tab0).err))]), (slsR true ((b.tabs.take k).length) lr_ 2 (n_1 (b.tabs.take k)) (n_0 (b.tabs.take k))), (slsR true ((b.tabs.take k).length) lb_ 1 (brkN (b.tabs.take k)) (brkC (b.tabs.take k))), (row vt_ 106 5 ((b.tabs.take k).length) (o_6 lr_ lb_ (b.tabs.take k))), (blk B 37 [(iv b.scales), vt_, (Value.slice none 0 0)]), (blk H 37 [(iv 0), (Value.slice none 0 0), (Value.slice none 0 0)]), (blk I 25 [(iv b.scales), vt, vm]), (d_3 false vt lr lb b.tabs), (d_9 false vm lk b.macs)] := by rw [show catR rsf72 0 11 = ([(row (A 6) 3 1 ((b.tabs.getD k tab0).brk.length) (ints ((b.tabs.getD k tab0).brk))), (blk b10_ 106 [(iv 0), (iv 0), (Value.slice none 0 0), (Value.slice none 0 0), (iv 0)])] : List Res) by (try simp only [catR, gr (M 0 (by decide)), gr (M 1 (by decide)), gr (M 2 (by decide)), gr (M 3 (by decide)), gr (M 4 (by decide)), gr (M 5 (by decide)), Cm, gr (M 7 (by decide)), gr (M 8 (by decide)), gr (M 9 (by decide)), CD]); (try rfl)] at BN; exact BN
  have CW := CU.add (gs (M 9 (by decide))); clear CU
  rw [CI] at A3
  have As : Fr 116 [] [(6, (bptr b10_ 0)), (36, (Value.agg #[(iv ((b.tabs.getD k tab0).frm)), (iv ((b.tabs.getD k tab0).dst)), (Value.slice none 0 0), (A 6), (iv ((b.tabs.getD k tab0).err))])), (5, (bptr K 0)), (4, (iv (k : Int))), (3, (bptr B 0)), (2, (bptr H 0)), (1, (bptr I 0))] C2 := CW.add (h_2 A3 rfl); clear CW
  clear M BN Dt A3
  clear Cm
  clear Du
  clear CD
  clear CI
  refine s7 As (c_0 BO rfl m_0 As.e As.e (i := 1) rfl (vs := [(iv ((b.tabs.getD k tab0).frm)), (iv ((b.tabs.getD k tab0).dst)), (Value.slice none 0 0), (A 6), (iv ((b.tabs.getD k tab0).err))]) rfl rfl (i_8 rfl (i_8 rfl (i_8 rfl (i_8 (SlAt.one (SlAt.d_6 (BO.e_4 0 rfl))) (i_8 rfl w_1))))) (Nat.le_of_ble_eq_true rfl)) ?_
  intro _ EY Ch CX; clear As
  have Ci : Sep NoB w EY [(row (A 6) 3 1 ((b.tabs.getD k tab0).brk.length) (ints ((b.tabs.getD k tab0).brk))), (blk b10_ 106 [(iv ((b.tabs.getD k tab0).frm)), (iv ((b.tabs.getD k tab0).dst)), (Value.slice none 0 0), (A 6), (iv ((b.tabs.getD k tab0).err))]), (blk K 46 [(iv ((b.tabs.getD k tab0).frm)), (iv ((b.tabs.getD k tab0).dst)), (lr k), (lb k), (iv ((b.tabs.getD k tab0).err))]), (slsR true ((b.tabs.take k).length) lr_ 2 (n_1 (b.tabs.take k)) (n_0 (b.tabs.take k))), (slsR true ((b.tabs.take k).length) lb_ 1 (brkN (b.tabs.take k)) (brkC (b.tabs.take k))), (row vt_ 106 5 ((b.tabs.take k).length) (o_6 lr_ lb_ (b.tabs.take k))), (blk B 37 [(iv b.scales), vt_, (Value.slice none 0 0)]), (blk H 37 [(iv 0), (Value.slice none 0 0), (Value.slice none 0 0)]), (blk I 25 [(iv b.scales), vt, vm]), (d_3 false vt lr lb b.tabs), (d_9 false vm lk b.macs)] := Ch; clear Ch BO
  refine n2 (m2 (s1 CX (a_0 rfl (evc _ _)) fun EL CY => ?_)); clear CX C2
  refine n1 (c_2 ?_)
  have Cj := Ci.p_4 107 2; clear Ci
  have CZ := CY.as [(7, (iv 0)), (6, (bptr b10_ 0)), (5, (bptr K 0)), (4, (iv (k : Int))), (3, (bptr B 0)), (2, (bptr H 0)), (1, (bptr I 0))] rfl; clear CY
  refine g_7 (G := Nat) (fun (j : Nat) a_ w_ => ∃ vr_ : Value, Fr 116 [] [(7, (iv (j : Int))), (6, (bptr b10_ 0)), (5, (bptr K 0)), (4, (iv (k : Int))), (3, (bptr B 0)), (2, (bptr H 0)), (1, (bptr I 0))] a_ ∧ Sep NoB w w_ [(row vr_ 107 2 (((b.tabs.getD k tab0).rows.take j).length) (pairs ((b.tabs.getD k tab0).rows.take j))), (row (A 6) 3 1 ((b.tabs.getD k tab0).brk.length) (ints ((b.tabs.getD k tab0).brk))), (blk b10_ 106 [(iv ((b.tabs.getD k tab0).frm)), (iv ((b.tabs.getD k tab0).dst)), vr_, (A 6), (iv ((b.tabs.getD k tab0).err))]), (blk K 46 [(iv ((b.tabs.getD k tab0).frm)), (iv ((b.tabs.getD k tab0).dst)), (lr k), (lb k), (iv ((b.tabs.getD k tab0).err))]), (slsR true ((b.tabs.take k).length) lr_ 2 (n_1 (b.tabs.take k)) (n_0 (b.tabs.take k))), (slsR true ((b.tabs.take k).length) lb_ 1 (brkN (b.tabs.take k)) (brkC (b.tabs.take k))), (row vt_ 106 5 ((b.tabs.take k).length) (o_6 lr_ lb_ (b.tabs.take k))), (blk B 37 [(iv b.scales), vt_, (Value.slice none 0 0)]), (blk H 37 [(iv 0), (Value.slice none 0 0), (Value.slice none 0 0)]), (blk I 25 [(iv b.scales), vt, vm]), (d_3 false vt lr lb b.tabs), (d_9 false vm lk b.macs)] ∧ (j ≤ (b.tabs.getD k tab0).rows.length)) (fun j => (b.tabs.getD k tab0).rows.length - j) 0 ⟨(Value.slice none 0 0), CZ.as _ rfl, (Cj.f_6 (i := 0) rfl (by rfl) (by rfl)), (Nat.zero_le _)⟩ ?_
  clear CZ Cj EL
  rintro j EM Ex ⟨vr_, BI, U, hkj⟩
  have hlt_j : ((b.tabs.getD k tab0).rows.take j).length ≤ 12 := by simp only [List.length_take]; omega
  refine b_5 (m2 (s1 BI (a_1 rfl BI.e) fun EN BJ => ?_)); clear BI EM
  refine s1 BJ (a_4 rfl h_1 BJ.e) fun EO BK => ?_; clear BJ EN
  refine s1 BK (a_3 rfl m_2 BK.e (U.bk 3 rfl) rfl) fun EP BL => ?_; clear BK EO
  refine s1 BL (c_9 rfl m_3 BL.e ((c_1 (U.ok 10 _ rfl)).row (i := k) (by omega))) fun EQ At => ?_; clear BL EP
  refine s1 At (f_5 rfl At.e At.e) fun ER T => ?_; clear At EQ
  refine n1 ?_
  by_cases Cl : (j : Int) < ((b.tabs.getD k tab0).rows.length : Int)
  ·skip
   rw [decide_eq_true Cl] at T
   refine b_7 T rfl (c_6 (a_7 (b_5 (c_2 ?_))))
   have Ca := T.as [(7, (iv (j : Int))), (6, (bptr b10_ 0)), (5, (bptr K 0)), (4, (iv (k : Int))), (3, (bptr B 0)), (2, (bptr H 0)), (1, (bptr I 0))] rfl; clear T
   refine x_4 mixed Ca U 16 [[], [0], [], [2], [], [3, 4], [5], [6], [], [8], [], [9, 10], [11], [12], [7, 13], [14]] [(yw (bptr b10_ 2)), (yw vr_), (yw (bptr K 2)), (yw (lr k)), (yw (iv (j : Int))), (yw (eptr (lr k) (j * 2))), (yw (eptr (lr k) (j * 2 + 0))), (yw (iv ((((b.tabs.getD k tab0).rows).getD j (0, 0)).1))), (yw (bptr K 2)), (yw (lr k)), (yw (iv (j : Int))), (yw (eptr (lr k) (j * 2))), (yw (eptr (lr k) (j * 2 + 1))), (yw (iv ((((b.tabs.getD k tab0).rows).getD j (0, 0)).2))), (yw (Value.agg #[(iv ((((b.tabs.getD k tab0).rows).getD j (0, 0)).1)), (iv ((((b.tabs.getD k tab0).rows).getD j (0, 0)).2))])), (fun (D : Nat → Value) (v_ : Value) (rs_ : List Res) => True ∧ rs_ = [(row v_ 107 2 1 [(iv ((((b.tabs.getD k tab0).rows).getD j (0, 0)).1)), (iv ((((b.tabs.getD k tab0).rows).getD j (0, 0)).2))])])] (by decide +kernel) (by decide +kernel) rfl rfl ⟨dw, dw, dw, dw, dw, dw, dw, dw, dw, dw, dw, dw, dw, dw, dw, (fun _ _ _ _ _ h_ => h_), trivial⟩ ?_ ?_
   ·skip
    refine ⟨fun a w D hA hS hd => gv1 (a_4 rfl j_7 hA.e), ?_⟩
    refine ⟨fun a w D hA hS hd => gv1 (a_3 rfl p_1 (gu hd 0) (hS.bk 2 rfl) rfl), ?_⟩
    refine ⟨fun a w D hA hS hd => gv1 (a_4 rfl h_1 hA.e), ?_⟩
    refine ⟨fun a w D hA hS hd => gv1 (a_3 rfl m_2 (gu hd 2) (hS.bk 3 rfl) rfl), ?_⟩
    refine ⟨fun a w D hA hS hd => gv1 (a_1 rfl hA.e), ?_⟩
    refine ⟨fun a w D hA hS hd => gv1 (b_0 rfl m_3 o_7 (gu hd 3) (i := j) (gu hd 4) ((c_1 (hS.ok 10 _ rfl)).row (i := k) (by omega)) (by decide) (by omega)), ?_⟩
    refine ⟨fun a w D hA hS hd => gv1 (d_1 rfl l_8 (gu hd 5) ((c_1 (hS.ok 10 _ rfl)).row (i := k) (by omega)) (by rw [(((c_1 (hS.ok 10 _ rfl)).row (i := k) (by omega))).1]; omega)), ?_⟩
    refine ⟨fun a w D hA hS hd => gv1 (b_9 rfl ty_3 (gu hd 6) ((c_1 (hS.ok 10 _ rfl)).row (i := k) (by omega)) (f_8 (by omega))), ?_⟩
    refine ⟨fun a w D hA hS hd => gv1 (a_4 rfl h_1 hA.e), ?_⟩
    refine ⟨fun a w D hA hS hd => gv1 (a_3 rfl m_2 (gu hd 8) (hS.bk 3 rfl) rfl), ?_⟩
    refine ⟨fun a w D hA hS hd => gv1 (a_1 rfl hA.e), ?_⟩
    refine ⟨fun a w D hA hS hd => gv1 (b_0 rfl m_3 o_7 (gu hd 9) (i := j) (gu hd 10) ((c_1 (hS.ok 10 _ rfl)).row (i := k) (by omega)) (by decide) (by omega)), ?_⟩
    refine ⟨fun a w D hA hS hd => gv1 (d_1 rfl o_4 (gu hd 11) ((c_1 (hS.ok 10 _ rfl)).row (i := k) (by omega)) (by rw [(((c_1 (hS.ok 10 _ rfl)).row (i := k) (by omega))).1]; omega)), ?_⟩
    refine ⟨fun a w D hA hS hd => gv1 (b_9 rfl ty_3 (gu hd 12) ((c_1 (hS.ok 10 _ rfl)).row (i := k) (by omega)) (h_6 (by omega))), ?_⟩
    refine ⟨fun a w D hA hS hd => gv1 (e_8 rfl (pv2 (gu hd 7) (gu hd 13)) (n_6 _ _)), ?_⟩
    refine ⟨fun a w D hA hS hd => d_4 rfl (vblt rfl (pv1 (gu hd 14)) l_1 j_2 aa_2 (by decide) (cs := [(iv ((((b.tabs.getD k tab0).rows).getD j (0, 0)).1)), (iv ((((b.tabs.getD k tab0).rows).getD j (0, 0)).2))]) (bs_107_1_0iia _ _) rfl (by decide) (fun _ => And.intro trivial rfl)), ?_⟩
    trivial
   intro CJ Dw D rsf106 BP F Au; clear Ca U
   obtain ⟨CG, Cz⟩ := F 15 (by decide)
   obtain ⟨Cw, CE⟩ := Cz
   have Av : Sep NoB w Dw [(row (D 15) 107 2 1 [(iv ((((b.tabs.getD k tab0).rows).getD j (0, 0)).1)), (iv ((((b.tabs.getD k tab0).rows).getD j (0, 0)).2))]), (row vr_ 107 2 (((b.tabs.getD k tab0).rows.take j).length) (pairs ((b.tabs.getD k tab0).rows.take j))), (row (A 6) 3 1 ((b.tabs.getD k tab0).brk.length) (ints ((b.tabs.getD k tab0).brk))), (blk b10_ 106 [(iv ((b.tabs.getD k tab0).frm)), (iv ((b.tabs.getD k tab0).dst)), vr_, (A 6), (iv ((b.tabs.getD k tab0).err))]), (blk K 46 [(iv ((b.tabs.getD k tab0).frm)), (iv ((b.tabs.getD k tab0).dst)), (lr k), (lb k), (iv ((b.tabs.getD k tab0).err))]), (slsR true ((b.tabs.take k).length) lr_ 2 (n_1 (b.tabs.take k)) (n_0 (b.tabs.take k))), (slsR true ((b.tabs.take k).length) lb_ 1 (brkN (b.tabs.take k)) (brkC (b.tabs.take k))), (row vt_ 106 5 ((b.tabs.take k).length) (o_6 lr_ lb_ (b.tabs.take k))), (blk B 37 [(iv b.scales), vt_, (Value.slice none 0 0)]), (blk H 37 [(iv 0), (Value.slice none 0 0), (Value.slice none 0 0)]), (blk I 25 [(iv b.scales), vt, vm]), (d_3 false vt lr lb b.tabs), (d_9 false vm lk b.macs)] := by rw [show catR rsf106 0 16 = ([(row (D 15) 107 2 1 [(iv ((((b.tabs.getD k tab0).rows).getD j (0, 0)).1)), (iv ((((b.tabs.getD k tab0).rows).getD j (0, 0)).2))])] : List Res) by (try simp only [catR, gr (F 0 (by decide)), gr (F 1 (by decide)), gr (F 2 (by decide)), gr (F 3 (by decide)), gr (F 4 (by decide)), gr (F 5 (by decide)), gr (F 6 (by decide)), gr (F 7 (by decide)), gr (F 8 (by decide)), gr (F 9 (by decide)), gr (F 10 (by decide)), gr (F 11 (by decide)), gr (F 12 (by decide)), gr (F 13 (by decide)), gr (F 14 (by decide)), CE]); (try rfl)] at Au; exact Au
   have BQ := BP.add (gs (F 1 (by decide))); clear BP
   have W : Fr 116 [] [(59, (D 15)), (45, vr_), (7, (iv (j : Int))), (6, (bptr b10_ 0)), (5, (bptr K 0)), (4, (iv (k : Int))), (3, (bptr B 0)), (2, (bptr H 0)), (1, (bptr I 0))] CJ := BQ.add (h_2 CG rfl); clear BQ
   clear F Au CG
   clear CE
   clear Cw
   refine s2 W (j_9 Av rfl l_1 el_107 W.e W.e (i := 1) rfl (SlAt.d_6 (Av.e_4 0 rfl)) rfl (by simp only [maxLen]; omega) (by omega)) ?_
   intro C6 A4 Eh Bg AB
   have u := Bg.f_6 (i := 1) rfl (n' := (((b.tabs.getD k tab0).rows.take j) ++ [(b.tabs.getD k tab0).rows.getD j (0, 0)]).length) (xs' := (pairs (((b.tabs.getD k tab0).rows.take j) ++ [(b.tabs.getD k tab0).rows.getD j (0, 0)]))) (by simp) (by simp [pairs]); clear Bg W Av CJ
   refine s1 AB (a_4 rfl j_7 AB.e) fun C7 X => ?_; clear AB C6
   refine s7 X (c_0 u rfl p_1 X.e X.e (i := 3) rfl (vs := [A4]) (r_7 (SlAt.isSl (SlAt.d_6 (u.e_4 1 rfl)))) rfl (i_8 (SlAt.one (SlAt.d_6 (u.e_4 1 rfl))) w_1) (Nat.le_of_ble_eq_true rfl)) ?_
   intro _ Dx Bh AC; clear X
   have Bi : Sep NoB w Dx [(row (D 15) 107 2 1 [(iv ((((b.tabs.getD k tab0).rows).getD j (0, 0)).1)), (iv ((((b.tabs.getD k tab0).rows).getD j (0, 0)).2))]), (row A4 107 2 ((((b.tabs.getD k tab0).rows.take j) ++ [(b.tabs.getD k tab0).rows.getD j (0, 0)]).length) (pairs (((b.tabs.getD k tab0).rows.take j) ++ [(b.tabs.getD k tab0).rows.getD j (0, 0)]))), (row (A 6) 3 1 ((b.tabs.getD k tab0).brk.length) (ints ((b.tabs.getD k tab0).brk))), (blk b10_ 106 [(iv ((b.tabs.getD k tab0).frm)), (iv ((b.tabs.getD k tab0).dst)), A4, (A 6), (iv ((b.tabs.getD k tab0).err))]), (blk K 46 [(iv ((b.tabs.getD k tab0).frm)), (iv ((b.tabs.getD k tab0).dst)), (lr k), (lb k), (iv ((b.tabs.getD k tab0).err))]), (slsR true ((b.tabs.take k).length) lr_ 2 (n_1 (b.tabs.take k)) (n_0 (b.tabs.take k))), (slsR true ((b.tabs.take k).length) lb_ 1 (brkN (b.tabs.take k)) (brkC (b.tabs.take k))), (row vt_ 106 5 ((b.tabs.take k).length) (o_6 lr_ lb_ (b.tabs.take k))), (blk B 37 [(iv b.scales), vt_, (Value.slice none 0 0)]), (blk H 37 [(iv 0), (Value.slice none 0 0), (Value.slice none 0 0)]), (blk I 25 [(iv b.scales), vt, vm]), (d_3 false vt lr lb b.tabs), (d_9 false vm lk b.macs)] := Bh; clear Bh u
   refine e_2 (g_6 (a_7 (a_5 (s1 AC (a_1 rfl AC.e) fun C8 AD => ?_)))); clear AC C7
   refine s1 AD (f_0 rfl AD.e (evc _ _) (by omega) (by omega)) fun C9 AE => ?_; clear AD C8
   refine s1 AE (a_0 rfl AE.e) fun Ea Cn => ?_; clear AE C9
   refine e_2 ?_
   have Cr := Bi.gkp (gpc 1 (gpc 2 (gpc 3 (gpc 4 (gpc 5 (gpc 6 (gpc 7 (gpc 8 (gpc 9 (gpc 10 (gpc 11 (gpc 12 gpn)))))))))))); clear Bi
   exact a_7 ⟨j + 1, ⟨A4, Cn.as _ rfl, (Cr.f_6 (i := 0) rfl (by rw [s_9 (by omega)]) (by rw [s_9 (by omega)])), by omega⟩, by omega⟩
  skip
  rw [decide_eq_false Cl] at T
  refine b_4 T rfl (g_3 (b_1 (b_1 (f_1 (a_7 ?_)))))
  have AF := T.as [(6, (bptr b10_ 0)), (4, (iv (k : Int))), (3, (bptr B 0)), (2, (bptr H 0)), (1, (bptr I 0))] rfl; clear T
  refine a_5 (s1 AF (a_4 rfl z_1 AF.e) fun DA AG => ?_); clear AF ER
  refine s1 AG (a_3 rfl ty_34 AG.e (U.bk 7 rfl) rfl) fun DB AH => ?_; clear AG DA
  refine s1 AH (c_5 rfl m_0 (AH.ev rfl) (U.bk 2 rfl) (l := [(iv ((b.tabs.getD k tab0).frm)), (iv ((b.tabs.getD k tab0).dst)), vr_, (A 6), (iv ((b.tabs.getD k tab0).err))]) rfl rfl) fun DC AI => ?_; clear AH DB
  refine s2 AI (f_9 U rfl (pv1 AI.e) ac_2 m_0 ze_106 (by decide) (cs := [(iv ((b.tabs.getD k tab0).frm)), (iv ((b.tabs.getD k tab0).dst)), vr_, (A 6), (iv ((b.tabs.getD k tab0).err))]) (bs_106_1_0iivvia _ _ _ _ _)) ?_
  rintro DD _ Ei ⟨Dr, rfl, V⟩ Y; clear AI U DC
  refine s2 Y (j_9 V rfl ac_2 el_106 Y.e Y.e (i := 7) rfl (SlAt.of_blk (V.bk 0 rfl) rfl (Nat.le_of_ble_eq_true rfl)) (i_8 rfl (i_8 rfl (i_8 (SlAt.one (SlAt.d_6 (V.e_4 1 rfl))) (i_8 (SlAt.one (SlAt.d_6 (V.e_4 2 rfl))) (i_8 rfl w_1))))) (by simp only [maxLen]; omega) (by omega)) ?_
  intro DE A5 Ej Bj AJ
  have x := Bj.f_6 (i := 7) rfl (n' := ((b.tabs.take k) ++ [(b.tabs.getD k tab0)]).length) (xs' := (o_6 (putV (b.tabs.take k).length lr_ vr_) (putV (b.tabs.take k).length lb_ (A 6)) ((b.tabs.take k) ++ [(b.tabs.getD k tab0)]))) (by simp) (tabs_snoc (b.tabs.getD k tab0) vr_ (A 6)); clear Bj Y V DD
  refine s1 AJ (a_4 rfl z_1 AJ.e) fun DF Z => ?_; clear AJ DE
  refine s7 Z (c_0 x rfl ty_34 Z.e Z.e (i := 8) rfl (vs := [A5]) (r_7 (SlAt.isSl (SlAt.d_6 (x.e_4 7 rfl)))) rfl (i_8 (SlAt.one (SlAt.d_6 (x.e_4 7 rfl))) w_1) (Nat.le_of_ble_eq_true rfl)) ?_
  intro _ Dy Bk BR; clear Z
  have Bl : Sep NoB w Dy [(blk Dr 106 [(iv ((b.tabs.getD k tab0).frm)), (iv ((b.tabs.getD k tab0).dst)), vr_, (A 6), (iv ((b.tabs.getD k tab0).err))]), (row vr_ 107 2 (((b.tabs.getD k tab0).rows.take j).length) (pairs ((b.tabs.getD k tab0).rows.take j))), (row (A 6) 3 1 ((b.tabs.getD k tab0).brk.length) (ints ((b.tabs.getD k tab0).brk))), (blk b10_ 106 [(iv ((b.tabs.getD k tab0).frm)), (iv ((b.tabs.getD k tab0).dst)), vr_, (A 6), (iv ((b.tabs.getD k tab0).err))]), (blk K 46 [(iv ((b.tabs.getD k tab0).frm)), (iv ((b.tabs.getD k tab0).dst)), (lr k), (lb k), (iv ((b.tabs.getD k tab0).err))]), (slsR true ((b.tabs.take k).length) lr_ 2 (n_1 (b.tabs.take k)) (n_0 (b.tabs.take k))), (slsR true ((b.tabs.take k).length) lb_ 1 (brkN (b.tabs.take k)) (brkC (b.tabs.take k))), (row A5 106 5 (((b.tabs.take k) ++ [(b.tabs.getD k tab0)]).length) (o_6 (putV (b.tabs.take k).length lr_ vr_) (putV (b.tabs.take k).length lb_ (A 6)) ((b.tabs.take k) ++ [(b.tabs.getD k tab0)]))), (blk B 37 [(iv b.scales), A5, (Value.slice none 0 0)]), (blk H 37 [(iv 0), (Value.slice none 0 0), (Value.slice none 0 0)]), (blk I 25 [(iv b.scales), vt, vm]), (d_3 false vt lr lb b.tabs), (d_9 false vm lk b.macs)] := Bk; clear Bk x
  refine e_2 (g_6 (a_7 ?_))
  have AK := BR.as [(4, (iv (k : Int))), (3, (bptr B 0)), (2, (bptr H 0)), (1, (bptr I 0))] rfl; clear BR
  refine a_5 (s1 AK (a_1 rfl AK.e) fun DG AL => ?_); clear AK DF
  refine s1 AL (f_0 rfl AL.e (evc _ _) (by omega) (by omega)) fun DH AM => ?_; clear AL DG
  refine s1 AM (a_0 rfl AM.e) fun Eb Co => ?_; clear AM DH
  refine e_2 ?_
  have Bm := Bl.f_6 (i := 1) rfl (n' := (b.tabs.getD k tab0).rows.length) (xs' := pairs (b.tabs.getD k tab0).rows) (by rw [List.take_of_length_le (by omega)]) (by rw [List.take_of_length_le (by omega)]); clear Bl
  have Bn := Bm.gkp (gpc 1 (gpc 5 (gpc 0 (gpc 2 (gpc 3 (gpc 4 (gpc 6 (gpc 7 (gpc 8 (gpc 9 (gpc 10 (gpc 11 (gpc 12 gpn))))))))))))); clear Bm
  have Bo := l_4 (k' := n_1 (b.tabs.take (k + 1))) (c' := n_0 (b.tabs.take (k + 1))) Bn (rowsN_new (by omega)).1 (rowsN_new (by omega)).2.1 (fun i hi => (rowsN_old i hi).1); clear Bn
  have Bp := sep_sls_say (i := 0) (n' := (b.tabs.take (k + 1)).length) (v' := (putV (b.tabs.take k).length lr_ vr_)) (k' := n_1 (b.tabs.take (k + 1))) (c' := n_0 (b.tabs.take (k + 1))) Bo rfl (take_len1 (by omega)) (fun _ _ => ⟨rfl, rfl, rfl⟩); clear Bo
  have Bq := Bp.gkp (gpc 2 (gpc 5 (gpc 0 (gpc 1 (gpc 3 (gpc 4 (gpc 6 (gpc 7 (gpc 8 (gpc 9 (gpc 10 (gpc 11 gpn)))))))))))); clear Bp
  have Br := l_4 (k' := brkN (b.tabs.take (k + 1))) (c' := brkC (b.tabs.take (k + 1))) Bq (rowsN_new (by omega)).2.2.1 (rowsN_new (by omega)).2.2.2 (fun i hi => (rowsN_old i hi).2); clear Bq
  have Bs := sep_sls_say (i := 0) (n' := (b.tabs.take (k + 1)).length) (v' := (putV (b.tabs.take k).length lb_ (A 6))) (k' := brkN (b.tabs.take (k + 1))) (c' := brkC (b.tabs.take (k + 1))) Br rfl (take_len1 (by omega)) (fun _ _ => ⟨rfl, rfl, rfl⟩); clear Br
  have Cs := Bs.gkp (gpc 1 (gpc 0 (gpc 5 (gpc 6 (gpc 7 (gpc 8 (gpc 9 (gpc 10 gpn)))))))); clear Bs
  exact a_7 ⟨k + 1, ⟨A5, (putV (b.tabs.take k).length lr_ vr_), (putV (b.tabs.take k).length lb_ (A 6)), Co.as _ rfl, (Cs.f_6 (i := 2) rfl (by rw [s_9 (by omega)]) (by rw [s_9 (by omega)])), by omega⟩, by omega⟩
 skip
 rw [decide_eq_false Ck] at R
 refine b_4 R rfl (g_3 (b_1 (b_1 (f_1 (a_7 (b_5 (b_5 ?_)))))))
 have BS := R.as [(3, (bptr B 0)), (2, (bptr H 0)), (1, (bptr I 0))] rfl; clear R
 refine a_5 (s1 BS (a_0 rfl (evc _ _)) fun DI BT => ?_); clear BS C1
 refine n1 (c_2 ?_)
 have hkt : k = b.tabs.length := by omega
 have Aw := S.gkp (gpc 2 (gpc 0 (gpc 1 (gpc 3 (gpc 4 (gpc 5 (gpc 6 (gpc 7 gpn)))))))); clear S
 rw [hkt, List.take_length] at Aw
 have Bt := sep_tabs_join Aw; clear Aw
 have Bu := r_9 (Bt.p_4 103 2) (fun _ => Value.slice none 0 0) 3 (blkN (b.macs.take 0)) (blkC (b.macs.take 0)); clear Bt
 have BU := BT.as [(8, (iv 0)), (3, (bptr B 0)), (2, (bptr H 0)), (1, (bptr I 0))] rfl; clear BT
 refine g_7 (G := Nat) (fun (m : Nat) a_ w_ => ∃ vm_ : Value, ∃ lk_ : Nat → Value, Fr 116 [] [(8, (iv (m : Int))), (3, (bptr B 0)), (2, (bptr H 0)), (1, (bptr I 0))] a_ ∧ Sep NoB w w_ [(slsR true ((b.macs.take m).length) lk_ 3 (blkN (b.macs.take m)) (blkC (b.macs.take m))), (row vm_ 103 2 ((b.macs.take m).length) (q_4 lk_ (b.macs.take m))), (d_3 true vt_ lr_ lb_ b.tabs), (blk B 37 [(iv b.scales), vt_, vm_]), (blk H 37 [(iv 0), (Value.slice none 0 0), (Value.slice none 0 0)]), (blk I 25 [(iv b.scales), vt, vm]), (d_3 false vt lr lb b.tabs), (d_9 false vm lk b.macs)] ∧ (m ≤ b.macs.length)) (fun m => b.macs.length - m) 0 ⟨(Value.slice none 0 0), (fun _ => Value.slice none 0 0), BU.as _ rfl, (Bu.f_6 (i := 1) rfl (by rfl) (by rfl)), (Nat.zero_le _)⟩ ?_
 clear BU Bu DI
 rintro m DJ Ek ⟨vm_, lk_, AN, J, hkm⟩
 have hmtk : (b.macs.take m).length = m := by rw [List.length_take]; omega
 refine b_5 (m2 (s1 AN (a_1 rfl AN.e) fun DK AP => ?_)); clear AN DJ
 refine s1 AP (a_4 rfl q_2 AP.e) fun DL AQ => ?_; clear AP DK
 refine s1 AQ (a_3 rfl ac_5 AQ.e (J.bk 5 rfl) rfl) fun DM AR => ?_; clear AQ DL
 refine s1 AR (c_9 rfl ac_8 AR.e (c_8 (J.ok 7 _ rfl)).macs) fun DN c => ?_; clear AR DM
 refine s1 c (f_5 rfl c.e c.e) fun CK N => ?_; clear c DN
 refine n1 ?_
 by_cases CB : (m : Int) < (b.macs.length : Int)
 ·skip
  rw [decide_eq_true CB] at N
  have hmkk := hth.mac m
  refine b_7 N rfl (c_6 (a_7 (b_5 (c_2 (m2 (s1 N (a_4 rfl q_2 N.e) fun DO AS => ?_)))))); clear N CK
  refine s1 AS (a_3 rfl ac_5 AS.e (J.bk 5 rfl) rfl) fun DP AT => ?_; clear AS DO
  refine s1 AT (a_1 rfl AT.e) fun DQ d => ?_; clear AT DP
  refine s1 d (b_0 rfl ac_8 ab_3 d.e (i := m) d.e (c_8 (J.ok 7 _ rfl)).macs (by decide) (by omega)) fun DR AU => ?_; clear d DQ
  refine s1 AU (e_7 rfl ab_3 AU.e (c_8 (J.ok 7 _ rfl)).macs (w_7 (by omega)) rfl (by decide)) fun DS BV => ?_; clear AU DR
  refine s2 BV (e_0 J rfl ze_61 (cs := [(iv 0), (Value.slice none 0 0)]) rfl) ?_
  rintro DT _ El ⟨L, rfl, Ax⟩ f; clear BV J DS
  refine s7 f (c_0 Ax rfl ab_3 f.e f.e (i := 0) rfl (vs := [(iv ((b.macs.getD m mac0).scale)), (lk m)]) rfl rfl (i_8 rfl (i_8 (SlAt.one ((c_8 (Ax.ok 8 _ rfl)).blk (i := m) (by omega))) w_1)) (Nat.le_of_ble_eq_true rfl)) ?_
  intro _ Dz Bv BW; clear f
  have Ay : Sep NoB w Dz [(blk L 61 [(iv ((b.macs.getD m mac0).scale)), (lk m)]), (slsR true ((b.macs.take m).length) lk_ 3 (blkN (b.macs.take m)) (blkC (b.macs.take m))), (row vm_ 103 2 ((b.macs.take m).length) (q_4 lk_ (b.macs.take m))), (d_3 true vt_ lr_ lb_ b.tabs), (blk B 37 [(iv b.scales), vt_, vm_]), (blk H 37 [(iv 0), (Value.slice none 0 0), (Value.slice none 0 0)]), (blk I 25 [(iv b.scales), vt, vm]), (d_3 false vt lr lb b.tabs), (d_9 false vm lk b.macs)] := Bv; clear Bv Ax
  refine n2 ?_
  have AV := BW.as [(9, (bptr L 0)), (8, (iv (m : Int))), (3, (bptr B 0)), (2, (bptr H 0)), (1, (bptr I 0))] rfl; clear BW
  refine a_5 (s1 AV (a_4 rfl fd_61_0 AV.e) fun DU AW => ?_); clear AV DT
  refine s1 AW (a_3 rfl ty_3 AW.e (Ay.bk 0 rfl) rfl) fun DV AX => ?_; clear AW DU
  refine s1 AX (e_8 rfl (pv1 AX.e) (bd_103_0i _)) fun DW BX => ?_; clear AX DV
  refine s2 BX (e_0 Ay rfl ze_103 (cs := [(iv 0), (Value.slice none 0 0)]) rfl) ?_
  rintro DX _ Em ⟨O, rfl, Bw⟩ g; clear BX Ay DW
  refine s7 g (c_0 Bw rfl v_9 g.e g.e (i := 0) rfl (vs := [(iv ((b.macs.getD m mac0).scale)), (Value.slice none 0 0)]) rfl rfl (i_8 rfl (i_8 rfl w_1)) (Nat.le_of_ble_eq_true rfl)) ?_
  intro _ D0 Bx BY; clear g
  have By : Sep NoB w D0 [(blk O 103 [(iv ((b.macs.getD m mac0).scale)), (Value.slice none 0 0)]), (blk L 61 [(iv ((b.macs.getD m mac0).scale)), (lk m)]), (slsR true ((b.macs.take m).length) lk_ 3 (blkN (b.macs.take m)) (blkC (b.macs.take m))), (row vm_ 103 2 ((b.macs.take m).length) (q_4 lk_ (b.macs.take m))), (d_3 true vt_ lr_ lb_ b.tabs), (blk B 37 [(iv b.scales), vt_, vm_]), (blk H 37 [(iv 0), (Value.slice none 0 0), (Value.slice none 0 0)]), (blk I 25 [(iv b.scales), vt, vm]), (d_3 false vt lr lb b.tabs), (d_9 false vm lk b.macs)] := Bx; clear Bx Bw
  refine n2 (m2 (s1 BY (a_0 rfl (evc _ _)) fun DY BZ => ?_)); clear BY DX
  refine n1 (c_2 ?_)
  have Bz := By.p_4 100 3; clear By
  have Ba := BZ.as [(11, (iv 0)), (10, (bptr O 0)), (9, (bptr L 0)), (8, (iv (m : Int))), (3, (bptr B 0)), (2, (bptr H 0)), (1, (bptr I 0))] rfl; clear BZ
  refine g_7 (G := Nat) (fun (q : Nat) a_ w_ => ∃ vk_ : Value, Fr 116 [] [(11, (iv (q : Int))), (10, (bptr O 0)), (9, (bptr L 0)), (8, (iv (m : Int))), (3, (bptr B 0)), (2, (bptr H 0)), (1, (bptr I 0))] a_ ∧ Sep NoB w w_ [(row vk_ 100 3 (((b.macs.getD m mac0).blocks.take q).length) (trips ((b.macs.getD m mac0).blocks.take q))), (blk O 103 [(iv ((b.macs.getD m mac0).scale)), vk_]), (blk L 61 [(iv ((b.macs.getD m mac0).scale)), (lk m)]), (slsR true ((b.macs.take m).length) lk_ 3 (blkN (b.macs.take m)) (blkC (b.macs.take m))), (row vm_ 103 2 ((b.macs.take m).length) (q_4 lk_ (b.macs.take m))), (d_3 true vt_ lr_ lb_ b.tabs), (blk B 37 [(iv b.scales), vt_, vm_]), (blk H 37 [(iv 0), (Value.slice none 0 0), (Value.slice none 0 0)]), (blk I 25 [(iv b.scales), vt, vm]), (d_3 false vt lr lb b.tabs), (d_9 false vm lk b.macs)] ∧ (q ≤ (b.macs.getD m mac0).blocks.length)) (fun q => (b.macs.getD m mac0).blocks.length - q) 0 ⟨(Value.slice none 0 0), Ba.as _ rfl, (Bz.f_6 (i := 0) rfl (by rfl) (by rfl)), (Nat.zero_le _)⟩ ?_
  clear Ba Bz DY
  rintro q DZ En ⟨vk_, AY, Q, hkq⟩
  have hlt_q : ((b.macs.getD m mac0).blocks.take q).length ≤ 12 := by simp only [List.length_take]; omega
  refine b_5 (m2 (s1 AY (a_1 rfl AY.e) fun Da AZ => ?_)); clear AY DZ
  refine s1 AZ (a_4 rfl x_7 AZ.e) fun Db Aa => ?_; clear AZ Da
  refine s1 Aa (a_3 rfl ty_59 Aa.e (Q.bk 2 rfl) rfl) fun Dc Ab => ?_; clear Aa Db
  refine s1 Ab (c_9 rfl un_59 Ab.e ((c_8 (Q.ok 10 _ rfl)).blk (i := m) (by omega))) fun Dd n => ?_; clear Ab Dc
  refine s1 n (f_5 rfl n.e n.e) fun De P => ?_; clear n Dd
  refine n1 ?_
  by_cases CC : (q : Int) < ((b.macs.getD m mac0).blocks.length : Int)
  ·skip
   rw [decide_eq_true CC] at P
   refine b_7 P rfl (c_6 (a_7 (b_5 (c_2 ?_))))
   have Bb := P.as [(11, (iv (q : Int))), (10, (bptr O 0)), (9, (bptr L 0)), (8, (iv (m : Int))), (3, (bptr B 0)), (2, (bptr H 0)), (1, (bptr I 0))] rfl; clear P
   refine x_4 mixed Bb Q 17 [[], [0], [], [2], [], [3, 4], [5], [6], [7], [], [9], [], [10, 11], [12], [13], [8, 14], [15]] [(yw (bptr O 1)), (yw vk_), (yw (bptr L 1)), (yw (lk m)), (yw (iv (q : Int))), (yw (eptr (lk m) (q * 3))), (yw (eptr (lk m) (q * 3 + 0))), (yw (Value.agg #[(iv ((((b.macs.getD m mac0).blocks).getD q (0, 0, 0)).1)), (iv ((((b.macs.getD m mac0).blocks).getD q (0, 0, 0)).2.1))])), (yw (Value.agg #[(iv ((((b.macs.getD m mac0).blocks).getD q (0, 0, 0)).1)), (iv ((((b.macs.getD m mac0).blocks).getD q (0, 0, 0)).2.1))])), (yw (bptr L 1)), (yw (lk m)), (yw (iv (q : Int))), (yw (eptr (lk m) (q * 3))), (yw (eptr (lk m) (q * 3 + 2))), (yw (iv ((((b.macs.getD m mac0).blocks).getD q (0, 0, 0)).2.2))), (yw (Value.agg #[(iv ((((b.macs.getD m mac0).blocks).getD q (0, 0, 0)).1)), (iv ((((b.macs.getD m mac0).blocks).getD q (0, 0, 0)).2.1)), (iv ((((b.macs.getD m mac0).blocks).getD q (0, 0, 0)).2.2))])), (fun (C : Nat → Value) (v_ : Value) (rs_ : List Res) => True ∧ rs_ = [(row v_ 100 3 1 [(iv ((((b.macs.getD m mac0).blocks).getD q (0, 0, 0)).1)), (iv ((((b.macs.getD m mac0).blocks).getD q (0, 0, 0)).2.1)), (iv ((((b.macs.getD m mac0).blocks).getD q (0, 0, 0)).2.2))])])] (by decide +kernel) (by decide +kernel) rfl rfl ⟨dw, dw, dw, dw, dw, dw, dw, dw, dw, dw, dw, dw, dw, dw, dw, dw, (fun _ _ _ _ _ h_ => h_), trivial⟩ ?_ ?_
   ·skip
    refine ⟨fun a w C hA hS hd => gv1 (a_4 rfl fd_103_1 hA.e), ?_⟩
    refine ⟨fun a w C hA hS hd => gv1 (a_3 rfl ty_101 (gu hd 0) (hS.bk 1 rfl) rfl), ?_⟩
    refine ⟨fun a w C hA hS hd => gv1 (a_4 rfl x_7 hA.e), ?_⟩
    refine ⟨fun a w C hA hS hd => gv1 (a_3 rfl ty_59 (gu hd 2) (hS.bk 2 rfl) rfl), ?_⟩
    refine ⟨fun a w C hA hS hd => gv1 (a_1 rfl hA.e), ?_⟩
    refine ⟨fun a w C hA hS hd => gv1 (b_0 rfl un_59 ty_63 (gu hd 3) (i := q) (gu hd 4) ((c_8 (hS.ok 10 _ rfl)).blk (i := m) (by omega)) (by decide) (by omega)), ?_⟩
    refine ⟨fun a w C hA hS hd => gv1 (d_1 rfl fd_63_0 (gu hd 5) ((c_8 (hS.ok 10 _ rfl)).blk (i := m) (by omega)) (by rw [(((c_8 (hS.ok 10 _ rfl)).blk (i := m) (by omega))).1]; omega)), ?_⟩
    refine ⟨fun a w C hA hS hd => gv1 (e_7 rfl k_6 (gu hd 6) ((c_8 (hS.ok 10 _ rfl)).blk (i := m) (by omega)) (trips_sub0 (by omega)) rfl (by decide)), ?_⟩
    refine ⟨fun a w C hA hS hd => gx1 (b_3 rfl en_20 (ev1 (gu hd 7)) (to_ok _ _ _)), ?_⟩
    refine ⟨fun a w C hA hS hd => gv1 (a_4 rfl x_7 hA.e), ?_⟩
    refine ⟨fun a w C hA hS hd => gv1 (a_3 rfl ty_59 (gu hd 9) (hS.bk 2 rfl) rfl), ?_⟩
    refine ⟨fun a w C hA hS hd => gv1 (a_1 rfl hA.e), ?_⟩
    refine ⟨fun a w C hA hS hd => gv1 (b_0 rfl un_59 ty_63 (gu hd 10) (i := q) (gu hd 11) ((c_8 (hS.ok 10 _ rfl)).blk (i := m) (by omega)) (by decide) (by omega)), ?_⟩
    refine ⟨fun a w C hA hS hd => gv1 (d_1 rfl fd_63_1 (gu hd 12) ((c_8 (hS.ok 10 _ rfl)).blk (i := m) (by omega)) (by rw [(((c_8 (hS.ok 10 _ rfl)).blk (i := m) (by omega))).1]; omega)), ?_⟩
    refine ⟨fun a w C hA hS hd => gv1 (b_9 rfl ty_3 (gu hd 13) ((c_8 (hS.ok 10 _ rfl)).blk (i := m) (by omega)) (trips_at2 (by omega))), ?_⟩
    refine ⟨fun a w C hA hS hd => gv1 (e_8 rfl (pv2 (gu hd 8) (gu hd 14)) (s_2 _ _ _)), ?_⟩
    refine ⟨fun a w C hA hS hd => d_4 rfl (vblt rfl (pv1 (gu hd 15)) ac_7 ac_4 ze_100 (by decide) (cs := [(iv ((((b.macs.getD m mac0).blocks).getD q (0, 0, 0)).1)), (iv ((((b.macs.getD m mac0).blocks).getD q (0, 0, 0)).2.1)), (iv ((((b.macs.getD m mac0).blocks).getD q (0, 0, 0)).2.2))]) (bs_100_1_0iiia _ _ _) rfl (by decide) (fun _ => And.intro trivial rfl)), ?_⟩
    trivial
   intro CL D1 C rsf252 Bc E Az; clear Bb Q
   obtain ⟨CH, C0⟩ := E 16 (by decide)
   obtain ⟨Cx, CF⟩ := C0
   have A0 : Sep NoB w D1 [(row (C 16) 100 3 1 [(iv ((((b.macs.getD m mac0).blocks).getD q (0, 0, 0)).1)), (iv ((((b.macs.getD m mac0).blocks).getD q (0, 0, 0)).2.1)), (iv ((((b.macs.getD m mac0).blocks).getD q (0, 0, 0)).2.2))]), (row vk_ 100 3 (((b.macs.getD m mac0).blocks.take q).length) (trips ((b.macs.getD m mac0).blocks.take q))), (blk O 103 [(iv ((b.macs.getD m mac0).scale)), vk_]), (blk L 61 [(iv ((b.macs.getD m mac0).scale)), (lk m)]), (slsR true ((b.macs.take m).length) lk_ 3 (blkN (b.macs.take m)) (blkC (b.macs.take m))), (row vm_ 103 2 ((b.macs.take m).length) (q_4 lk_ (b.macs.take m))), (d_3 true vt_ lr_ lb_ b.tabs), (blk B 37 [(iv b.scales), vt_, vm_]), (blk H 37 [(iv 0), (Value.slice none 0 0), (Value.slice none 0 0)]), (blk I 25 [(iv b.scales), vt, vm]), (d_3 false vt lr lb b.tabs), (d_9 false vm lk b.macs)] := by rw [show catR rsf252 0 17 = ([(row (C 16) 100 3 1 [(iv ((((b.macs.getD m mac0).blocks).getD q (0, 0, 0)).1)), (iv ((((b.macs.getD m mac0).blocks).getD q (0, 0, 0)).2.1)), (iv ((((b.macs.getD m mac0).blocks).getD q (0, 0, 0)).2.2))])] : List Res) by (try simp only [catR, gr (E 0 (by decide)), gr (E 1 (by decide)), gr (E 2 (by decide)), gr (E 3 (by decide)), gr (E 4 (by decide)), gr (E 5 (by decide)), gr (E 6 (by decide)), gr (E 7 (by decide)), gr (E 8 (by decide)), gr (E 9 (by decide)), gr (E 10 (by decide)), gr (E 11 (by decide)), gr (E 12 (by decide)), gr (E 13 (by decide)), gr (E 14 (by decide)), gr (E 15 (by decide)), CF]); (try rfl)] at Az; exact Az
   have Bd := Bc.add (gs (E 1 (by decide))); clear Bc
   have o : Fr 116 [] [(106, (C 16)), (91, vk_), (11, (iv (q : Int))), (10, (bptr O 0)), (9, (bptr L 0)), (8, (iv (m : Int))), (3, (bptr B 0)), (2, (bptr H 0)), (1, (bptr I 0))] CL := Bd.add (h_2 CH rfl); clear Bd
   clear E Az CH
   clear CF
   clear Cx
   refine s2 o (j_9 A0 rfl ac_7 el_100 o.e o.e (i := 1) rfl (SlAt.d_6 (A0.e_4 0 rfl)) rfl (by simp only [maxLen]; omega) (by omega)) ?_
   intro Df A6 Eo B0 Ac
   have y := B0.f_6 (i := 1) rfl (n' := (((b.macs.getD m mac0).blocks.take q) ++ [(b.macs.getD m mac0).blocks.getD q (0, 0, 0)]).length) (xs' := (trips (((b.macs.getD m mac0).blocks.take q) ++ [(b.macs.getD m mac0).blocks.getD q (0, 0, 0)]))) (by simp) (by simp [trips]); clear B0 o A0 CL
   refine s1 Ac (a_4 rfl fd_103_1 Ac.e) fun Dg p => ?_; clear Ac Df
   refine s7 p (c_0 y rfl ty_101 p.e p.e (i := 2) rfl (vs := [A6]) (r_7 (SlAt.isSl (SlAt.d_6 (y.e_4 1 rfl)))) rfl (i_8 (SlAt.one (SlAt.d_6 (y.e_4 1 rfl))) w_1) (Nat.le_of_ble_eq_true rfl)) ?_
   intro _ D2 B1 Ad; clear p
   have B2 : Sep NoB w D2 [(row (C 16) 100 3 1 [(iv ((((b.macs.getD m mac0).blocks).getD q (0, 0, 0)).1)), (iv ((((b.macs.getD m mac0).blocks).getD q (0, 0, 0)).2.1)), (iv ((((b.macs.getD m mac0).blocks).getD q (0, 0, 0)).2.2))]), (row A6 100 3 ((((b.macs.getD m mac0).blocks.take q) ++ [(b.macs.getD m mac0).blocks.getD q (0, 0, 0)]).length) (trips (((b.macs.getD m mac0).blocks.take q) ++ [(b.macs.getD m mac0).blocks.getD q (0, 0, 0)]))), (blk O 103 [(iv ((b.macs.getD m mac0).scale)), A6]), (blk L 61 [(iv ((b.macs.getD m mac0).scale)), (lk m)]), (slsR true ((b.macs.take m).length) lk_ 3 (blkN (b.macs.take m)) (blkC (b.macs.take m))), (row vm_ 103 2 ((b.macs.take m).length) (q_4 lk_ (b.macs.take m))), (d_3 true vt_ lr_ lb_ b.tabs), (blk B 37 [(iv b.scales), vt_, vm_]), (blk H 37 [(iv 0), (Value.slice none 0 0), (Value.slice none 0 0)]), (blk I 25 [(iv b.scales), vt, vm]), (d_3 false vt lr lb b.tabs), (d_9 false vm lk b.macs)] := B1; clear B1 y
   refine e_2 (g_6 (a_7 (a_5 (s1 Ad (a_1 rfl Ad.e) fun Dh Ae => ?_)))); clear Ad Dg
   refine s1 Ae (f_0 rfl Ae.e (evc _ _) (by omega) (by omega)) fun Di Af => ?_; clear Ae Dh
   refine s1 Af (a_0 rfl Af.e) fun Ec Cp => ?_; clear Af Di
   refine e_2 ?_
   have Ct := B2.gkp (gpc 1 (gpc 2 (gpc 3 (gpc 4 (gpc 5 (gpc 6 (gpc 7 (gpc 8 (gpc 9 (gpc 10 (gpc 11 gpn))))))))))); clear B2
   exact a_7 ⟨q + 1, ⟨A6, Cp.as _ rfl, (Ct.f_6 (i := 0) rfl (by rw [s_9 (by omega)]) (by rw [s_9 (by omega)])), by omega⟩, by omega⟩
  skip
  rw [decide_eq_false CC] at P
  refine b_4 P rfl (g_3 (b_1 (b_1 (f_1 (a_7 ?_)))))
  have Ag := P.as [(10, (bptr O 0)), (8, (iv (m : Int))), (3, (bptr B 0)), (2, (bptr H 0)), (1, (bptr I 0))] rfl; clear P
  refine a_5 (s1 Ag (a_4 rfl x_5 Ag.e) fun Dj Ah => ?_); clear Ag De
  refine s1 Ah (a_3 rfl ty_35 Ah.e (Q.bk 6 rfl) rfl) fun Dk Ai => ?_; clear Ah Dj
  refine s1 Ai (c_5 rfl v_9 (Ai.ev rfl) (Q.bk 1 rfl) (l := [(iv ((b.macs.getD m mac0).scale)), vk_]) rfl rfl) fun Dl Aj => ?_; clear Ai Dk
  refine s2 Aj (f_9 Q rfl (pv1 Aj.e) ad_8 v_9 ze_103 (by decide) (cs := [(iv ((b.macs.getD m mac0).scale)), vk_]) (bs_103_1_0iva _ _)) ?_
  rintro Dm _ Ep ⟨Ds, rfl, z⟩ r; clear Aj Q Dl
  refine s2 r (j_9 z rfl ad_8 el_103 r.e r.e (i := 5) rfl (SlAt.of_blk (z.bk 0 rfl) rfl (Nat.le_of_ble_eq_true rfl)) (i_8 rfl (i_8 (SlAt.one (SlAt.d_6 (z.e_4 1 rfl))) w_1)) (by simp only [maxLen]; omega) (by omega)) ?_
  intro Dn A7 Eq B3 Ak
  have AA := B3.f_6 (i := 5) rfl (n' := ((b.macs.take m) ++ [(b.macs.getD m mac0)]).length) (xs' := (q_4 (putV (b.macs.take m).length lk_ vk_) ((b.macs.take m) ++ [(b.macs.getD m mac0)]))) (by simp) (macs_snoc (b.macs.getD m mac0) vk_); clear B3 r z Dm
  refine s1 Ak (a_4 rfl x_5 Ak.e) fun Do s => ?_; clear Ak Dn
  refine s7 s (c_0 AA rfl ty_35 s.e s.e (i := 7) rfl (vs := [A7]) (r_7 (SlAt.isSl (SlAt.d_6 (AA.e_4 5 rfl)))) rfl (i_8 (SlAt.one (SlAt.d_6 (AA.e_4 5 rfl))) w_1) (Nat.le_of_ble_eq_true rfl)) ?_
  intro _ D3 B4 Be; clear s
  have B5 : Sep NoB w D3 [(blk Ds 103 [(iv ((b.macs.getD m mac0).scale)), vk_]), (row vk_ 100 3 (((b.macs.getD m mac0).blocks.take q).length) (trips ((b.macs.getD m mac0).blocks.take q))), (blk O 103 [(iv ((b.macs.getD m mac0).scale)), vk_]), (blk L 61 [(iv ((b.macs.getD m mac0).scale)), (lk m)]), (slsR true ((b.macs.take m).length) lk_ 3 (blkN (b.macs.take m)) (blkC (b.macs.take m))), (row A7 103 2 (((b.macs.take m) ++ [(b.macs.getD m mac0)]).length) (q_4 (putV (b.macs.take m).length lk_ vk_) ((b.macs.take m) ++ [(b.macs.getD m mac0)]))), (d_3 true vt_ lr_ lb_ b.tabs), (blk B 37 [(iv b.scales), vt_, A7]), (blk H 37 [(iv 0), (Value.slice none 0 0), (Value.slice none 0 0)]), (blk I 25 [(iv b.scales), vt, vm]), (d_3 false vt lr lb b.tabs), (d_9 false vm lk b.macs)] := B4; clear B4 AA
  refine e_2 (g_6 (a_7 ?_))
  have Al := Be.as [(8, (iv (m : Int))), (3, (bptr B 0)), (2, (bptr H 0)), (1, (bptr I 0))] rfl; clear Be
  refine a_5 (s1 Al (a_1 rfl Al.e) fun Dp Am => ?_); clear Al Do
  refine s1 Am (f_0 rfl Am.e (evc _ _) (by omega) (by omega)) fun Dq An => ?_; clear Am Dp
  refine s1 An (a_0 rfl An.e) fun Ed Cq => ?_; clear An Dq
  refine e_2 ?_
  have B6 := B5.f_6 (i := 1) rfl (n' := (b.macs.getD m mac0).blocks.length) (xs' := trips (b.macs.getD m mac0).blocks) (by rw [List.take_of_length_le (by omega)]) (by rw [List.take_of_length_le (by omega)]); clear B5
  have B7 := B6.gkp (gpc 1 (gpc 4 (gpc 0 (gpc 2 (gpc 3 (gpc 5 (gpc 6 (gpc 7 (gpc 8 (gpc 9 (gpc 10 (gpc 11 gpn)))))))))))); clear B6
  have B8 := l_4 (k' := blkN (b.macs.take (m + 1))) (c' := blkC (b.macs.take (m + 1))) B7 (blkN_new (by omega)).1 (blkN_new (by omega)).2 blkN_old; clear B7
  have B9 := sep_sls_say (i := 0) (n' := (b.macs.take (m + 1)).length) (v' := (putV (b.macs.take m).length lk_ vk_)) (k' := blkN (b.macs.take (m + 1))) (c' := blkC (b.macs.take (m + 1))) B8 rfl (take_len1 (by omega)) (fun _ _ => ⟨rfl, rfl, rfl⟩); clear B8
  have Cu := B9.gkp (gpc 0 (gpc 4 (gpc 5 (gpc 6 (gpc 7 (gpc 8 (gpc 9 (gpc 10 gpn)))))))); clear B9
  exact a_7 ⟨m + 1, ⟨A7, (putV (b.macs.take m).length lk_ vk_), Cq.as _ rfl, (Cu.f_6 (i := 1) rfl (by rw [s_9 (by omega)]) (by rw [s_9 (by omega)])), by omega⟩, by omega⟩
 skip
 rw [decide_eq_false CB] at N
 refine b_4 N rfl (g_3 (b_1 (b_1 (f_1 (a_7 (b_5 ?_))))))
 have Ao := N.as [(3, (bptr B 0)), (2, (bptr H 0))] rfl; clear N
 refine a_5 (s1 Ao (c_5 rfl w_2 (Ao.ev rfl) (J.bk 3 rfl) (l := [(iv b.scales), vt_, vm_]) rfl rfl) fun Ee t => ?_); clear Ao CK
 refine s7 t (c_0 J rfl w_2 t.e t.e (i := 4) rfl (vs := [(iv b.scales), vt_, vm_]) rfl rfl (i_8 rfl (i_8 ((c_1 (J.ok 2 _ rfl)).tabs.one) (i_8 (SlAt.one (SlAt.d_6 (J.e_4 1 rfl))) w_1))) (Nat.le_of_ble_eq_true rfl)) ?_
 intro _ D4 CA Bf; clear t
 have A1 : Sep NoB w D4 [(slsR true ((b.macs.take m).length) lk_ 3 (blkN (b.macs.take m)) (blkC (b.macs.take m))), (row vm_ 103 2 ((b.macs.take m).length) (q_4 lk_ (b.macs.take m))), (d_3 true vt_ lr_ lb_ b.tabs), (blk B 37 [(iv b.scales), vt_, vm_]), (blk H 37 [(iv b.scales), vt_, vm_]), (blk I 25 [(iv b.scales), vt, vm]), (d_3 false vt lr lb b.tabs), (d_9 false vm lk b.macs)] := CA; clear CA J
 refine n1 (c_4 (a_9 Bf (.inl rfl) (a_2 Bf rfl (.cellA rfl w_2 (A1.bk 4 rfl) (l := [(iv b.scales), vt_, vm_]) rfl rfl)) ?_))
 have Cv := A1.gkp (gpc 1 (gpc 0 (gpc 2 gpn))); clear A1
 have hmt : m = b.macs.length := by omega
 have hz := Cv
 rw [hmt, List.take_length] at hz
 exact ⟨_, _, _, _, _, rfl, (sep_macs_join hz).keep [1, 0] (by decide) _ rfl rfl⟩
end Go.Proofs.Ytohgladndklciaa

namespace Go.Hard
def e_3 : h_7 := ⟨3, [⟨0, 1, [(100, 200), (200, 300), (300, 500), (400, 600)], [2], 2⟩, ⟨1, 2, [(250, 90), (350, 50)], [], 0⟩], [⟨0, [(150, 154, 160), (240, 246, 249)]⟩, ⟨1, [(300, 300, 299)]⟩]⟩
open Go.RowKit Go.Eng in
theorem kept_tabsC (a b c d : Value) : o_6 (putV 1 (putV 0 (fun _ => Value.slice none 0 0) a) c) (putV 1 (putV 0 (fun _ => Value.slice none 0 0) b) d) e_3.tabs = [.int .i64 0, .int .i64 1, a, b, .int .i64 2, .int .i64 1, .int .i64 2, c, d, .int .i64 0] := rfl
open Go.RowKit Go.Eng in
theorem kept_macsC (a b : Value) : q_4 (putV 1 (putV 0 (fun _ => Value.slice none 0 0) a) b) e_3.macs = [.int .i64 0, a, .int .i64 1, b] := rfl
theorem kept_thin : n_5 e_3 := (thin_iff (n := 0)).1 (by decide) |>.1
theorem kept_read : k_9 e_3 [(0, 170)] = 0 := by decide
theorem kept_spans : k_5 e_3 [(0, 170)] = some [(161, 164), (259, 266), (83, 87)] := by
  unfold k_5
  rw [if_pos (by decide)]
  show t_4 3 _ (400000 + 1) _ = _
  rw [t_4, if_pos (by decide), if_neg (by decide)]
  show t_4 3 _ (399999 + 1) _ = _
  rw [t_4, if_pos (by decide), if_pos (by decide)]
  decide
end Go.Hard

namespace Go.Proofs.Ytohgladndklciaa
open Go.RowKit Go.Shelf Go.Eng Go.Hard
theorem bs_107_4_0iia_1iia_2iia_3iia (x0_0 : Int) (x0_1 : Int) (x1_0 : Int) (x1_1 : Int) (x2_0 : Int) (x2_1 : Int) (x3_0 : Int) (x3_1 : Int) : Instr.fill (fun i => some (i * 2, 2)) ((Array.range (4 * 2)).map ((Value.agg #[(iv 0), (iv 0)]).cells[· % (Value.agg #[(iv 0), (iv 0)]).cells.size]!)) [(0, .agg #[(.int .i64 x0_0), (.int .i64 x0_1)]), (1, .agg #[(.int .i64 x1_0), (.int .i64 x1_1)]), (2, .agg #[(.int .i64 x2_0), (.int .i64 x2_1)]), (3, .agg #[(.int .i64 x3_0), (.int .i64 x3_1)])] = some (([(.int .i64 x0_0), (.int .i64 x0_1), (.int .i64 x1_0), (.int .i64 x1_1), (.int .i64 x2_0), (.int .i64 x2_1), (.int .i64 x3_0), (.int .i64 x3_1)] : List Value).toArray) := by kernel_rfl
theorem bd_106_0i_1i_2s_3s_4i (x0_0 : Int) (x1_0 : Int) (x2_0 : Value) (hx2_0 : IsSl x2_0) (x3_0 : Value) (hx3_0 : IsSl x3_0) (x4_0 : Int) (w : World) : (Instr.build 106 #[(0, (.int .i64 x0_0)), (1, (.int .i64 x1_0)), (2, x2_0), (3, x3_0), (4, (.int .i64 x4_0))]).run Try.prog w = .ok (.agg #[(.int .i64 x0_0), (.int .i64 x1_0), x2_0, x3_0, (.int .i64 x4_0)]) w := by obtain ⟨Ax2_0, Bx2_0, Cx2_0, rfl⟩ := hx2_0; obtain ⟨Ax3_0, Bx3_0, Cx3_0, rfl⟩ := hx3_0; kernel_rfl
theorem bs_107_2_0iia_1iia (x0_0 : Int) (x0_1 : Int) (x1_0 : Int) (x1_1 : Int) : Instr.fill (fun i => some (i * 2, 2)) ((Array.range (2 * 2)).map ((Value.agg #[(iv 0), (iv 0)]).cells[· % (Value.agg #[(iv 0), (iv 0)]).cells.size]!)) [(0, .agg #[(.int .i64 x0_0), (.int .i64 x0_1)]), (1, .agg #[(.int .i64 x1_0), (.int .i64 x1_1)])] = some (([(.int .i64 x0_0), (.int .i64 x0_1), (.int .i64 x1_0), (.int .i64 x1_1)] : List Value).toArray) := by kernel_rfl
theorem bd_106_0i_1i_2s (x0_0 : Int) (x1_0 : Int) (x2_0 : Value) (hx2_0 : IsSl x2_0) (w : World) : (Instr.build 106 #[(0, (.int .i64 x0_0)), (1, (.int .i64 x1_0)), (2, x2_0)]).run Try.prog w = .ok (.agg #[(.int .i64 x0_0), (.int .i64 x1_0), x2_0, (Value.slice none 0 0), (iv 0)]) w := by obtain ⟨Ax2_0, Bx2_0, Cx2_0, rfl⟩ := hx2_0; kernel_rfl
theorem bs_106_2_0iivvia_1iivvia (x0_0 : Int) (x0_1 : Int) (x0_2 : Value) (x0_3 : Value) (x0_4 : Int) (x1_0 : Int) (x1_1 : Int) (x1_2 : Value) (x1_3 : Value) (x1_4 : Int) : Instr.fill (fun i => some (i * 5, 5)) ((Array.range (2 * 5)).map ((Value.agg #[(iv 0), (iv 0), (Value.slice none 0 0), (Value.slice none 0 0), (iv 0)]).cells[· % (Value.agg #[(iv 0), (iv 0), (Value.slice none 0 0), (Value.slice none 0 0), (iv 0)]).cells.size]!)) [(0, .agg #[(.int .i64 x0_0), (.int .i64 x0_1), x0_2, x0_3, (.int .i64 x0_4)]), (1, .agg #[(.int .i64 x1_0), (.int .i64 x1_1), x1_2, x1_3, (.int .i64 x1_4)])] = some (([(.int .i64 x0_0), (.int .i64 x0_1), x0_2, x0_3, (.int .i64 x0_4), (.int .i64 x1_0), (.int .i64 x1_1), x1_2, x1_3, (.int .i64 x1_4)] : List Value).toArray) := by kernel_rfl
theorem en_31 : ∀ args w, (callFunc 31 args).run Try.prog w = .ok (.enter 31 args) w := enters_of Try.func31 (by kernel_rfl) rfl
theorem bs_100_2_0iiia_1iiia (x0_0 : Int) (x0_1 : Int) (x0_2 : Int) (x1_0 : Int) (x1_1 : Int) (x1_2 : Int) : Instr.fill (fun i => some (i * 3, 3)) ((Array.range (2 * 3)).map ((Value.agg #[(iv 0), (iv 0), (iv 0)]).cells[· % (Value.agg #[(iv 0), (iv 0), (iv 0)]).cells.size]!)) [(0, .agg #[(.int .i64 x0_0), (.int .i64 x0_1), (.int .i64 x0_2)]), (1, .agg #[(.int .i64 x1_0), (.int .i64 x1_1), (.int .i64 x1_2)])] = some (([(.int .i64 x0_0), (.int .i64 x0_1), (.int .i64 x0_2), (.int .i64 x1_0), (.int .i64 x1_1), (.int .i64 x1_2)] : List Value).toArray) := by kernel_rfl
theorem bd_103_0i_1s (x0_0 : Int) (x1_0 : Value) (hx1_0 : IsSl x1_0) (w : World) : (Instr.build 103 #[(0, (.int .i64 x0_0)), (1, x1_0)]).run Try.prog w = .ok (.agg #[(.int .i64 x0_0), x1_0]) w := by obtain ⟨Ax1_0, Bx1_0, Cx1_0, rfl⟩ := hx1_0; kernel_rfl
theorem bs_103_2_0iva_1iva (x0_0 : Int) (x0_1 : Value) (x1_0 : Int) (x1_1 : Value) : Instr.fill (fun i => some (i * 2, 2)) ((Array.range (2 * 2)).map ((Value.agg #[(iv 0), (Value.slice none 0 0)]).cells[· % (Value.agg #[(iv 0), (Value.slice none 0 0)]).cells.size]!)) [(0, .agg #[(.int .i64 x0_0), x0_1]), (1, .agg #[(.int .i64 x1_0), x1_1])] = some (([(.int .i64 x0_0), x0_1, (.int .i64 x1_0), x1_1] : List Value).toArray) := by kernel_rfl
theorem bd_37_0i_1s_2s (x0_0 : Int) (x1_0 : Value) (hx1_0 : IsSl x1_0) (x2_0 : Value) (hx2_0 : IsSl x2_0) (w : World) : (Instr.build 37 #[(0, (.int .i64 x0_0)), (1, x1_0), (2, x2_0)]).run Try.prog w = .ok (.agg #[(.int .i64 x0_0), x1_0, x2_0]) w := by obtain ⟨Ax1_0, Bx1_0, Cx1_0, rfl⟩ := hx1_0; obtain ⟨Ax2_0, Bx2_0, Cx2_0, rfl⟩ := hx2_0; kernel_rfl
set_option maxHeartbeats 1000000 in
theorem kept_ok (w : World) :
  Calls Try.prog 46 #[] w (Ret fun v w' => ∃ vt' vm' lr' lb' lk', v = .agg #[.int .i64 e_3.scales, vt', vm'] ∧ Sep NoB w w' [d_3 true vt' lr' lb' e_3.tabs, d_9 true vm' lk' e_3.macs]) := by
 refine a_8 Try.func46 rfl fun a0 X => ?_
 replace X : Fr 25 [] [] a0 := X
 have AE : Sep NoB w w [] := Sep.start _ _
 refine m2 (s2 X (e_0 AE rfl ze_37 (cs := [(iv 0), (Value.slice none 0 0), (Value.slice none 0 0)]) rfl) ?_)
 rintro a1 _ w3 ⟨b4, rfl, AF⟩ AB; clear X AE a0
 refine n4 (s1 AB (e_8 rfl (pv2 (evc _ _) (evc _ _)) (n_6 _ _)) fun a6 AC => ?_); clear AB a1
 refine s1 AC (e_8 rfl (pv2 (evc _ _) (evc _ _)) (n_6 _ _)) fun a8 AD => ?_; clear AC a6
 refine s1 AD (e_8 rfl (pv2 (evc _ _) (evc _ _)) (n_6 _ _)) fun AW Y => ?_; clear AD a8
 refine s1 Y (e_8 rfl (pv2 (evc _ _) (evc _ _)) (n_6 _ _)) fun AX I => ?_; clear Y AW
 refine s2 I (f_9 AF rfl (pv4 I.e I.e I.e I.e) l_1 j_2 aa_2 (by decide) (cs := [(iv 100), (iv 200), (iv 200), (iv 300), (iv 300), (iv 500), (iv 400), (iv 600)]) (bs_107_4_0iia_1iia_2iia_3iia _ _ _ _ _ _ _ _)) ?_
 rintro AY _ BC ⟨C, rfl, m⟩ Z; clear I AF AX
 refine s2 Z (f_9 m rfl (pv1 (evc _ _)) j_3 ty_3 ze_3 (by decide) (cs := [(iv 2)]) (bs_3_1_0i _)) ?_
 rintro AZ _ BD ⟨D, rfl, o⟩ J; clear Z m AY
 refine s1 J (e_8 rfl (pv5 (evc _ _) (evc _ _) J.e J.e (evc _ _)) (bd_106_0i_1i_2s_3s_4i _ _ _ ⟨_, _, _, rfl⟩ _ ⟨_, _, _, rfl⟩ _)) fun Aa a => ?_; clear J AZ
 refine s1 a (e_8 rfl (pv2 (evc _ _) (evc _ _)) (n_6 _ _)) fun Ab b => ?_; clear a Aa
 refine s1 b (e_8 rfl (pv2 (evc _ _) (evc _ _)) (n_6 _ _)) fun Ac K => ?_; clear b Ab
 refine s2 K (f_9 o rfl (pv2 K.e K.e) l_1 j_2 aa_2 (by decide) (cs := [(iv 250), (iv 90), (iv 350), (iv 50)]) (bs_107_2_0iia_1iia _ _ _ _)) ?_
 rintro Ad _ BE ⟨E, rfl, p⟩ Q; clear K o Ac
 refine s1 Q (e_8 rfl (pv3 (evc _ _) (evc _ _) Q.e) (bd_106_0i_1i_2s _ _ _ ⟨_, _, _, rfl⟩)) fun Ae L => ?_; clear Q Ad
 refine s2 L (f_9 p rfl (pv2 L.e L.e) ac_2 m_0 ze_106 (by decide) (cs := [(iv 0), (iv 1), (Value.slice (some ⟨C, 0, none⟩) 4 4), (Value.slice (some ⟨D, 0, none⟩) 1 1), (iv 2), (iv 1), (iv 2), (Value.slice (some ⟨E, 0, none⟩) 2 2), (Value.slice none 0 0), (iv 0)]) (bs_106_2_0iivvia_1iivvia _ _ _ _ _ _ _ _ _ _)) ?_
 rintro Af _ BF ⟨F, rfl, q⟩ c; clear L p Ae
 refine s2 c (b_3 rfl en_31 (ev2 (evc _ _) (evc _ _)) (o_1 _ _ _)) ?_
 rintro Ag _ BG ⟨rfl, h⟩ R; have r := q.step h; clear h c q Af
 refine s1 R (e_8 rfl (pv2 R.e (evc _ _)) (s_2 _ _ _)) fun Ah d => ?_; clear R Ag
 refine s2 d (b_3 rfl en_31 (ev2 (evc _ _) (evc _ _)) (o_1 _ _ _)) ?_
 rintro Ai _ BH ⟨rfl, j⟩ S; have s := r.step j; clear j d r Ah
 refine s1 S (e_8 rfl (pv2 S.e (evc _ _)) (s_2 _ _ _)) fun Aj M => ?_; clear S Ai
 refine s2 M (f_9 s rfl (pv2 M.e M.e) ac_7 ac_4 ze_100 (by decide) (cs := [(iv 150), (iv 154), (iv 160), (iv 240), (iv 246), (iv 249)]) (bs_100_2_0iiia_1iiia _ _ _ _ _ _)) ?_
 rintro Ak _ BI ⟨A, rfl, t⟩ T; clear M s Aj
 refine s1 T (e_8 rfl (pv2 (evc _ _) T.e) (bd_103_0i_1s _ _ ⟨_, _, _, rfl⟩)) fun Al f => ?_; clear T Ak
 refine s2 f (b_3 rfl en_31 (ev2 (evc _ _) (evc _ _)) (o_1 _ _ _)) ?_
 rintro Am _ BJ ⟨rfl, k⟩ U; have u := t.step k; clear k f t Al
 refine s1 U (e_8 rfl (pv2 U.e (evc _ _)) (s_2 _ _ _)) fun An V => ?_; clear U Am
 refine s2 V (f_9 u rfl (pv1 V.e) ac_7 ac_4 ze_100 (by decide) (cs := [(iv 300), (iv 300), (iv 299)]) (bs_100_1_0iiia _ _ _)) ?_
 rintro Ao _ BK ⟨B, rfl, x⟩ W; clear V u An
 refine s1 W (e_8 rfl (pv2 (evc _ _) W.e) (bd_103_0i_1s _ _ ⟨_, _, _, rfl⟩)) fun Ap N => ?_; clear W Ao
 refine s2 N (f_9 x rfl (pv2 N.e N.e) ad_8 v_9 ze_103 (by decide) (cs := [(iv 0), (Value.slice (some ⟨A, 0, none⟩) 2 2), (iv 1), (Value.slice (some ⟨B, 0, none⟩) 1 1)]) (bs_103_2_0iva_1iva _ _ _ _)) ?_
 rintro Aq _ BL ⟨G, rfl, y⟩ O; clear N x Ap
 refine s1 O (e_8 rfl (pv3 (evc _ _) O.e O.e) (bd_37_0i_1s_2s _ _ ⟨_, _, _, rfl⟩ _ ⟨_, _, _, rfl⟩)) fun BB P => ?_; clear O Aq
 refine s7 P (c_0 y rfl w_2 P.e P.e (i := 7) rfl (vs := [(iv 3), (Value.slice (some ⟨F, 0, none⟩) 2 2), (Value.slice (some ⟨G, 0, none⟩) 2 2)]) rfl rfl (i_8 rfl (i_8 rfl (i_8 rfl w_1))) (Nat.le_of_ble_eq_true rfl)) ?_
 intro _ H z g; clear P
 have AA : Sep NoB w H [(blk G 103 [(iv 0), (Value.slice (some ⟨A, 0, none⟩) 2 2), (iv 1), (Value.slice (some ⟨B, 0, none⟩) 1 1)]), (blk B 100 [(iv 300), (iv 300), (iv 299)]), (blk A 100 [(iv 150), (iv 154), (iv 160), (iv 240), (iv 246), (iv 249)]), (blk F 106 [(iv 0), (iv 1), (Value.slice (some ⟨C, 0, none⟩) 4 4), (Value.slice (some ⟨D, 0, none⟩) 1 1), (iv 2), (iv 1), (iv 2), (Value.slice (some ⟨E, 0, none⟩) 2 2), (Value.slice none 0 0), (iv 0)]), (blk E 107 [(iv 250), (iv 90), (iv 350), (iv 50)]), (blk D 3 [(iv 2)]), (blk C 107 [(iv 100), (iv 200), (iv 200), (iv 300), (iv 300), (iv 500), (iv 400), (iv 600)]), (blk b4 37 [(iv 3), (Value.slice (some ⟨F, 0, none⟩) 2 2), (Value.slice (some ⟨G, 0, none⟩) 2 2)])] := z; clear z y
 refine n1 (c_4 (a_9 g (.inl rfl) (a_2 g rfl (.cellA rfl w_2 (AA.bk 7 rfl) (l := [(iv 3), (Value.slice (some ⟨F, 0, none⟩) 2 2), (Value.slice (some ⟨G, 0, none⟩) 2 2)]) rfl rfl)) ?_))
 have Ar := AA.v_2 (i := 6) (sz := 2) (n := 4) rfl rfl (by decide)
 have As := Ar.v_2 (i := 5) (sz := 1) (n := 1) rfl rfl (by decide)
 have At := As.v_2 (i := 4) (sz := 2) (n := 2) rfl rfl (by decide)
 have Au := At.v_2 (i := 3) (sz := 5) (n := 2) rfl rfl (by decide)
 have Av := Au.v_2 (i := 2) (sz := 3) (n := 2) rfl rfl (by decide)
 have Aw := Av.v_2 (i := 1) (sz := 3) (n := 1) rfl rfl (by decide)
 have Ax := Aw.v_2 (i := 0) (sz := 2) (n := 2) rfl rfl (by decide)
 have Ay : Sep NoB w H [(row (Value.slice (some ⟨C, 0, none⟩) 4 4) 107 2 4 [(iv 100), (iv 200), (iv 200), (iv 300), (iv 300), (iv 500), (iv 400), (iv 600)]), (row (Value.slice (some ⟨E, 0, none⟩) 2 2) 107 2 2 [(iv 250), (iv 90), (iv 350), (iv 50)]), (row (Value.slice (some ⟨D, 0, none⟩) 1 1) 3 1 1 [(iv 2)]), (row (Value.slice (some ⟨F, 0, none⟩) 2 2) 106 5 2 [(iv 0), (iv 1), (Value.slice (some ⟨C, 0, none⟩) 4 4), (Value.slice (some ⟨D, 0, none⟩) 1 1), (iv 2), (iv 1), (iv 2), (Value.slice (some ⟨E, 0, none⟩) 2 2), (Value.slice none 0 0), (iv 0)]), (row (Value.slice (some ⟨A, 0, none⟩) 2 2) 100 3 2 [(iv 150), (iv 154), (iv 160), (iv 240), (iv 246), (iv 249)]), (row (Value.slice (some ⟨B, 0, none⟩) 1 1) 100 3 1 [(iv 300), (iv 300), (iv 299)]), (row (Value.slice (some ⟨G, 0, none⟩) 2 2) 103 2 2 [(iv 0), (Value.slice (some ⟨A, 0, none⟩) 2 2), (iv 1), (Value.slice (some ⟨B, 0, none⟩) 1 1)])] := Ax.keep [6, 4, 5, 3, 2, 1, 0] (by decide) _ rfl rfl
 have Az : Sep NoB w H [(slsR true 0 (fun _ => Value.slice none 0 0) 2 (n_1 e_3.tabs) (n_0 e_3.tabs)), (row (Value.slice (some ⟨C, 0, none⟩) 4 4) 107 2 4 [(iv 100), (iv 200), (iv 200), (iv 300), (iv 300), (iv 500), (iv 400), (iv 600)]), (row (Value.slice (some ⟨E, 0, none⟩) 2 2) 107 2 2 [(iv 250), (iv 90), (iv 350), (iv 50)]), (row (Value.slice (some ⟨D, 0, none⟩) 1 1) 3 1 1 [(iv 2)]), (row (Value.slice (some ⟨F, 0, none⟩) 2 2) 106 5 2 [(iv 0), (iv 1), (Value.slice (some ⟨C, 0, none⟩) 4 4), (Value.slice (some ⟨D, 0, none⟩) 1 1), (iv 2), (iv 1), (iv 2), (Value.slice (some ⟨E, 0, none⟩) 2 2), (Value.slice none 0 0), (iv 0)]), (row (Value.slice (some ⟨A, 0, none⟩) 2 2) 100 3 2 [(iv 150), (iv 154), (iv 160), (iv 240), (iv 246), (iv 249)]), (row (Value.slice (some ⟨B, 0, none⟩) 1 1) 100 3 1 [(iv 300), (iv 300), (iv 299)]), (row (Value.slice (some ⟨G, 0, none⟩) 2 2) 103 2 2 [(iv 0), (Value.slice (some ⟨A, 0, none⟩) 2 2), (iv 1), (Value.slice (some ⟨B, 0, none⟩) 1 1)])] := r_9 Ay (fun _ => Value.slice none 0 0) 2 (n_1 e_3.tabs) (n_0 e_3.tabs)
 have A0 : Sep NoB w H [(row (Value.slice (some ⟨C, 0, none⟩) 4 4) 107 2 4 [(iv 100), (iv 200), (iv 200), (iv 300), (iv 300), (iv 500), (iv 400), (iv 600)]), (slsR true 0 (fun _ => Value.slice none 0 0) 2 (n_1 e_3.tabs) (n_0 e_3.tabs)), (row (Value.slice (some ⟨E, 0, none⟩) 2 2) 107 2 2 [(iv 250), (iv 90), (iv 350), (iv 50)]), (row (Value.slice (some ⟨D, 0, none⟩) 1 1) 3 1 1 [(iv 2)]), (row (Value.slice (some ⟨F, 0, none⟩) 2 2) 106 5 2 [(iv 0), (iv 1), (Value.slice (some ⟨C, 0, none⟩) 4 4), (Value.slice (some ⟨D, 0, none⟩) 1 1), (iv 2), (iv 1), (iv 2), (Value.slice (some ⟨E, 0, none⟩) 2 2), (Value.slice none 0 0), (iv 0)]), (row (Value.slice (some ⟨A, 0, none⟩) 2 2) 100 3 2 [(iv 150), (iv 154), (iv 160), (iv 240), (iv 246), (iv 249)]), (row (Value.slice (some ⟨B, 0, none⟩) 1 1) 100 3 1 [(iv 300), (iv 300), (iv 299)]), (row (Value.slice (some ⟨G, 0, none⟩) 2 2) 103 2 2 [(iv 0), (Value.slice (some ⟨A, 0, none⟩) 2 2), (iv 1), (Value.slice (some ⟨B, 0, none⟩) 1 1)])] := Az.keep [1, 0, 2, 3, 4, 5, 6, 7] (by decide) _ rfl rfl
 have A1 : Sep NoB w H [(slsR true 1 (putV 0 (fun _ => Value.slice none 0 0) (Value.slice (some ⟨C, 0, none⟩) 4 4)) 2 (n_1 e_3.tabs) (n_0 e_3.tabs)), (row (Value.slice (some ⟨E, 0, none⟩) 2 2) 107 2 2 [(iv 250), (iv 90), (iv 350), (iv 50)]), (row (Value.slice (some ⟨D, 0, none⟩) 1 1) 3 1 1 [(iv 2)]), (row (Value.slice (some ⟨F, 0, none⟩) 2 2) 106 5 2 [(iv 0), (iv 1), (Value.slice (some ⟨C, 0, none⟩) 4 4), (Value.slice (some ⟨D, 0, none⟩) 1 1), (iv 2), (iv 1), (iv 2), (Value.slice (some ⟨E, 0, none⟩) 2 2), (Value.slice none 0 0), (iv 0)]), (row (Value.slice (some ⟨A, 0, none⟩) 2 2) 100 3 2 [(iv 150), (iv 154), (iv 160), (iv 240), (iv 246), (iv 249)]), (row (Value.slice (some ⟨B, 0, none⟩) 1 1) 100 3 1 [(iv 300), (iv 300), (iv 299)]), (row (Value.slice (some ⟨G, 0, none⟩) 2 2) 103 2 2 [(iv 0), (Value.slice (some ⟨A, 0, none⟩) 2 2), (iv 1), (Value.slice (some ⟨B, 0, none⟩) 1 1)])] := l_4 (k' := n_1 e_3.tabs) (c' := n_0 e_3.tabs) A0 rfl rfl (fun i hi => absurd hi (Nat.not_lt_zero _))
 have A2 : Sep NoB w H [(row (Value.slice (some ⟨E, 0, none⟩) 2 2) 107 2 2 [(iv 250), (iv 90), (iv 350), (iv 50)]), (slsR true 1 (putV 0 (fun _ => Value.slice none 0 0) (Value.slice (some ⟨C, 0, none⟩) 4 4)) 2 (n_1 e_3.tabs) (n_0 e_3.tabs)), (row (Value.slice (some ⟨D, 0, none⟩) 1 1) 3 1 1 [(iv 2)]), (row (Value.slice (some ⟨F, 0, none⟩) 2 2) 106 5 2 [(iv 0), (iv 1), (Value.slice (some ⟨C, 0, none⟩) 4 4), (Value.slice (some ⟨D, 0, none⟩) 1 1), (iv 2), (iv 1), (iv 2), (Value.slice (some ⟨E, 0, none⟩) 2 2), (Value.slice none 0 0), (iv 0)]), (row (Value.slice (some ⟨A, 0, none⟩) 2 2) 100 3 2 [(iv 150), (iv 154), (iv 160), (iv 240), (iv 246), (iv 249)]), (row (Value.slice (some ⟨B, 0, none⟩) 1 1) 100 3 1 [(iv 300), (iv 300), (iv 299)]), (row (Value.slice (some ⟨G, 0, none⟩) 2 2) 103 2 2 [(iv 0), (Value.slice (some ⟨A, 0, none⟩) 2 2), (iv 1), (Value.slice (some ⟨B, 0, none⟩) 1 1)])] := A1.keep [1, 0, 2, 3, 4, 5, 6] (by decide) _ rfl rfl
 have A3 : Sep NoB w H [(slsR true 2 (putV 1 (putV 0 (fun _ => Value.slice none 0 0) (Value.slice (some ⟨C, 0, none⟩) 4 4)) (Value.slice (some ⟨E, 0, none⟩) 2 2)) 2 (n_1 e_3.tabs) (n_0 e_3.tabs)), (row (Value.slice (some ⟨D, 0, none⟩) 1 1) 3 1 1 [(iv 2)]), (row (Value.slice (some ⟨F, 0, none⟩) 2 2) 106 5 2 [(iv 0), (iv 1), (Value.slice (some ⟨C, 0, none⟩) 4 4), (Value.slice (some ⟨D, 0, none⟩) 1 1), (iv 2), (iv 1), (iv 2), (Value.slice (some ⟨E, 0, none⟩) 2 2), (Value.slice none 0 0), (iv 0)]), (row (Value.slice (some ⟨A, 0, none⟩) 2 2) 100 3 2 [(iv 150), (iv 154), (iv 160), (iv 240), (iv 246), (iv 249)]), (row (Value.slice (some ⟨B, 0, none⟩) 1 1) 100 3 1 [(iv 300), (iv 300), (iv 299)]), (row (Value.slice (some ⟨G, 0, none⟩) 2 2) 103 2 2 [(iv 0), (Value.slice (some ⟨A, 0, none⟩) 2 2), (iv 1), (Value.slice (some ⟨B, 0, none⟩) 1 1)])] := l_4 (k' := n_1 e_3.tabs) (c' := n_0 e_3.tabs) A2 rfl rfl (fun _ _ => ⟨rfl, rfl⟩)
 have A4 : Sep NoB w H [(row (Value.slice none 0 0) 3 1 0 []), (slsR true 2 (putV 1 (putV 0 (fun _ => Value.slice none 0 0) (Value.slice (some ⟨C, 0, none⟩) 4 4)) (Value.slice (some ⟨E, 0, none⟩) 2 2)) 2 (n_1 e_3.tabs) (n_0 e_3.tabs)), (row (Value.slice (some ⟨D, 0, none⟩) 1 1) 3 1 1 [(iv 2)]), (row (Value.slice (some ⟨F, 0, none⟩) 2 2) 106 5 2 [(iv 0), (iv 1), (Value.slice (some ⟨C, 0, none⟩) 4 4), (Value.slice (some ⟨D, 0, none⟩) 1 1), (iv 2), (iv 1), (iv 2), (Value.slice (some ⟨E, 0, none⟩) 2 2), (Value.slice none 0 0), (iv 0)]), (row (Value.slice (some ⟨A, 0, none⟩) 2 2) 100 3 2 [(iv 150), (iv 154), (iv 160), (iv 240), (iv 246), (iv 249)]), (row (Value.slice (some ⟨B, 0, none⟩) 1 1) 100 3 1 [(iv 300), (iv 300), (iv 299)]), (row (Value.slice (some ⟨G, 0, none⟩) 2 2) 103 2 2 [(iv 0), (Value.slice (some ⟨A, 0, none⟩) 2 2), (iv 1), (Value.slice (some ⟨B, 0, none⟩) 1 1)])] := A3.p_4 3 1
 have A5 : Sep NoB w H [(slsR true 0 (fun _ => Value.slice none 0 0) 1 (brkN e_3.tabs) (brkC e_3.tabs)), (row (Value.slice none 0 0) 3 1 0 []), (slsR true 2 (putV 1 (putV 0 (fun _ => Value.slice none 0 0) (Value.slice (some ⟨C, 0, none⟩) 4 4)) (Value.slice (some ⟨E, 0, none⟩) 2 2)) 2 (n_1 e_3.tabs) (n_0 e_3.tabs)), (row (Value.slice (some ⟨D, 0, none⟩) 1 1) 3 1 1 [(iv 2)]), (row (Value.slice (some ⟨F, 0, none⟩) 2 2) 106 5 2 [(iv 0), (iv 1), (Value.slice (some ⟨C, 0, none⟩) 4 4), (Value.slice (some ⟨D, 0, none⟩) 1 1), (iv 2), (iv 1), (iv 2), (Value.slice (some ⟨E, 0, none⟩) 2 2), (Value.slice none 0 0), (iv 0)]), (row (Value.slice (some ⟨A, 0, none⟩) 2 2) 100 3 2 [(iv 150), (iv 154), (iv 160), (iv 240), (iv 246), (iv 249)]), (row (Value.slice (some ⟨B, 0, none⟩) 1 1) 100 3 1 [(iv 300), (iv 300), (iv 299)]), (row (Value.slice (some ⟨G, 0, none⟩) 2 2) 103 2 2 [(iv 0), (Value.slice (some ⟨A, 0, none⟩) 2 2), (iv 1), (Value.slice (some ⟨B, 0, none⟩) 1 1)])] := r_9 A4 (fun _ => Value.slice none 0 0) 1 (brkN e_3.tabs) (brkC e_3.tabs)
 have A6 : Sep NoB w H [(row (Value.slice (some ⟨D, 0, none⟩) 1 1) 3 1 1 [(iv 2)]), (slsR true 0 (fun _ => Value.slice none 0 0) 1 (brkN e_3.tabs) (brkC e_3.tabs)), (row (Value.slice none 0 0) 3 1 0 []), (slsR true 2 (putV 1 (putV 0 (fun _ => Value.slice none 0 0) (Value.slice (some ⟨C, 0, none⟩) 4 4)) (Value.slice (some ⟨E, 0, none⟩) 2 2)) 2 (n_1 e_3.tabs) (n_0 e_3.tabs)), (row (Value.slice (some ⟨F, 0, none⟩) 2 2) 106 5 2 [(iv 0), (iv 1), (Value.slice (some ⟨C, 0, none⟩) 4 4), (Value.slice (some ⟨D, 0, none⟩) 1 1), (iv 2), (iv 1), (iv 2), (Value.slice (some ⟨E, 0, none⟩) 2 2), (Value.slice none 0 0), (iv 0)]), (row (Value.slice (some ⟨A, 0, none⟩) 2 2) 100 3 2 [(iv 150), (iv 154), (iv 160), (iv 240), (iv 246), (iv 249)]), (row (Value.slice (some ⟨B, 0, none⟩) 1 1) 100 3 1 [(iv 300), (iv 300), (iv 299)]), (row (Value.slice (some ⟨G, 0, none⟩) 2 2) 103 2 2 [(iv 0), (Value.slice (some ⟨A, 0, none⟩) 2 2), (iv 1), (Value.slice (some ⟨B, 0, none⟩) 1 1)])] := A5.keep [3, 0, 1, 2, 4, 5, 6, 7] (by decide) _ rfl rfl
 have AG : Sep NoB w H [(slsR true 1 (putV 0 (fun _ => Value.slice none 0 0) (Value.slice (some ⟨D, 0, none⟩) 1 1)) 1 (brkN e_3.tabs) (brkC e_3.tabs)), (row (Value.slice none 0 0) 3 1 0 []), (slsR true 2 (putV 1 (putV 0 (fun _ => Value.slice none 0 0) (Value.slice (some ⟨C, 0, none⟩) 4 4)) (Value.slice (some ⟨E, 0, none⟩) 2 2)) 2 (n_1 e_3.tabs) (n_0 e_3.tabs)), (row (Value.slice (some ⟨F, 0, none⟩) 2 2) 106 5 2 [(iv 0), (iv 1), (Value.slice (some ⟨C, 0, none⟩) 4 4), (Value.slice (some ⟨D, 0, none⟩) 1 1), (iv 2), (iv 1), (iv 2), (Value.slice (some ⟨E, 0, none⟩) 2 2), (Value.slice none 0 0), (iv 0)]), (row (Value.slice (some ⟨A, 0, none⟩) 2 2) 100 3 2 [(iv 150), (iv 154), (iv 160), (iv 240), (iv 246), (iv 249)]), (row (Value.slice (some ⟨B, 0, none⟩) 1 1) 100 3 1 [(iv 300), (iv 300), (iv 299)]), (row (Value.slice (some ⟨G, 0, none⟩) 2 2) 103 2 2 [(iv 0), (Value.slice (some ⟨A, 0, none⟩) 2 2), (iv 1), (Value.slice (some ⟨B, 0, none⟩) 1 1)])] := l_4 (k' := brkN e_3.tabs) (c' := brkC e_3.tabs) A6 rfl rfl (fun i hi => absurd hi (Nat.not_lt_zero _))
 have AH : Sep NoB w H [(row (Value.slice none 0 0) 3 1 0 []), (slsR true 1 (putV 0 (fun _ => Value.slice none 0 0) (Value.slice (some ⟨D, 0, none⟩) 1 1)) 1 (brkN e_3.tabs) (brkC e_3.tabs)), (slsR true 2 (putV 1 (putV 0 (fun _ => Value.slice none 0 0) (Value.slice (some ⟨C, 0, none⟩) 4 4)) (Value.slice (some ⟨E, 0, none⟩) 2 2)) 2 (n_1 e_3.tabs) (n_0 e_3.tabs)), (row (Value.slice (some ⟨F, 0, none⟩) 2 2) 106 5 2 [(iv 0), (iv 1), (Value.slice (some ⟨C, 0, none⟩) 4 4), (Value.slice (some ⟨D, 0, none⟩) 1 1), (iv 2), (iv 1), (iv 2), (Value.slice (some ⟨E, 0, none⟩) 2 2), (Value.slice none 0 0), (iv 0)]), (row (Value.slice (some ⟨A, 0, none⟩) 2 2) 100 3 2 [(iv 150), (iv 154), (iv 160), (iv 240), (iv 246), (iv 249)]), (row (Value.slice (some ⟨B, 0, none⟩) 1 1) 100 3 1 [(iv 300), (iv 300), (iv 299)]), (row (Value.slice (some ⟨G, 0, none⟩) 2 2) 103 2 2 [(iv 0), (Value.slice (some ⟨A, 0, none⟩) 2 2), (iv 1), (Value.slice (some ⟨B, 0, none⟩) 1 1)])] := AG.keep [1, 0, 2, 3, 4, 5, 6] (by decide) _ rfl rfl
 have AI : Sep NoB w H [(slsR true 2 (putV 1 (putV 0 (fun _ => Value.slice none 0 0) (Value.slice (some ⟨D, 0, none⟩) 1 1)) (Value.slice none 0 0)) 1 (brkN e_3.tabs) (brkC e_3.tabs)), (slsR true 2 (putV 1 (putV 0 (fun _ => Value.slice none 0 0) (Value.slice (some ⟨C, 0, none⟩) 4 4)) (Value.slice (some ⟨E, 0, none⟩) 2 2)) 2 (n_1 e_3.tabs) (n_0 e_3.tabs)), (row (Value.slice (some ⟨F, 0, none⟩) 2 2) 106 5 2 [(iv 0), (iv 1), (Value.slice (some ⟨C, 0, none⟩) 4 4), (Value.slice (some ⟨D, 0, none⟩) 1 1), (iv 2), (iv 1), (iv 2), (Value.slice (some ⟨E, 0, none⟩) 2 2), (Value.slice none 0 0), (iv 0)]), (row (Value.slice (some ⟨A, 0, none⟩) 2 2) 100 3 2 [(iv 150), (iv 154), (iv 160), (iv 240), (iv 246), (iv 249)]), (row (Value.slice (some ⟨B, 0, none⟩) 1 1) 100 3 1 [(iv 300), (iv 300), (iv 299)]), (row (Value.slice (some ⟨G, 0, none⟩) 2 2) 103 2 2 [(iv 0), (Value.slice (some ⟨A, 0, none⟩) 2 2), (iv 1), (Value.slice (some ⟨B, 0, none⟩) 1 1)])] := l_4 (k' := brkN e_3.tabs) (c' := brkC e_3.tabs) AH rfl rfl (fun _ _ => ⟨rfl, rfl⟩)
 have AJ : Sep NoB w H [(row (Value.slice (some ⟨F, 0, none⟩) 2 2) 106 5 2 [(iv 0), (iv 1), (Value.slice (some ⟨C, 0, none⟩) 4 4), (Value.slice (some ⟨D, 0, none⟩) 1 1), (iv 2), (iv 1), (iv 2), (Value.slice (some ⟨E, 0, none⟩) 2 2), (Value.slice none 0 0), (iv 0)]), (slsR true 2 (putV 1 (putV 0 (fun _ => Value.slice none 0 0) (Value.slice (some ⟨C, 0, none⟩) 4 4)) (Value.slice (some ⟨E, 0, none⟩) 2 2)) 2 (n_1 e_3.tabs) (n_0 e_3.tabs)), (slsR true 2 (putV 1 (putV 0 (fun _ => Value.slice none 0 0) (Value.slice (some ⟨D, 0, none⟩) 1 1)) (Value.slice none 0 0)) 1 (brkN e_3.tabs) (brkC e_3.tabs)), (row (Value.slice (some ⟨A, 0, none⟩) 2 2) 100 3 2 [(iv 150), (iv 154), (iv 160), (iv 240), (iv 246), (iv 249)]), (row (Value.slice (some ⟨B, 0, none⟩) 1 1) 100 3 1 [(iv 300), (iv 300), (iv 299)]), (row (Value.slice (some ⟨G, 0, none⟩) 2 2) 103 2 2 [(iv 0), (Value.slice (some ⟨A, 0, none⟩) 2 2), (iv 1), (Value.slice (some ⟨B, 0, none⟩) 1 1)])] := AI.keep [2, 1, 0, 3, 4, 5] (by decide) _ rfl rfl
 have AK : Sep NoB w H [(row (Value.slice (some ⟨F, 0, none⟩) 2 2) 106 5 e_3.tabs.length (o_6 (putV 1 (putV 0 (fun _ => Value.slice none 0 0) (Value.slice (some ⟨C, 0, none⟩) 4 4)) (Value.slice (some ⟨E, 0, none⟩) 2 2)) (putV 1 (putV 0 (fun _ => Value.slice none 0 0) (Value.slice (some ⟨D, 0, none⟩) 1 1)) (Value.slice none 0 0)) e_3.tabs)), (slsR true 2 (putV 1 (putV 0 (fun _ => Value.slice none 0 0) (Value.slice (some ⟨C, 0, none⟩) 4 4)) (Value.slice (some ⟨E, 0, none⟩) 2 2)) 2 (n_1 e_3.tabs) (n_0 e_3.tabs)), (slsR true 2 (putV 1 (putV 0 (fun _ => Value.slice none 0 0) (Value.slice (some ⟨D, 0, none⟩) 1 1)) (Value.slice none 0 0)) 1 (brkN e_3.tabs) (brkC e_3.tabs)), (row (Value.slice (some ⟨A, 0, none⟩) 2 2) 100 3 2 [(iv 150), (iv 154), (iv 160), (iv 240), (iv 246), (iv 249)]), (row (Value.slice (some ⟨B, 0, none⟩) 1 1) 100 3 1 [(iv 300), (iv 300), (iv 299)]), (row (Value.slice (some ⟨G, 0, none⟩) 2 2) 103 2 2 [(iv 0), (Value.slice (some ⟨A, 0, none⟩) 2 2), (iv 1), (Value.slice (some ⟨B, 0, none⟩) 1 1)])] := AJ.f_6 (i := 0) rfl rfl (kept_tabsC _ _ _ _).symm
 have AL : Sep NoB w H [(d_3 true (Value.slice (some ⟨F, 0, none⟩) 2 2) (putV 1 (putV 0 (fun _ => Value.slice none 0 0) (Value.slice (some ⟨C, 0, none⟩) 4 4)) (Value.slice (some ⟨E, 0, none⟩) 2 2)) (putV 1 (putV 0 (fun _ => Value.slice none 0 0) (Value.slice (some ⟨D, 0, none⟩) 1 1)) (Value.slice none 0 0)) e_3.tabs), (row (Value.slice (some ⟨A, 0, none⟩) 2 2) 100 3 2 [(iv 150), (iv 154), (iv 160), (iv 240), (iv 246), (iv 249)]), (row (Value.slice (some ⟨B, 0, none⟩) 1 1) 100 3 1 [(iv 300), (iv 300), (iv 299)]), (row (Value.slice (some ⟨G, 0, none⟩) 2 2) 103 2 2 [(iv 0), (Value.slice (some ⟨A, 0, none⟩) 2 2), (iv 1), (Value.slice (some ⟨B, 0, none⟩) 1 1)])] := sep_tabs_join AK
 have AM : Sep NoB w H [(slsR true 0 (fun _ => Value.slice none 0 0) 3 (blkN e_3.macs) (blkC e_3.macs)), (d_3 true (Value.slice (some ⟨F, 0, none⟩) 2 2) (putV 1 (putV 0 (fun _ => Value.slice none 0 0) (Value.slice (some ⟨C, 0, none⟩) 4 4)) (Value.slice (some ⟨E, 0, none⟩) 2 2)) (putV 1 (putV 0 (fun _ => Value.slice none 0 0) (Value.slice (some ⟨D, 0, none⟩) 1 1)) (Value.slice none 0 0)) e_3.tabs), (row (Value.slice (some ⟨A, 0, none⟩) 2 2) 100 3 2 [(iv 150), (iv 154), (iv 160), (iv 240), (iv 246), (iv 249)]), (row (Value.slice (some ⟨B, 0, none⟩) 1 1) 100 3 1 [(iv 300), (iv 300), (iv 299)]), (row (Value.slice (some ⟨G, 0, none⟩) 2 2) 103 2 2 [(iv 0), (Value.slice (some ⟨A, 0, none⟩) 2 2), (iv 1), (Value.slice (some ⟨B, 0, none⟩) 1 1)])] := r_9 AL (fun _ => Value.slice none 0 0) 3 (blkN e_3.macs) (blkC e_3.macs)
 have AN : Sep NoB w H [(row (Value.slice (some ⟨A, 0, none⟩) 2 2) 100 3 2 [(iv 150), (iv 154), (iv 160), (iv 240), (iv 246), (iv 249)]), (slsR true 0 (fun _ => Value.slice none 0 0) 3 (blkN e_3.macs) (blkC e_3.macs)), (d_3 true (Value.slice (some ⟨F, 0, none⟩) 2 2) (putV 1 (putV 0 (fun _ => Value.slice none 0 0) (Value.slice (some ⟨C, 0, none⟩) 4 4)) (Value.slice (some ⟨E, 0, none⟩) 2 2)) (putV 1 (putV 0 (fun _ => Value.slice none 0 0) (Value.slice (some ⟨D, 0, none⟩) 1 1)) (Value.slice none 0 0)) e_3.tabs), (row (Value.slice (some ⟨B, 0, none⟩) 1 1) 100 3 1 [(iv 300), (iv 300), (iv 299)]), (row (Value.slice (some ⟨G, 0, none⟩) 2 2) 103 2 2 [(iv 0), (Value.slice (some ⟨A, 0, none⟩) 2 2), (iv 1), (Value.slice (some ⟨B, 0, none⟩) 1 1)])] := AM.keep [2, 0, 1, 3, 4] (by decide) _ rfl rfl
 have AO : Sep NoB w H [(slsR true 1 (putV 0 (fun _ => Value.slice none 0 0) (Value.slice (some ⟨A, 0, none⟩) 2 2)) 3 (blkN e_3.macs) (blkC e_3.macs)), (d_3 true (Value.slice (some ⟨F, 0, none⟩) 2 2) (putV 1 (putV 0 (fun _ => Value.slice none 0 0) (Value.slice (some ⟨C, 0, none⟩) 4 4)) (Value.slice (some ⟨E, 0, none⟩) 2 2)) (putV 1 (putV 0 (fun _ => Value.slice none 0 0) (Value.slice (some ⟨D, 0, none⟩) 1 1)) (Value.slice none 0 0)) e_3.tabs), (row (Value.slice (some ⟨B, 0, none⟩) 1 1) 100 3 1 [(iv 300), (iv 300), (iv 299)]), (row (Value.slice (some ⟨G, 0, none⟩) 2 2) 103 2 2 [(iv 0), (Value.slice (some ⟨A, 0, none⟩) 2 2), (iv 1), (Value.slice (some ⟨B, 0, none⟩) 1 1)])] := l_4 (k' := blkN e_3.macs) (c' := blkC e_3.macs) AN rfl rfl (fun i hi => absurd hi (Nat.not_lt_zero _))
 have AP : Sep NoB w H [(row (Value.slice (some ⟨B, 0, none⟩) 1 1) 100 3 1 [(iv 300), (iv 300), (iv 299)]), (slsR true 1 (putV 0 (fun _ => Value.slice none 0 0) (Value.slice (some ⟨A, 0, none⟩) 2 2)) 3 (blkN e_3.macs) (blkC e_3.macs)), (d_3 true (Value.slice (some ⟨F, 0, none⟩) 2 2) (putV 1 (putV 0 (fun _ => Value.slice none 0 0) (Value.slice (some ⟨C, 0, none⟩) 4 4)) (Value.slice (some ⟨E, 0, none⟩) 2 2)) (putV 1 (putV 0 (fun _ => Value.slice none 0 0) (Value.slice (some ⟨D, 0, none⟩) 1 1)) (Value.slice none 0 0)) e_3.tabs), (row (Value.slice (some ⟨G, 0, none⟩) 2 2) 103 2 2 [(iv 0), (Value.slice (some ⟨A, 0, none⟩) 2 2), (iv 1), (Value.slice (some ⟨B, 0, none⟩) 1 1)])] := AO.keep [2, 0, 1, 3] (by decide) _ rfl rfl
 have AQ : Sep NoB w H [(slsR true 2 (putV 1 (putV 0 (fun _ => Value.slice none 0 0) (Value.slice (some ⟨A, 0, none⟩) 2 2)) (Value.slice (some ⟨B, 0, none⟩) 1 1)) 3 (blkN e_3.macs) (blkC e_3.macs)), (d_3 true (Value.slice (some ⟨F, 0, none⟩) 2 2) (putV 1 (putV 0 (fun _ => Value.slice none 0 0) (Value.slice (some ⟨C, 0, none⟩) 4 4)) (Value.slice (some ⟨E, 0, none⟩) 2 2)) (putV 1 (putV 0 (fun _ => Value.slice none 0 0) (Value.slice (some ⟨D, 0, none⟩) 1 1)) (Value.slice none 0 0)) e_3.tabs), (row (Value.slice (some ⟨G, 0, none⟩) 2 2) 103 2 2 [(iv 0), (Value.slice (some ⟨A, 0, none⟩) 2 2), (iv 1), (Value.slice (some ⟨B, 0, none⟩) 1 1)])] := l_4 (k' := blkN e_3.macs) (c' := blkC e_3.macs) AP rfl rfl (fun _ _ => ⟨rfl, rfl⟩)
 have AR : Sep NoB w H [(row (Value.slice (some ⟨G, 0, none⟩) 2 2) 103 2 2 [(iv 0), (Value.slice (some ⟨A, 0, none⟩) 2 2), (iv 1), (Value.slice (some ⟨B, 0, none⟩) 1 1)]), (slsR true 2 (putV 1 (putV 0 (fun _ => Value.slice none 0 0) (Value.slice (some ⟨A, 0, none⟩) 2 2)) (Value.slice (some ⟨B, 0, none⟩) 1 1)) 3 (blkN e_3.macs) (blkC e_3.macs)), (d_3 true (Value.slice (some ⟨F, 0, none⟩) 2 2) (putV 1 (putV 0 (fun _ => Value.slice none 0 0) (Value.slice (some ⟨C, 0, none⟩) 4 4)) (Value.slice (some ⟨E, 0, none⟩) 2 2)) (putV 1 (putV 0 (fun _ => Value.slice none 0 0) (Value.slice (some ⟨D, 0, none⟩) 1 1)) (Value.slice none 0 0)) e_3.tabs)] := AQ.keep [2, 0, 1] (by decide) _ rfl rfl
 have AS : Sep NoB w H [(row (Value.slice (some ⟨G, 0, none⟩) 2 2) 103 2 e_3.macs.length (q_4 (putV 1 (putV 0 (fun _ => Value.slice none 0 0) (Value.slice (some ⟨A, 0, none⟩) 2 2)) (Value.slice (some ⟨B, 0, none⟩) 1 1)) e_3.macs)), (slsR true 2 (putV 1 (putV 0 (fun _ => Value.slice none 0 0) (Value.slice (some ⟨A, 0, none⟩) 2 2)) (Value.slice (some ⟨B, 0, none⟩) 1 1)) 3 (blkN e_3.macs) (blkC e_3.macs)), (d_3 true (Value.slice (some ⟨F, 0, none⟩) 2 2) (putV 1 (putV 0 (fun _ => Value.slice none 0 0) (Value.slice (some ⟨C, 0, none⟩) 4 4)) (Value.slice (some ⟨E, 0, none⟩) 2 2)) (putV 1 (putV 0 (fun _ => Value.slice none 0 0) (Value.slice (some ⟨D, 0, none⟩) 1 1)) (Value.slice none 0 0)) e_3.tabs)] := AR.f_6 (i := 0) rfl rfl (kept_macsC _ _).symm
 have AT : Sep NoB w H [(d_9 true (Value.slice (some ⟨G, 0, none⟩) 2 2) (putV 1 (putV 0 (fun _ => Value.slice none 0 0) (Value.slice (some ⟨A, 0, none⟩) 2 2)) (Value.slice (some ⟨B, 0, none⟩) 1 1)) e_3.macs), (d_3 true (Value.slice (some ⟨F, 0, none⟩) 2 2) (putV 1 (putV 0 (fun _ => Value.slice none 0 0) (Value.slice (some ⟨C, 0, none⟩) 4 4)) (Value.slice (some ⟨E, 0, none⟩) 2 2)) (putV 1 (putV 0 (fun _ => Value.slice none 0 0) (Value.slice (some ⟨D, 0, none⟩) 1 1)) (Value.slice none 0 0)) e_3.tabs)] := sep_macs_join AS
 have AU : Sep NoB w H [(d_3 true (Value.slice (some ⟨F, 0, none⟩) 2 2) (putV 1 (putV 0 (fun _ => Value.slice none 0 0) (Value.slice (some ⟨C, 0, none⟩) 4 4)) (Value.slice (some ⟨E, 0, none⟩) 2 2)) (putV 1 (putV 0 (fun _ => Value.slice none 0 0) (Value.slice (some ⟨D, 0, none⟩) 1 1)) (Value.slice none 0 0)) e_3.tabs), (d_9 true (Value.slice (some ⟨G, 0, none⟩) 2 2) (putV 1 (putV 0 (fun _ => Value.slice none 0 0) (Value.slice (some ⟨A, 0, none⟩) 2 2)) (Value.slice (some ⟨B, 0, none⟩) 1 1)) e_3.macs)] := AT.keep [1, 0] (by decide) _ rfl rfl
 exact ⟨_, _, _, _, _, rfl, AU⟩
end Go.Proofs.Ytohgladndklciaa

namespace Go.Proofs.Ytohgladndklciaa
open Go.RowKit Go.Shelf Go.Eng Go.Hard
theorem en_46 : ∀ args w, (callFunc 46 args).run Try.prog w = .ok (.enter 46 args) w := enters_of Try.func46 (by kernel_rfl) rfl
theorem en_33 : ∀ args w, (callFunc 33 args).run Try.prog w = .ok (.enter 33 args) w := enters_of Try.func33 (by kernel_rfl) rfl
theorem en_18 : ∀ args w, (callFunc 18 args).run Try.prog w = .ok (.enter 18 args) w := enters_of Try.func18 (by kernel_rfl) rfl
theorem en_25 : ∀ args w, (callFunc 25 args).run Try.prog w = .ok (.enter 25 args) w := enters_of Try.func25 (by kernel_rfl) rfl
theorem awake_ok (w : World) :
  Calls Try.prog 17 #[] w (Ret fun v w' => v = .bool true ∧ Ext NoB w w') := by
 refine a_8 Try.func17 rfl fun a0 Z => ?_
 replace Z : Fr 71 [] [] a0 := Z
 have AT : Sep NoB w w [] := Sep.start _ _
 refine m2 (s1 Z (a_0 rfl (evc _ _)) fun a1 AS => ?_); clear Z a0
 refine n4 (s2 AS (b_3 rfl en_46 ev0 (kept_ok _)) ?_)
 rintro a3 _ w5 ⟨vt6, vm7, lr8, lb9, lk10, rfl, AN⟩ s; have L := AT.aa_5 AN rfl; clear AN AS AT a1
 refine s2 s (b_3 rfl en_33 (ev2 s.e (evc _ _)) (Bias_ok e_3 vt6 vm7 lr8 lb9 lk10 _ (c_1 (L.ok 0 _ rfl)) (c_8 (L.ok 1 _ rfl)) kept_thin 0)) ?_
 rintro AZ _ BH ⟨rfl, z⟩ O; have AC := L.step z; clear z s L a3
 refine s1 O (a_1 rfl O.e) fun Aa P => ?_; clear O AZ
 refine s1 P (e_9 rfl P.e rfl) fun Ab Q => ?_; clear P Aa
 refine s1 Q (e_9 rfl Q.e rfl) fun Ac o => ?_; clear Q Ab
 refine s2 o (e_0 AC rfl ab_4 (cs := [(iv 0), (iv 0)]) rfl) ?_
 rintro Ad _ BI ⟨B, rfl, AD⟩ H; clear o AC Ac
 refine s7 H (c_0 AD rfl h_5 H.e H.e (i := 0) rfl (vs := [(iv ((aa_4 e_3 0).1)), (iv ((aa_4 e_3 0).2))]) rfl rfl rfl (Nat.le_of_ble_eq_true rfl)) ?_
 intro _ A4 AE R; clear H
 have AF : Sep NoB w A4 [(blk B 30 [(iv ((aa_4 e_3 0).1)), (iv ((aa_4 e_3 0).2))]), (d_3 true vt6 lr8 lb9 e_3.tabs), (d_9 true vm7 lk10 e_3.macs)] := AE; clear AE AD
 refine s1 R (a_0 rfl R.e) fun Ae p => ?_; clear R Ad
 refine n2 ?_
 have q := p.as [(2, (iv (aa_3 e_3 0))), (1, (bptr B 0))] rfl; clear p
 refine a_5 (s2 q (b_3 rfl en_46 ev0 (kept_ok _)) ?_)
 rintro Af _ BJ ⟨vt39, vm40, lr41, lb42, lk43, rfl, AO⟩ r; have AG := AF.aa_5 AO rfl; clear AO q AF Ae
 refine s2 r (b_3 rfl en_31 (ev2 (evc _ _) (evc _ _)) (o_1 _ _ _)) ?_
 rintro Ag _ BK ⟨rfl, AA⟩ I; have M := AG.step AA; clear AA r AG Af
 refine s2 I (b_3 rfl en_18 (ev3 I.e (evc _ _) I.e) (Convert_ok e_3 vt39 vm40 lr41 lb42 lk43 _ (c_1 (M.ok 0 _ rfl)) (c_8 (M.ok 1 _ rfl)) kept_thin 0 150 180)) ?_
 rintro Ah _ BL ⟨rfl, AB⟩ S; have AH := M.step AB; clear AB I M Ag
 refine s1 S (a_1 rfl S.e) fun Ai T => ?_; clear S Ah
 refine s1 T (e_9 rfl T.e rfl) fun Aj U => ?_; clear T Ai
 refine s1 U (e_9 rfl U.e rfl) fun Ak t => ?_; clear U Aj
 refine s2 t (e_0 AH rfl ab_4 (cs := [(iv 0), (iv 0)]) rfl) ?_
 rintro Al _ BM ⟨N, rfl, AI⟩ J; clear t AH Ak
 refine s7 J (c_0 AI rfl h_5 J.e J.e (i := 0) rfl (vs := [(iv ((ab_2 e_3 0 (150, 180)).1)), (iv ((ab_2 e_3 0 (150, 180)).2))]) rfl rfl rfl (Nat.le_of_ble_eq_true rfl)) ?_
 intro _ A5 AJ V; clear J
 have AK : Sep NoB w A5 [(blk N 30 [(iv ((ab_2 e_3 0 (150, 180)).1)), (iv ((ab_2 e_3 0 (150, 180)).2))]), (d_3 true vt39 lr41 lb42 e_3.tabs), (d_9 true vm40 lk43 e_3.macs), (blk B 30 [(iv ((aa_4 e_3 0).1)), (iv ((aa_4 e_3 0).2))]), (d_3 true vt6 lr8 lb9 e_3.tabs), (d_9 true vm7 lk10 e_3.macs)] := AJ; clear AJ AI
 refine s1 V (a_0 rfl V.e) fun Am u => ?_; clear V Al
 refine n2 ?_
 have x := u.as [(4, (iv (aa_8 e_3 0 (150, 180)))), (3, (bptr N 0)), (2, (iv (aa_3 e_3 0))), (1, (bptr B 0))] rfl; clear u
 refine a_5 (s2 x (b_3 rfl en_46 ev0 (kept_ok _)) ?_)
 rintro An _ BN ⟨vt77, vm78, lr79, lb80, lk81, rfl, AP⟩ y; have AL := AK.aa_5 AP rfl; clear AP x AK Am
 refine s1 y (e_8 rfl (pv2 (evc _ _) (evc _ _)) (bd_98_0i_1i _ _)) fun Ao W => ?_; clear y An
 refine s2 W (f_9 AL rfl (pv1 W.e) p_9 aa_7 ze_98 (by decide) (cs := [(iv 0), (iv 170)]) (t_1 _ _)) ?_
 rintro Ap _ BO ⟨At, rfl, C⟩ K; clear W AL Ao
 refine s2 K (b_3 rfl en_25 (ev2 K.e K.e) (Spans_ok e_3 vt77 vm78 lr79 lb80 lk81 _ (c_1 (C.ok 1 _ rfl)) (c_8 (C.ok 2 _ rfl)) kept_thin ([(0, 170)]) _ (SlAt.of_blk (C.bk 0 rfl) rfl (Nat.le_of_ble_eq_true rfl)) (by decide) ([(161, 164), (259, 266), (83, 87)]) kept_read kept_spans)) ?_
 rintro Aq _ A6 ⟨A, rfl, AQ⟩ X
 have AM : Sep NoB w A6 [(row A 30 2 ([(161, 164), (259, 266), (83, 87)].length) (pairs ([(161, 164), (259, 266), (83, 87)]))), (blk At 98 [(iv 0), (iv 170)]), (d_3 true vt77 lr79 lb80 e_3.tabs), (d_9 true vm78 lk81 e_3.macs), (blk N 30 [(iv ((ab_2 e_3 0 (150, 180)).1)), (iv ((ab_2 e_3 0 (150, 180)).2))]), (d_3 true vt39 lr41 lb42 e_3.tabs), (d_9 true vm40 lk43 e_3.macs), (blk B 30 [(iv ((aa_4 e_3 0).1)), (iv ((aa_4 e_3 0).2))]), (d_3 true vt6 lr8 lb9 e_3.tabs), (d_9 true vm7 lk10 e_3.macs)] := C.aa_5 AQ rfl; clear AQ K C Ap
 refine s1 X (a_1 rfl X.e) fun Ar Y => ?_; clear X Aq
 refine s1 Y (e_9 rfl Y.e rfl) fun As D => ?_; clear Y Ar
 refine s1 D (e_9 rfl D.e rfl) fun AU E => ?_; clear D As
 refine s1 E (a_0 rfl E.e) fun AV F => ?_; clear E AU
 refine s1 F (a_0 rfl F.e) fun A8 b => ?_; clear F AV
 refine n2 ?_
 have c := b.as [(6, (iv 0)), (5, A), (4, (iv (aa_8 e_3 0 (150, 180)))), (3, (bptr N 0)), (2, (iv (aa_3 e_3 0))), (1, (bptr B 0))] rfl; clear b
 have d := c.as [(6, (iv 0)), (5, A), (4, (iv (aa_8 e_3 0 (150, 180)))), (3, (bptr N 0)), (2, (iv (aa_3 e_3 0))), (1, (bptr B 0))] rfl; clear c
 refine g_2 mixed d AM 46 [[], [0], [1], [2], [2], [2, 3, 4], [2, 5], [6], [7], [7, 8], [7, 9], [10], [11], [11], [11, 12, 13], [11, 14], [15], [16], [16, 17], [16, 18], [19], [20], [20, 21], [20, 22], [20, 23], [24], [25], [25, 26], [25, 27], [25], [25, 28, 29], [25, 30], [31], [32], [32, 33], [32, 34], [32], [32, 35, 36], [32, 37], [38], [39], [39, 40], [39, 41], [39], [39, 42, 43], [39, 44]] [(Yd.val (iv (aa_3 e_3 0))), (Yd.val (Value.bool true)), (Yd.val (Value.bool true)), (Yd.val (Value.agg #[(iv ((aa_4 e_3 0).1)), (iv ((aa_4 e_3 0).2))])), (Yd.val (Value.agg #[(iv 6), (iv 9)])), (Yd.val (Value.bool true)), (Yd.val (Value.bool true)), (Yd.val (Value.bool true)), (Yd.val (iv (aa_8 e_3 0 (150, 180)))), (Yd.val (Value.bool true)), (Yd.val (Value.bool true)), (Yd.val (Value.bool true)), (Yd.val (Value.agg #[(iv ((ab_2 e_3 0 (150, 180)).1)), (iv ((ab_2 e_3 0 (150, 180)).2))])), (Yd.val (Value.agg #[(iv 248), (iv 282)])), (Yd.val (Value.bool true)), (Yd.val (Value.bool true)), (Yd.val (Value.bool true)), (Yd.val (iv 0)), (Yd.val (Value.bool true)), (Yd.val (Value.bool true)), (Yd.val (Value.bool true)), (Yd.val A), (Yd.val (iv ([(161, 164), (259, 266), (83, 87)].length : Int))), (Yd.val (Value.bool true)), (Yd.val (Value.bool true)), (Yd.val (Value.bool true)), (Yd.val A), (Yd.val (eptr A (0 * 2))), (Yd.val (Value.agg #[(iv ((([(161, 164), (259, 266), (83, 87)]).getD 0 (0, 0)).1)), (iv ((([(161, 164), (259, 266), (83, 87)]).getD 0 (0, 0)).2))])), (Yd.val (Value.agg #[(iv 161), (iv 164)])), (Yd.val (Value.bool true)), (Yd.val (Value.bool true)), (Yd.val (Value.bool true)), (Yd.val A), (Yd.val (eptr A (1 * 2))), (Yd.val (Value.agg #[(iv ((([(161, 164), (259, 266), (83, 87)]).getD 1 (0, 0)).1)), (iv ((([(161, 164), (259, 266), (83, 87)]).getD 1 (0, 0)).2))])), (Yd.val (Value.agg #[(iv 259), (iv 266)])), (Yd.val (Value.bool true)), (Yd.val (Value.bool true)), (Yd.val (Value.bool true)), (Yd.val A), (Yd.val (eptr A (2 * 2))), (Yd.val (Value.agg #[(iv ((([(161, 164), (259, 266), (83, 87)]).getD 2 (0, 0)).1)), (iv ((([(161, 164), (259, 266), (83, 87)]).getD 2 (0, 0)).2))])), (Yd.val (Value.agg #[(iv 83), (iv 87)])), (Yd.val (Value.bool true)), (Yd.val (Value.bool true))] (by decide +kernel) rfl rfl ?_ ?_
 ·skip
  refine dq (fun a w hA hS hd => a_1 rfl hA.e) ?_
  refine ⟨fun a w hA hS hd => by have e0 := hx hd 0; exact d_4 rfl (dv (m_4 rfl (b_8 e0) (evc _ _)) hS (by show Value.bool _ = _; simp only [decide_eq_true (show (aa_3 e_3 0) = 0 from (by decide)), decide_true, decide_false, Bool.not_true, Bool.not_false])), ?_⟩
  refine dq (fun a w hA hS hd => a_1 rfl (hq hd 1)) ?_
  refine dy 2 (fun a w hA hS hd => c_5 rfl h_5 (hA.ev rfl) (hS.bk 7 rfl) (l := [(iv ((aa_4 e_3 0).1)), (iv ((aa_4 e_3 0).2))]) rfl rfl) ?_
  refine ⟨fun a w hA hS hd => by have e2 := hx hd 2; exact f_7 rfl rfl e2 (dx (b_3 rfl en_31 (ev2 (evc _ _) (evc _ _)) (o_1 _ _ _)) hS (fun _ => rfl)), ?_⟩
  refine ⟨fun a w hA hS hd => by have e2 := hx hd 2; have e3 := hx hd 3; have e4 := hx hd 4; exact f_7 rfl rfl e2 (dv (op_eqlP tw_30 rfl (b_8 e3) (b_8 e4)) hS (by show Value.bool _ = _; simp only [(show (decide ((((aa_4 e_3 0).1) : Int) = 6) && decide ((((aa_4 e_3 0).2) : Int) = 9)) = true from (by decide)), decide_true, decide_false, Bool.not_true, Bool.not_false])), ?_⟩
  refine dq (fun a w hA hS hd => b_6 rfl (hq hd 2) (hq hd 5)) ?_
  refine dq (fun a w hA hS hd => a_1 rfl (hq hd 6)) ?_
  refine dy 7 (fun a w hA hS hd => a_1 rfl hA.e) ?_
  refine ⟨fun a w hA hS hd => by have e7 := hx hd 7; have e8 := hx hd 8; exact f_7 rfl rfl e7 (dv (m_4 rfl (b_8 e8) (evc _ _)) hS (by show Value.bool _ = _; simp only [decide_eq_true (show (aa_8 e_3 0 (150, 180)) = 0 from (by decide)), decide_true, decide_false, Bool.not_true, Bool.not_false])), ?_⟩
  refine dq (fun a w hA hS hd => b_6 rfl (hq hd 7) (hq hd 9)) ?_
  refine dq (fun a w hA hS hd => a_1 rfl (hq hd 10)) ?_
  refine dy 11 (fun a w hA hS hd => c_5 rfl h_5 (hA.ev rfl) (hS.bk 4 rfl) (l := [(iv ((ab_2 e_3 0 (150, 180)).1)), (iv ((ab_2 e_3 0 (150, 180)).2))]) rfl rfl) ?_
  refine ⟨fun a w hA hS hd => by have j := hx hd 11; exact f_7 rfl rfl j (dx (b_3 rfl en_31 (ev2 (evc _ _) (evc _ _)) (o_1 _ _ _)) hS (fun _ => rfl)), ?_⟩
  refine ⟨fun a w hA hS hd => by have j := hx hd 11; have Au := hx hd 12; have Av := hx hd 13; exact f_7 rfl rfl j (dv (op_eqlP tw_30 rfl (b_8 Au) (b_8 Av)) hS (by show Value.bool _ = _; simp only [(show (decide ((((ab_2 e_3 0 (150, 180)).1) : Int) = 248) && decide ((((ab_2 e_3 0 (150, 180)).2) : Int) = 282)) = true from (by decide)), decide_true, decide_false, Bool.not_true, Bool.not_false])), ?_⟩
  refine dq (fun a w hA hS hd => b_6 rfl (hq hd 11) (hq hd 14)) ?_
  refine dq (fun a w hA hS hd => a_1 rfl (hq hd 15)) ?_
  refine dy 16 (fun a w hA hS hd => a_1 rfl hA.e) ?_
  refine dy 16 (fun a w hA hS hd => m_4 rfl (hq hd 17) (evc _ _)) ?_
  refine dq (fun a w hA hS hd => b_6 rfl (hq hd 16) (hq hd 18)) ?_
  refine dq (fun a w hA hS hd => a_1 rfl (hq hd 19)) ?_
  refine dy 20 (fun a w hA hS hd => a_1 rfl hA.e) ?_
  refine dy 20 (fun a w hA hS hd => c_9 rfl un_50 (hq hd 21) (SlAt.d_6 (hS.e_4 0 rfl))) ?_
  refine ⟨fun a w hA hS hd => by have Aw := hx hd 20; have Ax := hx hd 22; exact f_7 rfl rfl Aw (dv (m_4 rfl (b_8 Ax) (evc _ _)) hS (by show Value.bool _ = _; simp only [decide_eq_true (show ([(161, 164), (259, 266), (83, 87)].length : Int) = 3 from (by decide)), decide_true, decide_false, Bool.not_true, Bool.not_false])), ?_⟩
  refine dq (fun a w hA hS hd => b_6 rfl (hq hd 20) (hq hd 23)) ?_
  refine dq (fun a w hA hS hd => a_1 rfl (hq hd 24)) ?_
  refine dy 25 (fun a w hA hS hd => a_1 rfl hA.e) ?_
  refine dy 25 (fun a w hA hS hd => b_0 rfl un_50 h_5 (hq hd 26) (i := 0) (show _ = Value.int .i64 ((0 : Nat) : Int) from (evc _ _)) (SlAt.d_6 (hS.e_4 0 rfl)) (by decide) (by decide)) ?_
  refine dy 25 (fun a w hA hS hd => e_7 rfl h_5 (hq hd 27) (SlAt.d_6 (hS.e_4 0 rfl)) (g_8 (by decide)) rfl (by decide)) ?_
  refine ⟨fun a w hA hS hd => by have k := hx hd 25; exact f_7 rfl rfl k (dx (b_3 rfl en_31 (ev2 (evc _ _) (evc _ _)) (o_1 _ _ _)) hS (fun _ => rfl)), ?_⟩
  refine ⟨fun a w hA hS hd => by have k := hx hd 25; have Ay := hx hd 28; have Az := hx hd 29; exact f_7 rfl rfl k (dv (op_eqlP tw_30 rfl (b_8 Ay) (b_8 Az)) hS (by show Value.bool _ = _; simp only [(show (decide ((((([(161, 164), (259, 266), (83, 87)]).getD 0 (0, 0)).1) : Int) = 161) && decide ((((([(161, 164), (259, 266), (83, 87)]).getD 0 (0, 0)).2) : Int) = 164)) = true from (by decide)), decide_true, decide_false, Bool.not_true, Bool.not_false])), ?_⟩
  refine dq (fun a w hA hS hd => b_6 rfl (hq hd 25) (hq hd 30)) ?_
  refine dq (fun a w hA hS hd => a_1 rfl (hq hd 31)) ?_
  refine dy 32 (fun a w hA hS hd => a_1 rfl hA.e) ?_
  refine dy 32 (fun a w hA hS hd => b_0 rfl un_50 h_5 (hq hd 33) (i := 1) (show _ = Value.int .i64 ((1 : Nat) : Int) from (evc _ _)) (SlAt.d_6 (hS.e_4 0 rfl)) (by decide) (by decide)) ?_
  refine dy 32 (fun a w hA hS hd => e_7 rfl h_5 (hq hd 34) (SlAt.d_6 (hS.e_4 0 rfl)) (g_8 (by decide)) rfl (by decide)) ?_
  refine ⟨fun a w hA hS hd => by have m := hx hd 32; exact f_7 rfl rfl m (dx (b_3 rfl en_31 (ev2 (evc _ _) (evc _ _)) (o_1 _ _ _)) hS (fun _ => rfl)), ?_⟩
  refine ⟨fun a w hA hS hd => by have m := hx hd 32; have A0 := hx hd 35; have A1 := hx hd 36; exact f_7 rfl rfl m (dv (op_eqlP tw_30 rfl (b_8 A0) (b_8 A1)) hS (by show Value.bool _ = _; simp only [(show (decide ((((([(161, 164), (259, 266), (83, 87)]).getD 1 (0, 0)).1) : Int) = 259) && decide ((((([(161, 164), (259, 266), (83, 87)]).getD 1 (0, 0)).2) : Int) = 266)) = true from (by decide)), decide_true, decide_false, Bool.not_true, Bool.not_false])), ?_⟩
  refine dq (fun a w hA hS hd => b_6 rfl (hq hd 32) (hq hd 37)) ?_
  refine dq (fun a w hA hS hd => a_1 rfl (hq hd 38)) ?_
  refine dy 39 (fun a w hA hS hd => a_1 rfl hA.e) ?_
  refine dy 39 (fun a w hA hS hd => b_0 rfl un_50 h_5 (hq hd 40) (i := 2) (show _ = Value.int .i64 ((2 : Nat) : Int) from (evc _ _)) (SlAt.d_6 (hS.e_4 0 rfl)) (by decide) (by decide)) ?_
  refine dy 39 (fun a w hA hS hd => e_7 rfl h_5 (hq hd 41) (SlAt.d_6 (hS.e_4 0 rfl)) (g_8 (by decide)) rfl (by decide)) ?_
  refine ⟨fun a w hA hS hd => by have n := hx hd 39; exact f_7 rfl rfl n (dx (b_3 rfl en_31 (ev2 (evc _ _) (evc _ _)) (o_1 _ _ _)) hS (fun _ => rfl)), ?_⟩
  refine ⟨fun a w hA hS hd => by have n := hx hd 39; have A2 := hx hd 42; have A3 := hx hd 43; exact f_7 rfl rfl n (dv (op_eqlP tw_30 rfl (b_8 A2) (b_8 A3)) hS (by show Value.bool _ = _; simp only [(show (decide ((((([(161, 164), (259, 266), (83, 87)]).getD 2 (0, 0)).1) : Int) = 83) && decide ((((([(161, 164), (259, 266), (83, 87)]).getD 2 (0, 0)).2) : Int) = 87)) = true from (by decide)), decide_true, decide_false, Bool.not_true, Bool.not_false])), ?_⟩
  refine dq (fun a w hA hS hd => b_6 rfl (hq hd 39) (hq hd 44)) ?_
  trivial
 intro AW BG f AR h; clear d AM
 have G := f.add (hz h 45); clear f
 clear h
 refine s1 G (a_0 rfl G.e) fun A9 g => ?_; clear G AW
 exact n1 (c_4 (a_9 g (.inl rfl) (a_2 g rfl (.tmp rfl)) (⟨rfl, AR.ext⟩)))
end Go.Proofs.Ytohgladndklciaa

namespace Go.Proofs.Ytohgladndklciaa
open Go.RowKit Go.Shelf Go.Eng Go.Hard
theorem en_16 : ∀ args w, (callFunc 16 args).run Try.prog w = .ok (.enter 16 args) w := enters_of Try.func16 (by kernel_rfl) rfl
theorem en_17 : ∀ args w, (callFunc 17 args).run Try.prog w = .ok (.enter 17 args) w := enters_of Try.func17 (by kernel_rfl) rfl
theorem en_19 : ∀ args w, (callFunc 19 args).run Try.prog w = .ok (.enter 19 args) w := enters_of Try.func19 (by kernel_rfl) rfl
theorem en_36 : ∀ args w, (callFunc 36 args).run Try.prog w = .ok (.enter 36 args) w := enters_of Try.func36 (by kernel_rfl) rfl
theorem en_23 : ∀ args w, (callFunc 23 args).run Try.prog w = .ok (.enter 23 args) w := enters_of Try.func23 (by kernel_rfl) rfl
theorem en_24 : ∀ args w, (callFunc 24 args).run Try.prog w = .ok (.enter 24 args) w := enters_of Try.func24 (by kernel_rfl) rfl
theorem bs_27_1_0iia (x0_0 : Int) (x0_1 : Int) : Instr.fill (fun i => some (i * 2, 2)) ((Array.range (1 * 2)).map ((Value.agg #[(iv 0), (iv 0)]).cells[· % (Value.agg #[(iv 0), (iv 0)]).cells.size]!)) [(0, .agg #[(.int .i64 x0_0), (.int .i64 x0_1)])] = some (([(.int .i64 x0_0), (.int .i64 x0_1)] : List Value).toArray) := by kernel_rfl
theorem x_9 : Try.prog.underlying 56 = some (.slice 27) := by kernel_rfl
theorem el_27 : elK Try.prog 27 = some ((Value.agg #[(iv 0), (iv 0)]), 2, 16) := by kernel_rfl
theorem en_60 : ∀ args w, (callFunc 60 args).run Try.prog w = .ok (.enter 60 args) w := enters_of Try.func60 (by kernel_rfl) rfl
theorem tw_27 : j_6 Try.prog 27 = true := by kernel_rfl
theorem en_26 : ∀ args w, (callFunc 26 args).run Try.prog w = .ok (.enter 26 args) w := enters_of Try.func26 (by kernel_rfl) rfl
theorem en_27 : ∀ args w, (callFunc 27 args).run Try.prog w = .ok (.enter 27 args) w := enters_of Try.func27 (by kernel_rfl) rfl
theorem en_28 : ∀ args w, (callFunc 28 args).run Try.prog w = .ok (.enter 28 args) w := enters_of Try.func28 (by kernel_rfl) rfl
theorem un_3 : Try.prog.underlying 3 = some (.int .i64) := by kernel_rfl
theorem ac_6 : tyK Try.prog 53 = some (false, 1) := by kernel_rfl
theorem en_74 : ∀ args w, (callFunc 74 args).run Try.prog w = .ok (.enter 74 args) w := enters_of Try.func74 (by kernel_rfl) rfl
theorem ty_116 : tyK Try.prog 116 = some (false, 1) := by kernel_rfl
theorem ty_134 : tyK Try.prog 134 = some (false, 1) := by kernel_rfl
theorem en_75 : ∀ args w, (callFunc 75 args).run Try.prog w = .ok (.enter 75 args) w := enters_of Try.func75 (by kernel_rfl) rfl
theorem en_73 : ∀ args w, (callFunc 73 args).run Try.prog w = .ok (.enter 73 args) w := enters_of Try.func73 (by kernel_rfl) rfl
theorem ze_116 : (Try.prog.info? 116).bind (·.zero) = some (Value.pointer none) := by kernel_rfl
theorem ze_44 : (Try.prog.info? 44).bind (·.zero) = some (Value.slice none 0 0) := by kernel_rfl
theorem ze_134 : (Try.prog.info? 134).bind (·.zero) = some Value.nilFunc := by kernel_rfl
theorem ze_67 : (Try.prog.info? 67).bind (·.zero) = some (Value.agg #[(iv 0), (iv 0)]) := by kernel_rfl
theorem bs_67_1_0iia (x0_0 : Int) (x0_1 : Int) : Instr.fill (fun i => some (i * 2, 2)) ((Array.range (1 * 2)).map ((Value.agg #[(iv 0), (iv 0)]).cells[· % (Value.agg #[(iv 0), (iv 0)]).cells.size]!)) [(0, .agg #[(.int .i64 x0_0), (.int .i64 x0_1)])] = some (([(.int .i64 x0_0), (.int .i64 x0_1)] : List Value).toArray) := by kernel_rfl
theorem el_67 : elK Try.prog 67 = some ((Value.agg #[(iv 0), (iv 0)]), 2, 16) := by kernel_rfl
theorem en_41 : ∀ args w, (callFunc 41 args).run Try.prog w = .ok (.enter 41 args) w := enters_of Try.func41 (by kernel_rfl) rfl
theorem en_43 : ∀ args w, (callFunc 43 args).run Try.prog w = .ok (.enter 43 args) w := enters_of Try.func43 (by kernel_rfl) rfl
theorem un_136 : Try.prog.underlying 136 = some (.int .u64) := by kernel_rfl
theorem en_76 : ∀ args w, (callFunc 76 args).run Try.prog w = .ok (.enter 76 args) w := enters_of Try.func76 (by kernel_rfl) rfl
theorem en_42 : ∀ args w, (callFunc 42 args).run Try.prog w = .ok (.enter 42 args) w := enters_of Try.func42 (by kernel_rfl) rfl
end Go.Proofs.Ytohgladndklciaa

namespace Go.Hard
section
variable {s t : h_3} {e f : Int} {k : Nat}
end
section
variable {b : h_7} {l : List (Int × Int)} {k j : Nat}
theorem start_free (hb : l_3 b) (hl : p_8 b l) (hk : k < b.scales.toNat) (h : ∀ i, i < l.length → (b.macs.getD (l.getD i (0, 0)).1.toNat mac0).scale ≠ (k : Int)) : ∀ j, j ≤ l.length → at' (c_3 b l f_3 j) k = rng0
  | 0, _ => by
    have := hb.four
    have : k < 4 := by omega
    match k, this with
    | 0, _ => rfl
    | 1, _ => rfl
    | 2, _ => rfl
    | 3, _ => rfl
  | j + 1, hj => by
    have ih := start_free hb hl hk h j (by omega)
    have hs := o_0 b l f_3 j
    have h4 : f_3.length = 4 := rfl
    have hsc := (hl.macV hb (k := j) (by omega)).scale
    have hne := h j (by omega)
    have hn := hb.four
    have hlt := w_9 hb hl (k := j) (by omega)
    rw [s_0, at_set (by omega), if_neg]
    · exact ih
    · unfold o_5; omega
variable {i : Nat}
end
end Go.Hard

namespace Go.Proofs.Ytohgladndklciaa
open Go.RowKit Go.Shelf Go.Eng Go.Hard
end Go.Proofs.Ytohgladndklciaa

namespace Go.Hard
section
variable {b : h_7} {l : List (Int × Int)} {z : List Int} {t : TabD} {k : Nat}
end
end Go.Hard

namespace Go.Hard
def n_9 (nb : Nat) : Nat → List Int → Nat → List (List Int)
  | 0, l, _ => [l]
  | m + 1, l, next => (List.range' next (nb - next)).flatMap fun (k : Nat) => n_9 nb m (l ++ [(k : Int)]) (k + 1)
theorem setsF_each (nb : Nat) : ∀ (m : Nat) (l : List Int) (next : Nat) (z : List Int), z ∈ n_9 nb m l next → ∃ ys, z = l ++ ys ∧ ys.length = m ∧ (∀ y ∈ ys, (next : Int) ≤ y ∧ y ≤ (nb : Int) - 1) ∧ ys.Pairwise (· < ·)
  | 0, l, next, z, h => by
    rw [n_9, List.mem_singleton] at h
    exact ⟨[], by rw [h, List.append_nil], rfl, by simp, List.Pairwise.nil⟩
  | m + 1, l, next, z, h => by
    rw [n_9, List.mem_flatMap] at h
    obtain ⟨k, hk, hz⟩ := h
    rw [List.mem_range'_1] at hk
    obtain ⟨ys, e, hl, hb, hp⟩ := setsF_each nb m (l ++ [(k : Int)]) (k + 1) z hz
    refine ⟨(k : Int) :: ys, by rw [e, List.append_assoc]; rfl, by simp [hl], fun y hy => ?_, List.pairwise_cons.2 ⟨fun y hy => by have := hb y hy; omega, hp⟩⟩
    rcases List.mem_cons.1 hy with rfl | hy
    · omega
    · have := hb y hy; omega
theorem setsF_mem (nb : Nat) : ∀ (ys l : List Int) (next : Nat), (∀ y ∈ ys, (next : Int) ≤ y ∧ y ≤ (nb : Int) - 1) → ys.Pairwise (· < ·) → l ++ ys ∈ n_9 nb ys.length l next
  | [], l, next, _, _ => by simp [n_9]
  | y :: ys, l, next, hb, hp => by
    have hy := hb y (List.mem_cons_self ..)
    rw [List.length_cons, n_9, List.mem_flatMap]
    refine ⟨y.toNat, List.mem_range'_1.2 ⟨by omega, by omega⟩, ?_⟩
    have e : ((y.toNat : Nat) : Int) = y := by omega
    rw [e]
    have := setsF_mem nb ys (l ++ [y]) (y.toNat + 1) (fun z hz => by
      have h1 := (List.pairwise_cons.1 hp).1 z hz
      have h2 := hb z (List.mem_cons_of_mem _ hz)
      omega) (List.pairwise_cons.1 hp).2
    rwa [List.append_assoc] at this
def hasB (l : List Int) (k : Int) : Bool := (List.range l.length).any fun i => decide (k = l.getD i 0)
theorem hasB_iff {l : List Int} {k : Int} : hasB l k = true ↔ k ∈ l := by
  unfold hasB
  rw [List.any_eq_true]
  constructor
  · rintro ⟨i, hi, h⟩
    rw [List.mem_range] at hi
    rw [of_decide_eq_true h]
    simp only [List.getD, List.getElem?_eq_getElem hi, Option.getD_some]
    exact List.getElem_mem hi
  · intro h
    obtain ⟨i, hi, e⟩ := List.getElem_of_mem h
    exact ⟨i, List.mem_range.2 hi, decide_eq_true (by simp [List.getD, hi, e])⟩
theorem find_app {p : List Int → Bool} : ∀ {x y : List (List Int)}, x.any p = false → (x ++ y).find? p = y.find? p
  | [], _, _ => rfl
  | a :: x, y, h => by
    simp only [List.any_cons, Bool.or_eq_false_iff] at h
    rw [List.cons_append, List.find?_cons, h.1]
    exact find_app h.2
theorem find_app2 {p : List Int → Bool} {z : List Int} : ∀ {x y : List (List Int)}, x.find? p = some z → (x ++ y).find? p = some z
  | [], _, h => by cases h
  | a :: x, y, h => by
    rw [List.cons_append, List.find?_cons]
    rw [List.find?_cons] at h
    split <;> rename_i hp
    · rw [hp] at h; exact h
    · rw [hp] at h; exact find_app2 h
def l_2 (nb k : Nat) : List (List Int) := (List.range k).flatMap fun m => n_9 nb m [] 0
theorem w_3 (nb k : Nat) : l_2 nb (k + 1) = l_2 nb k ++ n_9 nb k [] 0 := by
  unfold l_2; rw [List.range_succ, List.flatMap_append]; simp
theorem allUpto_pre (nb k : Nat) : ∀ n, ∃ rest, l_2 nb (k + n) = l_2 nb k ++ rest
  | 0 => ⟨[], by simp⟩
  | n + 1 => by
    obtain ⟨rest, e⟩ := allUpto_pre nb k n
    exact ⟨rest ++ n_9 nb (k + n) [] 0, by rw [← Nat.add_assoc, w_3, e, List.append_assoc]⟩
def numsF (n : Nat) : List Int := (List.range n).map fun (i : Nat) => (i : Int)
theorem nums_sets (n : Nat) : numsF n ∈ n_9 n n [] 0 := by
  have h := setsF_mem n (numsF n) [] 0 (fun y hy => by
    obtain ⟨i, hi, rfl⟩ := List.mem_map.1 hy
    rw [List.mem_range] at hi; omega) (by
    unfold numsF; rw [List.pairwise_map]
    exact List.pairwise_lt_range.imp (fun h => by omega))
  have e : (numsF n).length = n := by simp [numsF]
  rwa [e, List.nil_append] at h
def ad_3 (l : List Int) (k : Nat) : List Nat := (List.range k).filter fun (i : Nat) => !hasB l (i : Int)
def woU (l : List Int) (k j : Nat) : Bool := !((List.range j).any fun q => decide ((k : Int) = l.getD q 0))
theorem woU_succ (l : List Int) (k j : Nat) : woU l k (j + 1) = (woU l k j && !decide ((k : Int) = l.getD j 0)) := by
  unfold woU; rw [List.range_succ, List.any_append]; simp
theorem woU_f1 {l : List Int} {k j : Nat} (h : woU l k j = false) : woU l k (j + 1) = false := by rw [woU_succ, h]; rfl
theorem woU_t2 {l : List Int} {k j : Nat} (h : woU l k j = true) : woU l k (j + 1) = !decide (l.getD j 0 = (k : Int)) := by
  rw [woU_succ, h, Bool.true_and]
  congr 1
  exact decide_eq_decide.2 ⟨Eq.symm, Eq.symm⟩
theorem woU_all {l : List Int} {k j : Nat} (h : j = l.length) : woU l k j = !hasB l (k : Int) := by subst h; rfl
theorem woSel_y {l : List Int} {k j : Nat} (hj : j = l.length) (h : woU l k j = true) : ad_3 l (k + 1) = ad_3 l k ++ [k] := by
  rw [woU_all hj] at h
  unfold ad_3; rw [List.range_succ, List.filter_append, List.filter_cons, if_pos h]; rfl
theorem woSel_n {l : List Int} {k j : Nat} (hj : j = l.length) (h : woU l k j = false) : ad_3 l (k + 1) = ad_3 l k := by
  rw [woU_all hj] at h
  unfold ad_3; rw [List.range_succ, List.filter_append, List.filter_cons, if_neg (by rw [h]; decide)]; simp
theorem woSel_lt {l : List Int} {k i : Nat} (h : i ∈ ad_3 l k) : i < k := List.mem_range.1 (List.mem_filter.1 h).1
theorem woSel_len (l : List Int) (k : Nat) : (ad_3 l k).length ≤ k := by unfold ad_3; exact Nat.le_trans (List.length_filter_le ..) (by simp)
theorem getD_memN {sel : List Nat} {i : Nat} (h : i < sel.length) : sel.getD i 0 ∈ sel := by
  simp only [List.getD, List.getElem?_eq_getElem h, Option.getD_some]; exact List.getElem_mem h
def d_5 (l : List (Int × Int)) (s : List Int) (k : Nat) : List (Int × Int) := (ad_3 s k).map fun i => l.getD i (0, 0)
def woF (l : List (Int × Int)) (s : List Int) : List (Int × Int) := d_5 l s l.length
def okS (b : h_7) (l : List (Int × Int)) (s : List Int) : Bool := (k_5 b (woF l s)).isSome
def i_6 (n : Nat) (p : List Int → Bool) (m : Nat) (s : List Int) (next : Nat) : Bool := (n_9 n m s next).any p
def l_0 (b : h_7) (l : List (Int × Int)) : List Int := ((l_2 l.length (l.length + 1)).find? (okS b l)).getD []
section
variable {n m next k : Nat} {p : List Int → Bool} {s : List Int} {l : List (Int × Int)} {b : h_7}
theorem sets_step (n m : Nat) (s : List Int) (next : Nat) (h : next < n) : n_9 n (m + 1) s next = n_9 n m (s ++ [(next : Int)]) (next + 1) ++ n_9 n (m + 1) s (next + 1) := by
  rw [n_9, n_9, show n - next = (n - (next + 1)) + 1 by omega, List.range'_succ, List.flatMap_cons]
theorem sets_none : ∀ (m : Nat) (s : List Int) (next : Nat), n < next + (m + 1) → n_9 n (m + 1) s next = []
  | 0, s, next, h => by rw [n_9, show n - next = 0 by omega]; rfl
  | m + 1, s, next, h => by
    rw [n_9, List.flatMap_eq_nil_iff]
    intro k hk
    rw [List.mem_range'_1] at hk
    exact sets_none m _ _ (by omega)
theorem lv_0 : i_6 n p 0 s next = p s := by simp [i_6, n_9]
theorem lv_f0 (h : p s = true) : (n_9 n 0 s next).find? p = some s := by simp [n_9, h]
theorem lv_hit {z : List Int} (h : next < n) (hy : i_6 n p m (s ++ [(next : Int)]) (next + 1) = true) (hf : (n_9 n m (s ++ [(next : Int)]) (next + 1)).find? p = some z) : i_6 n p (m + 1) s next = true ∧ (n_9 n (m + 1) s next).find? p = some z := by
  unfold i_6 at hy ⊢
  rw [sets_step n m s next h]
  exact ⟨by rw [List.any_append, hy]; rfl, find_app2 hf⟩
theorem lv_go (h : next < n) (hn : i_6 n p m (s ++ [(next : Int)]) (next + 1) = false) : i_6 n p (m + 1) s next = i_6 n p (m + 1) s (next + 1) := by
  unfold i_6 at hn ⊢
  rw [sets_step n m s next h, List.any_append, hn, Bool.false_or]
theorem lv_gof {z : List Int} (h : next < n) (hn : i_6 n p m (s ++ [(next : Int)]) (next + 1) = false) (hf : (n_9 n (m + 1) s (next + 1)).find? p = some z) : (n_9 n (m + 1) s next).find? p = some z := by
  rw [sets_step n m s next h, find_app hn]; exact hf
theorem lv_no (h : next < n) (hn : i_6 n p m (s ++ [(next : Int)]) (next + 1) = false) (hm : n ≤ next + (m + 1)) : i_6 n p (m + 1) s next = false := by
  rw [lv_go h hn]; unfold i_6; rw [sets_none _ _ _ (by omega)]; rfl
theorem all_go (hn : (l_2 n k).any p = false) (hy : i_6 n p k [] 0 = false) : (l_2 n (k + 1)).any p = false := by
  rw [w_3, List.any_append, hn]
  unfold i_6 at hy; rw [hy]; rfl
theorem kep_len (l : List (Int × Int)) (s : List Int) (k : Nat) : (d_5 l s k).length ≤ k := by unfold d_5; rw [List.length_map]; exact woSel_len ..
theorem kep_at {i : Nat} (hi : i < (d_5 l s k).length) : ∃ j, j < k ∧ (d_5 l s k).getD i (0, 0) = l.getD j (0, 0) := by
  unfold d_5 at hi ⊢
  rw [List.length_map] at hi
  exact ⟨_, woSel_lt (getD_memN hi), by simp [List.getD, hi]⟩
theorem kep_read (hl : p_8 b l) (hk : k ≤ l.length) : p_8 b (d_5 l s k) := by
  have hlen := hl.len
  have := kep_len l s k
  refine ⟨by omega, fun i hi => ?_, fun i hi => ?_, fun i hi => ?_⟩ <;> obtain ⟨j, hj, e⟩ := kep_at hi <;> rw [e]
  · exact hl.mac j (by omega)
  · exact hl.read j (by omega)
  · exact hl.off j (by omega)
theorem kep_y {j : Nat} (hj : j = s.length) (h : woU s k j = true) : d_5 l s (k + 1) = d_5 l s k ++ [l.getD k (0, 0)] := by
  unfold d_5; rw [woSel_y hj h, List.map_append]; rfl
theorem kep_n {j : Nat} (hj : j = s.length) (h : woU s k j = false) : d_5 l s (k + 1) = d_5 l s k := by
  unfold d_5; rw [woSel_n hj h]
theorem wo_read (hl : p_8 b l) : p_8 b (woF l s) := kep_read hl (Nat.le_refl _)
def u_0 (s : List Int) (k : Nat) : Prop := ∀ y ∈ s, (0 : Int) ≤ y ∧ y < (k : Int)
theorem u_0.nil : u_0 [] k := fun _ h => by cases h
theorem u_0.more (h : u_0 s k) : u_0 s (k + 1) := fun y hy => by have := h y hy; omega
theorem u_0.snoc (h : u_0 s k) : u_0 (s ++ [(k : Int)]) (k + 1) := fun y hy => by
  rcases List.mem_append.1 hy with hy | hy
  · have := h y hy; omega
  · rw [List.mem_singleton] at hy; omega
theorem kep_out (h : u_0 s k) : d_5 l (s ++ [(k : Int)]) (k + 1) = d_5 l s k := by
  unfold d_5 ad_3
  congr 1
  rw [List.range_succ, List.filter_append, List.filter_cons, if_neg (by rw [hasB_iff.2 (List.mem_append_right _ (List.mem_singleton.2 rfl))]; decide)]
  rw [List.filter_nil, List.append_nil]
  refine List.filter_congr fun i hi => ?_
  rw [List.mem_range] at hi
  congr 1
  rw [Bool.eq_iff_iff, hasB_iff, hasB_iff, List.mem_append, List.mem_singleton]
  exact ⟨fun h => h.resolve_right (by omega), .inl⟩
theorem kep_in (h : u_0 s k) : d_5 l s (k + 1) = d_5 l s k ++ [l.getD k (0, 0)] := by
  unfold d_5 ad_3
  rw [List.range_succ, List.filter_append, List.filter_cons, if_pos, List.filter_nil, List.map_append]; rfl
  cases hb : hasB s (k : Int) with
  | false => rfl
  | true => have := h _ (hasB_iff.1 hb); omega
theorem spans_free (hb : l_3 b) : (k_5 b []).isSome = true := by
  have hl : p_8 b [] := ⟨Nat.zero_le _, fun _ h => absurd h (Nat.not_lt_zero _), fun _ h => absurd h (Nat.not_lt_zero _), fun _ h => absurd h (Nat.not_lt_zero _)⟩
  have hw := spans_is hb hl
  have hn := hb.four
  have hat : ∀ i, i < b.scales.toNat → at' (r_1 b []) i = rng0 := fun i hi => start_free hb hl hi (fun _ h => absurd h (Nat.not_lt_zero _)) 0 (Nat.zero_le _)
  cases hs : k_5 b [] with
  | some t => rfl
  | none =>
    rw [hs] at hw
    refine absurd ⟨Sub.refl _ _, fun i hi => ?_, fun t ht => ?_⟩ (hw (r_1 b []))
    · rw [hat i hi]; decide
    · have hv := hb.natV t ht
      have h1 := hv.frm
      have h3 := hv.len
      intro hc
      rw [hat _ (by omega)] at hc
      have h4 := (t_2.1 hc).1
      have := (hv.bnd 0 (by omega)).1.1
      have h5 : (1 : Int) ≤ (rng0).1 := by omega
      exact absurd h5 (by decide)
theorem ok_all (hb : l_3 b) : okS b l (numsF l.length) = true := by
  have e : woF l (numsF l.length) = [] := by
    unfold woF d_5
    rw [List.map_eq_nil_iff]
    unfold ad_3
    rw [List.filter_eq_nil_iff]
    intro i hi
    rw [List.mem_range] at hi
    rw [show hasB (numsF l.length) (i : Int) = true from hasB_iff.2 (List.mem_map.2 ⟨i, List.mem_range.2 hi, rfl⟩)]; decide
  unfold okS; rw [e]; exact spans_free hb
theorem lv_all (hb : l_3 b) : i_6 l.length (okS b l) l.length [] 0 = true := List.any_eq_true.2 ⟨_, nums_sets _, ok_all hb⟩
theorem doubt_found {z : List Int} (hk : k ≤ l.length) (hn : (l_2 l.length k).any (okS b l) = false) (hf : (n_9 l.length k [] 0).find? (okS b l) = some z) : l_0 b l = z := by
  unfold l_0
  obtain ⟨rest, e⟩ := allUpto_pre l.length (k + 1) (l.length - k)
  rw [show l.length + 1 = k + 1 + (l.length - k) by omega, e, w_3, List.append_assoc, find_app hn, find_app2 hf]; rfl
theorem all_not (hb : l_3 b) (hk : l.length < k) (hn : (l_2 l.length k).any (okS b l) = false) : False := by
  obtain ⟨rest, e⟩ := allUpto_pre l.length (l.length + 1) (k - (l.length + 1))
  rw [show l.length + 1 + (k - (l.length + 1)) = k by omega] at e
  rw [e, w_3] at hn
  simp only [List.any_append, Bool.or_eq_false_iff] at hn
  have := lv_all (l := l) hb
  unfold i_6 at this
  rw [hn.1.2] at this; cases this
theorem doubt_is (hb : l_3 b) (l : List (Int × Int)) : okS b l (l_0 b l) = true ∧ (∀ y ∈ l_0 b l, (0 : Int) ≤ y ∧ y ≤ (l.length : Int) - 1) ∧ (l_0 b l).Pairwise (· < ·) ∧ (l_0 b l).length ≤ l.length ∧
    (∀ z : List Int, (∀ y ∈ z, (0 : Int) ≤ y ∧ y ≤ (l.length : Int) - 1) → z.Pairwise (· < ·) → z.length < (l_0 b l).length → okS b l z = false) := by
  have hex : ∃ k, k ≤ l.length ∧ i_6 l.length (okS b l) k [] 0 = true ∧ (l_2 l.length k).any (okS b l) = false := by
    have key : ∀ k, (l_2 l.length k).any (okS b l) = false ∨ ∃ j, j < k ∧ i_6 l.length (okS b l) j [] 0 = true ∧ (l_2 l.length j).any (okS b l) = false := by
      intro k
      induction k with
      | zero => exact .inl rfl
      | succ k ih =>
        rcases ih with h | ⟨j, hj, h⟩
        · cases hc : i_6 l.length (okS b l) k [] 0 with
          | true => exact .inr ⟨k, by omega, hc, h⟩
          | false => exact .inl (all_go h hc)
        · exact .inr ⟨j, by omega, h⟩
    rcases key (l.length + 1) with h | ⟨j, hj, h⟩
    · exact (all_not hb (Nat.lt_succ_self _) h).elim
    · exact ⟨j, by omega, h⟩
  obtain ⟨k, hk, hy, hn⟩ := hex
  unfold i_6 at hy
  obtain ⟨z0, hz0⟩ : ∃ z, (n_9 l.length k [] 0).find? (okS b l) = some z := by
    exact Option.isSome_iff_exists.1 (by rw [List.find?_isSome]; obtain ⟨x, h1, h2⟩ := List.any_eq_true.1 hy; exact ⟨x, h1, h2⟩)
  have e := doubt_found hk hn hz0
  have h1 := List.find?_some hz0
  obtain ⟨ys, e2, hl, hbd, hp⟩ := setsF_each _ _ _ _ _ (List.mem_of_find?_eq_some hz0)
  rw [List.nil_append] at e2
  subst e2
  rw [e]
  refine ⟨h1, fun y hy => by have := hbd y hy; omega, hp, by omega, fun z hzb hzp hzl => ?_⟩
  have hm := setsF_mem l.length z [] 0 (fun y hy => by have := hzb y hy; omega) hzp
  rw [List.nil_append] at hm
  cases hc : okS b l z with
  | false => rfl
  | true =>
    have : (l_2 l.length k).any (okS b l) = true := List.any_eq_true.2 ⟨z, List.mem_flatMap.2 ⟨z.length, List.mem_range.2 (by omega), hm⟩, hc⟩
    rw [hn] at this; cases this
theorem doubt_bd (hb : l_3 b) (l : List (Int × Int)) : (l_0 b l).length ≤ l.length ∧ (∀ i, i < (l_0 b l).length → 0 ≤ (l_0 b l).getD i 0 ∧ (l_0 b l).getD i 0 ≤ (l.length : Int) - 1) ∧ (∀ i, 0 < i → i < (l_0 b l).length → (l_0 b l).getD (i - 1) 0 < (l_0 b l).getD i 0) := by
  obtain ⟨h1, h2, h3, h4, h5⟩ := doubt_is hb l
  refine ⟨h4, fun i hi => h2 _ (o_9 hi), fun i h0 hi => ?_⟩
  have := List.pairwise_iff_getElem.1 h3 (i - 1) i (by omega) hi (by omega)
  simpa [List.getD, hi, show i - 1 < (l_0 b l).length by omega] using this
end
end Go.Hard

namespace Go.Proofs.Ytohgladndklciaa
open Go.RowKit Go.Shelf Go.Eng Go.Hard
theorem leave_zero (b : h_7) (vt vm : Value) (lr lb lk : Nat → Value) (hth : n_5 b) (hb : l_3 b) (bx bm : Nat) (es : Array MapEntry) (ck : Nat) (hMO : r_2 bm es ck (bN b.tabs b.tabs.length)) (l : List (Int × Int)) (hl : p_8 b l) (xr : Value) (bb br B bs : Nat) (s : List Int) (xl xk vb : Value) (best : List Int) (w : World) (X : Nat → Prop) (hsl : s.length ≤ 1000) (hJ : Sep X w w [(row xl 3 1 s.length (ints s)), (blk bb 44 [vb]), (row vb 3 1 best.length (ints best)), (rob bs 134 [(Value.func (.func 73) #[] #[(bptr br 0), (bptr bb 0), (bptr B 0), (bptr bs 0)])]), (rob br 53 [xr]), (rob B 116 [(bptr bx 0)]), (rob bx 146 [(iv b.scales), vt, vm, (Value.map (some bm))]), (mapX false bm es ck es.size 106 5 (bN b.tabs b.tabs.length) (bC lr lb b.tabs b.tabs.length)), (d_3 false vt lr lb b.tabs), (d_9 false vm lk b.macs), (sl xr 2 l.length (pairs l)), (sl xk 2 ((d_5 l s l.length).length) (pairs (d_5 l s l.length)))]) :
  Calls Try.prog 73 #[xl, xk, (iv (l.length : Int)), (iv 0), (bptr br 0), (bptr bb 0), (bptr B 0), (bptr bs 0)] w (Ret fun v w' => v = .bool (i_6 l.length (okS b l) 0 s l.length) ∧ ∃ vb' best', ((i_6 l.length (okS b l) 0 s l.length) = true → (n_9 l.length 0 s l.length).find? (okS b l) = some best') ∧ Sep X w w' [(row xl 3 1 s.length (ints s)), (blk bb 44 [vb']), (row vb' 3 1 best'.length (ints best')), (rob bs 134 [(Value.func (.func 73) #[] #[(bptr br 0), (bptr bb 0), (bptr B 0), (bptr bs 0)])]), (rob br 53 [xr]), (rob B 116 [(bptr bx 0)]), (rob bx 146 [(iv b.scales), vt, vm, (Value.map (some bm))]), (mapX false bm es ck es.size 106 5 (bN b.tabs b.tabs.length) (bC lr lb b.tabs b.tabs.length)), (d_3 false vt lr lb b.tabs), (d_9 false vm lk b.macs), (sl xr 2 l.length (pairs l)), (sl xk 2 ((d_5 l s l.length).length) (pairs (d_5 l s l.length)))]) := by
 refine a_8 Try.func73 rfl fun x W => ?_
 replace W : Fr 69 [] [(0, xl), (1, xk), (2, (iv (l.length : Int))), (3, (iv 0)), (4, (bptr br 0)), (5, (bptr bb 0)), (6, (bptr B 0)), (7, (bptr bs 0))] x := W
 have hll := hl.len; have hkl := kep_len l s l.length
 have I : Sep X w w [(row xl 3 1 s.length (ints s)), (blk bb 44 [vb]), (row vb 3 1 best.length (ints best)), (rob bs 134 [(Value.func (.func 73) #[] #[(bptr br 0), (bptr bb 0), (bptr B 0), (bptr bs 0)])]), (rob br 53 [xr]), (rob B 116 [(bptr bx 0)]), (rob bx 146 [(iv b.scales), vt, vm, (Value.map (some bm))]), (mapX false bm es ck es.size 106 5 (bN b.tabs b.tabs.length) (bC lr lb b.tabs b.tabs.length)), (d_3 false vt lr lb b.tabs), (d_9 false vm lk b.macs), (sl xr 2 l.length (pairs l)), (sl xk 2 ((d_5 l s l.length).length) (pairs (d_5 l s l.length)))] := hJ
 refine m2 (s1 W (a_0 rfl (evc _ _)) fun a1 a => ?_); clear W x
 refine n2 (m2 (s1 a (a_1 rfl a.e) fun a3 c => ?_)); clear a a1
 refine s1 c (a_3 rfl ac_6 c.e (I.rk 4 rfl) rfl) fun a5 g => ?_; clear c a3
 refine s1 g (c_9 rfl p_9 g.e (I.sk 10 rfl)) fun a7 Y => ?_; clear g a5
 refine s1 Y (m_4 rfl Y.e Y.e) fun a9 C => ?_; clear Y a7
 have u : (l.length : Int) = (l.length : Int) := rfl
 rw [decide_eq_true u] at C
 refine n1 (b_7 C rfl (b_5 ?_))
 have J := C.as [(0, xl), (1, xk), (3, (iv 0)), (5, (bptr bb 0)), (6, (bptr B 0))] rfl; clear C
 refine a_5 (s1 J (a_1 rfl J.e) fun y K => ?_); clear J a9
 refine s2 K (b_3 rfl en_74 (ev1 K.e) (clone_int s _ _ (SlAt.d_6 (I.e_4 0 rfl)) (by omega))) ?_
 rintro z r AW ⟨k, hO19⟩ D; have H := I.x_8 k hO19; clear k hO19 K I y
 refine s7 D (c_0 H rfl ab_1 D.e D.e (i := 2) rfl (vs := [r]) (r_7 (SlAt.isSl (SlAt.d_6 (H.e_4 0 rfl)))) rfl (i_8 (SlAt.one (SlAt.d_6 (H.e_4 0 rfl))) w_1) (Nat.le_of_ble_eq_true rfl)) ?_
 intro _ AN n L; clear D
 have A : Sep X w AN [(row r 3 1 s.length (ints s)), (row xl 3 1 s.length (ints s)), (blk bb 44 [r]), (row vb 3 1 best.length (ints best)), (rob bs 134 [(Value.func (.func 73) #[] #[(bptr br 0), (bptr bb 0), (bptr B 0), (bptr bs 0)])]), (rob br 53 [xr]), (rob B 116 [(bptr bx 0)]), (rob bx 146 [(iv b.scales), vt, vm, (Value.map (some bm))]), (mapX false bm es ck es.size 106 5 (bN b.tabs b.tabs.length) (bC lr lb b.tabs b.tabs.length)), (d_3 false vt lr lb b.tabs), (d_9 false vm lk b.macs), (sl xr 2 l.length (pairs l)), (sl xk 2 ((d_5 l s l.length).length) (pairs (d_5 l s l.length)))] := n; clear n H
 refine n4 (s1 L (a_3 rfl ty_116 L.e (A.rk 6 rfl) rfl) fun AA M => ?_); clear L z
 refine s1 M (a_1 rfl M.e) fun AB E => ?_; clear M AA
 refine s2 E (b_3 rfl en_57 (ev2 E.e E.e) (spansb_ok b vt vm lr lb lk _ (c_1 (A.ok 9 _ rfl)) (c_8 (A.ok 10 _ rfl)) hth bx bm _ _ hMO (A.rk 7 rfl) (A.ok 8 _ rfl) hb (d_5 l s l.length) _ (A.sk 12 rfl) (kep_read hl (Nat.le_refl _)))) ?_
 rintro AC _ AX ⟨Z, AT, rfl, htk35, m⟩ N; have o := A.step m; clear m E A AB
 refine s1 N (a_1 rfl N.e) fun AD O => ?_; clear N AC
 refine s1 O (e_9 rfl O.e rfl) fun AE P => ?_; clear O AD
 refine s1 P (e_9 rfl P.e rfl) fun AF d => ?_; clear P AE
 refine s2 d (e_0 o rfl ze_120 (cs := [(iv 0), (iv 0), (iv 0), (iv 0), (iv 0), (iv 0), (iv 0), (iv 0)]) rfl) ?_
 rintro AG _ AY ⟨AV, rfl, p⟩ F; clear d o AF
 refine s7 F (c_0 p rfl m_1 F.e F.e (i := 0) rfl (vs := (pairs Z)) rfl (show (pairs Z).length = 8 from by simp only [b_2, List.length_set]; omega) (l_9 _) (by decide)) ?_
 intro _ AZ q Q; have t := q.p_3 (i := 0) rfl (cs' := (pairs Z)) (k_7 _ _ (Eq.symm (show (pairs Z).length = 8 from by simp only [b_2, List.length_set]; omega))); clear q F p
 refine s1 Q (a_0 rfl Q.e) fun AH f => ?_; clear Q AG
 refine n2 ?_
 have R := f.as [(14, (Value.bool ((k_5 b (d_5 l s l.length)).isSome))), (3, (iv 0))] rfl; clear f
 refine a_5 (s1 R (a_1 rfl R.e) fun AI S => ?_); clear R AH
 refine s1 S (m_4 rfl S.e (evc _ _)) fun AJ T => ?_; clear S AI
 refine s1 T (a_1 rfl T.e) fun AK U => ?_; clear T AJ
 refine s5 U (a_1 rfl U.e) fun AL G => ?_; clear U AK
 refine s1 G (b_6 rfl G.e G.e) fun AM V => ?_; clear G AL
 refine s1 V (a_0 rfl V.e) fun AU j => ?_; clear V AM
 refine n1 (c_4 (a_6 (a_9 j (.inl rfl) (a_2 j rfl (.tmp rfl)) ?_)))
 rw [lv_0]
 exact ⟨rfl, _, s, fun h => lv_f0 h, t.keep [2, 3, 1, 5, 6, 7, 8, 9, 10, 11, 12, 13] (by decide) _ rfl rfl⟩
theorem leave_keep (b : h_7) (vt vm : Value) (lr lb lk : Nat → Value) (hth : n_5 b) (hb : l_3 b) (bx bm : Nat) (es : Array MapEntry) (ck : Nat) (hMO : r_2 bm es ck (bN b.tabs b.tabs.length)) (l : List (Int × Int)) (hl : p_8 b l) (xr : Value) (bb br E bs : Nat) (d : Nat) (ih : ∀ (m : Nat) (q : Nat) (s : List Int) (xl xk vb : Value) (best : List Int) (w : World) (X : Nat → Prop) (_ : m ≤ d) (_ : q + d = l.length) (_ : u_0 s q) (_ : s.length + m ≤ 1000) (_ : Sep X w w [(row xl 3 1 s.length (ints s)), (blk bb 44 [vb]), (row vb 3 1 best.length (ints best)), (rob bs 134 [(Value.func (.func 73) #[] #[(bptr br 0), (bptr bb 0), (bptr E 0), (bptr bs 0)])]), (rob br 53 [xr]), (rob E 116 [(bptr bx 0)]), (rob bx 146 [(iv b.scales), vt, vm, (Value.map (some bm))]), (mapX false bm es ck es.size 106 5 (bN b.tabs b.tabs.length) (bC lr lb b.tabs b.tabs.length)), (d_3 false vt lr lb b.tabs), (d_9 false vm lk b.macs), (sl xr 2 l.length (pairs l)), (sl xk 2 ((d_5 l s q).length) (pairs (d_5 l s q)))]), Calls Try.prog 73 #[xl, xk, .int .i64 (q : Int), .int .i64 (m : Int), bptr br 0, bptr bb 0, bptr E 0, bptr bs 0] w (Ret fun v w' => v = .bool (i_6 l.length (okS b l) m s q) ∧ ∃ vb' best', ((i_6 l.length (okS b l) m s q) = true → (n_9 l.length m s q).find? (okS b l) = some best') ∧ Sep X w w' [(row xl 3 1 s.length (ints s)), (blk bb 44 [vb']), (row vb' 3 1 best'.length (ints best')), (rob bs 134 [(Value.func (.func 73) #[] #[(bptr br 0), (bptr bb 0), (bptr E 0), (bptr bs 0)])]), (rob br 53 [xr]), (rob E 116 [(bptr bx 0)]), (rob bx 146 [(iv b.scales), vt, vm, (Value.map (some bm))]), (mapX false bm es ck es.size 106 5 (bN b.tabs b.tabs.length) (bC lr lb b.tabs b.tabs.length)), (d_3 false vt lr lb b.tabs), (d_9 false vm lk b.macs), (sl xr 2 l.length (pairs l)), (sl xk 2 ((d_5 l s q).length) (pairs (d_5 l s q)))])) (q : Nat) (s : List Int) (xl xk vb : Value) (best : List Int) (w : World) (X : Nat → Prop) (hm : 0 ≤ d + 1) (hqd : q + (d + 1) = l.length) (hs : u_0 s q) (hsl : s.length + 0 ≤ 1000) (hJ : Sep X w w [(row xl 3 1 s.length (ints s)), (blk bb 44 [vb]), (row vb 3 1 best.length (ints best)), (rob bs 134 [(Value.func (.func 73) #[] #[(bptr br 0), (bptr bb 0), (bptr E 0), (bptr bs 0)])]), (rob br 53 [xr]), (rob E 116 [(bptr bx 0)]), (rob bx 146 [(iv b.scales), vt, vm, (Value.map (some bm))]), (mapX false bm es ck es.size 106 5 (bN b.tabs b.tabs.length) (bC lr lb b.tabs b.tabs.length)), (d_3 false vt lr lb b.tabs), (d_9 false vm lk b.macs), (sl xr 2 l.length (pairs l)), (sl xk 2 ((d_5 l s q).length) (pairs (d_5 l s q)))]) :
  Calls Try.prog 73 #[xl, xk, (iv (q : Int)), (iv 0), (bptr br 0), (bptr bb 0), (bptr E 0), (bptr bs 0)] w (Ret fun v w' => v = .bool (i_6 l.length (okS b l) 0 s q) ∧ ∃ vb' best', ((i_6 l.length (okS b l) 0 s q) = true → (n_9 l.length 0 s q).find? (okS b l) = some best') ∧ Sep X w w' [(row xl 3 1 s.length (ints s)), (blk bb 44 [vb']), (row vb' 3 1 best'.length (ints best')), (rob bs 134 [(Value.func (.func 73) #[] #[(bptr br 0), (bptr bb 0), (bptr E 0), (bptr bs 0)])]), (rob br 53 [xr]), (rob E 116 [(bptr bx 0)]), (rob bx 146 [(iv b.scales), vt, vm, (Value.map (some bm))]), (mapX false bm es ck es.size 106 5 (bN b.tabs b.tabs.length) (bC lr lb b.tabs b.tabs.length)), (d_3 false vt lr lb b.tabs), (d_9 false vm lk b.macs), (sl xr 2 l.length (pairs l)), (sl xk 2 ((d_5 l s q).length) (pairs (d_5 l s q)))]) := by
 refine a_8 Try.func73 rfl fun a0 O => ?_
 replace O : Fr 69 [] [(0, xl), (1, xk), (2, (iv (q : Int))), (3, (iv 0)), (4, (bptr br 0)), (5, (bptr bb 0)), (6, (bptr E 0)), (7, (bptr bs 0))] a0 := O
 have hll := hl.len; have hkl := kep_len l s q
 have Q : Sep X w w [(row xl 3 1 s.length (ints s)), (blk bb 44 [vb]), (row vb 3 1 best.length (ints best)), (rob bs 134 [(Value.func (.func 73) #[] #[(bptr br 0), (bptr bb 0), (bptr E 0), (bptr bs 0)])]), (rob br 53 [xr]), (rob E 116 [(bptr bx 0)]), (rob bx 146 [(iv b.scales), vt, vm, (Value.map (some bm))]), (mapX false bm es ck es.size 106 5 (bN b.tabs b.tabs.length) (bC lr lb b.tabs b.tabs.length)), (d_3 false vt lr lb b.tabs), (d_9 false vm lk b.macs), (sl xr 2 l.length (pairs l)), (sl xk 2 ((d_5 l s q).length) (pairs (d_5 l s q)))] := hJ
 refine m2 (s1 O (a_0 rfl (evc _ _)) fun a1 Y => ?_); clear O a0
 refine n2 (m2 (s1 Y (a_1 rfl Y.e) fun a3 r => ?_)); clear Y a1
 refine s1 r (a_3 rfl ac_6 r.e (Q.rk 4 rfl) rfl) fun a5 AB => ?_; clear r a3
 refine s1 AB (c_9 rfl p_9 AB.e (Q.sk 10 rfl)) fun a7 P => ?_; clear AB a5
 refine s1 P (m_4 rfl P.e P.e) fun a9 H => ?_; clear P a7
 have AN : ¬ ((q : Int) = (l.length : Int)) := (by omega)
 rw [decide_eq_false AN] at H
 refine n1 (b_4 H rfl (c_6 (a_7 (b_5 (b_5 ?_)))))
 have U := H.as [(0, xl), (1, xk), (2, (iv (q : Int))), (3, (iv 0)), (4, (bptr br 0)), (7, (bptr bs 0))] rfl; clear H
 have V := U.as [(0, xl), (1, xk), (2, (iv (q : Int))), (3, (iv 0)), (4, (bptr br 0)), (7, (bptr bs 0))] rfl; clear U
 refine g_2 mixed V Q 13 [[], [0], [1], [2], [2], [2], [2, 5], [2, 4, 6], [2], [2], [2, 9], [2], [2, 11]] [(Yd.val (iv 0)), (Yd.val (Value.bool false)), (Yd.val (Value.bool false)), (Yd.val undef), (Yd.val undef), (Yd.val undef), (Yd.val undef), (Yd.val undef), (Yd.val undef), (Yd.val undef), (Yd.val undef), (Yd.val undef), (Yd.val undef)] (by decide +kernel) rfl rfl ?_ ?_
 ·skip
  refine dq (fun a w hA hS hd => a_1 rfl hA.e) ?_
  refine dq (fun a w hA hS hd => i_4 rfl (hq hd 0) (evc _ _)) ?_
  refine dq (fun a w hA hS hd => a_1 rfl (hq hd 1)) ?_
  refine dn 2 (dn 2 (dn 2 (dn 2 (dn 2 (dn 2 (dn 2 (dn 2 (dn 2 (dn 2 ?_)))))))))
  trivial
 intro AU At W AC G; clear V Q
 have Z := W.add (hz G 2); clear W
 have c := Z.add (hz G 3); clear Z
 have f := c.add (hz G 7); clear c
 have g := f.add (hz G 8); clear f
 have j := g.add (hz G 10); clear g
 have k := j.add (hz G 12); clear j
 clear G
 refine s3 k fun AV J => ?_; clear k AU
 refine s1 J (d_0 rfl J.e (evc _ _)) fun Ao K => ?_; clear J AV
 refine n1 (b_4 K rfl (c_6 (a_7 (b_5 ?_))))
 have n := K.as [(0, xl), (1, xk), (2, (iv (q : Int))), (3, (iv 0)), (4, (bptr br 0)), (7, (bptr bs 0))] rfl; clear K
 have o := n.as [(0, xl), (1, xk), (2, (iv (q : Int))), (3, (iv 0)), (4, (bptr br 0)), (7, (bptr bs 0))] rfl; clear n
 refine c_drawC mixed o AC 20 16 10 (by decide) (by decide) (by decide) rfl [[], [0], [], [1, 2], [], [3, 4], [5], [6], [6], [6], [6, 9], [6], [6], [6, 11, 12], [6, 13], [6, 14], [6, 10, 15], [6], [6, 17], [6]] [(yw xr), (yw (iv (l.length : Int))), (yw (iv (q : Int))), (yw (iv ((l.length : Int) - (q : Int)))), (yw (iv 0)), (yw (Value.bool true)), (yw (Value.bool true)), (yw (Value.func (.func 73) #[] #[(bptr br 0), (bptr bb 0), (bptr E 0), (bptr bs 0)])), (yw xl), (yw xk), (fun (C : Nat → Value) (v_ : Value) (rs_ : List Res) => True ∧ rs_ = [(row v_ 98 2 ((d_5 l s q).length) (pairs (d_5 l s q)))]), (yw xr), (yw (iv (q : Int))), (yw (eptr xr (q * 2))), (yw (Value.agg #[(iv ((l.getD q (0, 0)).1)), (iv ((l.getD q (0, 0)).2))])), (fun (C : Nat → Value) (v_ : Value) (rs_ : List Res) => True ∧ rs_ = [(row v_ 98 2 1 [(iv ((l.getD q (0, 0)).1)), (iv ((l.getD q (0, 0)).2))])]), (fun (C : Nat → Value) (v_ : Value) (rs_ : List Res) => True ∧ rs_ = [(row v_ 98 2 (((d_5 l s q) ++ [((l.getD q (0, 0)).1, (l.getD q (0, 0)).2)]).length) (pairs ((d_5 l s q) ++ [((l.getD q (0, 0)).1, (l.getD q (0, 0)).2)])))]), (yw (iv (q : Int))), (yw (iv ((q : Int) + 1))), (yw (iv 0))] (by decide +kernel) (by decide +kernel) rfl rfl ⟨dw, dw, dw, dw, dw, dw, dw, dw, dw, dw, (fun _ _ _ _ _ h_ => h_), dw, dw, dw, dw, (fun _ _ _ _ _ h_ => h_), (fun _ _ _ _ _ h_ => h_), dw, dw, dw, trivial⟩ (by decide +kernel) (by decide +kernel) ?_ ?_ ?_
 ·skip
  refine ⟨fun hj_ a w C hA hS hd => gv1 (a_3 rfl ac_6 hA.e (hS.rk 4 rfl) rfl), ?_⟩
  refine ⟨fun hj_ a w C hA hS hd => gv1 (c_9 rfl p_9 (gu hd 0) (hS.sk 10 rfl)), ?_⟩
  refine ⟨fun hj_ a w C hA hS hd => gv1 (a_1 rfl hA.e), ?_⟩
  refine ⟨fun hj_ a w C hA hS hd => gv1 (h_9 rfl (gu hd 1) (gu hd 2) (by omega) (by omega)), ?_⟩
  refine ⟨fun hj_ a w C hA hS hd => gv1 (a_1 rfl hA.e), ?_⟩
  refine ⟨fun hj_ a w C hA hS hd => gv2 (i_4 rfl (gu hd 3) (gu hd 4)) (And.intro (by show Value.bool _ = _; simp only [decide_eq_true (show 0 < ((l.length : Int) - (q : Int)) from (by omega)), decide_true, decide_false, Bool.not_true, Bool.not_false]) rfl), ?_⟩
  refine ⟨fun hj_ a w C hA hS hd => gv1 (a_1 rfl (gu hd 5)), ?_⟩
  refine ⟨fun hj_ a w C hA hS hd => gy1 hd 6 (a_3 rfl ty_134 hA.e (hS.rk 3 rfl) rfl), ?_⟩
  refine ⟨fun hj_ a w C hA hS hd => gy1 hd 6 (a_1 rfl hA.e), ?_⟩
  refine ⟨fun hj_ a w C hA hS hd => gy1 hd 6 (a_1 rfl hA.e), ?_⟩
  refine ⟨fun hj_ a w C hA hS hd => f_7 rfl rfl (gut hd 6 (by decide) rfl (fun _ h => And.left h)) (vn (b_3 rfl en_75 (ev1 (gu hd 9)) (clone_read (d_5 l s q) _ _ (hS.sk 11 rfl) (by omega))) (fun v w' h => ⟨_, And.intro trivial rfl, (Sep.start NoB _).x_8 h.1 h.2, rfl⟩)), ?_⟩
  refine ⟨fun hj_ a w C hA hS hd => gy1 hd 6 (a_3 rfl ac_6 hA.e (hS.rk 4 rfl) rfl), ?_⟩
  refine ⟨fun hj_ a w C hA hS hd => gy1 hd 6 (a_1 rfl hA.e), ?_⟩
  refine ⟨fun hj_ a w C hA hS hd => gy1 hd 6 (b_0 rfl p_9 aa_7 (gu hd 11) (i := q) (gu hd 12) (hS.sk 10 rfl) (by decide) (by omega)), ?_⟩
  refine ⟨fun hj_ a w C hA hS hd => gy1 hd 6 (e_7 rfl aa_7 (gu hd 13) (hS.sk 10 rfl) (g_8 (by omega)) rfl (by decide)), ?_⟩
  refine ⟨fun hj_ a w C hA hS hd => f_7 rfl rfl (gut hd 6 (by decide) rfl (fun _ h => And.left h)) (vblt rfl (pv1 (gu hd 14)) p_9 aa_7 ze_98 (by decide) (cs := [(iv ((l.getD q (0, 0)).1)), (iv ((l.getD q (0, 0)).2))]) (t_1 _ _) rfl (by decide) (fun _ => And.intro trivial rfl)), ?_⟩
  refine ⟨fun hj_ => absurd rfl hj_, ?_⟩
  refine ⟨fun hj_ a w C hA hS hd => gy1 hd 6 (a_1 rfl hA.e), ?_⟩
  refine ⟨fun hj_ a w C hA hS hd => gy1 hd 6 (f_0 rfl (gu hd 17) (evc _ _) (by omega) (by omega)), ?_⟩
  refine ⟨fun hj_ a w C hA hS hd => gy1 hd 6 (a_1 rfl hA.e), ?_⟩
  trivial
 ·skip
  intro a w C Ar Lr hA Ab Ad hd hS
  obtain ⟨Al, AQ⟩ := Ad; subst AQ
  obtain ⟨e6, As, Ae, Aq⟩ := hd 6 (by decide) (by decide)
  obtain ⟨Ac, Aa⟩ := Ae; subst Aa
  rw [Ac] at e6
  obtain ⟨AY, An, AS, AP⟩ := hd 15 (by decide) (by decide)
  obtain ⟨Am, AR⟩ := AS; subst AR
  have hp15_0 := AP _ (List.mem_of_getElem? (i := 0) rfl)
  exact f_7 rfl rfl (h_2 e6 rfl) (n_4 (j_9 hS rfl p_9 el_98 (b_8 (h_2 Ab rfl)) (b_8 (h_2 AY rfl)) (i := 0) rfl (SlAt.d_6 hp15_0) rfl (by simp only [maxLen]; omega) (by omega)) fun v_ w_ h_ => ⟨_, And.intro trivial rfl, h_.f_6 (i := 0) rfl (n' := ((d_5 l s q) ++ [((l.getD q (0, 0)).1, (l.getD q (0, 0)).2)]).length) (xs' := (pairs ((d_5 l s q) ++ [((l.getD q (0, 0)).1, (l.getD q (0, 0)).2)]))) (by simp) (by simp [pairs])⟩)
 skip
 intro AL Af C rsf38 p D hrq M; clear o AC
 obtain ⟨AG, AJ⟩ := D 15 (by decide) (by decide)
 obtain ⟨AH, R⟩ := AJ
 obtain ⟨T, AK⟩ := D 16 (by decide) (by decide)
 obtain ⟨AI, S⟩ := AK
 have AD : Sep X w Af [(row (C 15) 98 2 1 [(iv ((l.getD q (0, 0)).1)), (iv ((l.getD q (0, 0)).2))]), (row (C 16) 98 2 (((d_5 l s q) ++ [((l.getD q (0, 0)).1, (l.getD q (0, 0)).2)]).length) (pairs ((d_5 l s q) ++ [((l.getD q (0, 0)).1, (l.getD q (0, 0)).2)]))), (row xl 3 1 s.length (ints s)), (blk bb 44 [vb]), (row vb 3 1 best.length (ints best)), (rob bs 134 [(Value.func (.func 73) #[] #[(bptr br 0), (bptr bb 0), (bptr E 0), (bptr bs 0)])]), (rob br 53 [xr]), (rob E 116 [(bptr bx 0)]), (rob bx 146 [(iv b.scales), vt, vm, (Value.map (some bm))]), (mapX false bm es ck es.size 106 5 (bN b.tabs b.tabs.length) (bC lr lb b.tabs b.tabs.length)), (d_3 false vt lr lb b.tabs), (d_9 false vm lk b.macs), (sl xr 2 l.length (pairs l)), (sl xk 2 ((d_5 l s q).length) (pairs (d_5 l s q)))] := by rw [show catR rsf38 0 20 = ([(row (C 15) 98 2 1 [(iv ((l.getD q (0, 0)).1)), (iv ((l.getD q (0, 0)).2))]), (row (C 16) 98 2 (((d_5 l s q) ++ [((l.getD q (0, 0)).1, (l.getD q (0, 0)).2)]).length) (pairs ((d_5 l s q) ++ [((l.getD q (0, 0)).1, (l.getD q (0, 0)).2)])))] : List Res) by (try simp only [catR, gr (D 0 (by decide) (by decide)), gr (D 1 (by decide) (by decide)), gr (D 2 (by decide) (by decide)), gr (D 3 (by decide) (by decide)), gr (D 4 (by decide) (by decide)), gr (D 5 (by decide) (by decide)), gr (D 6 (by decide) (by decide)), gr (D 7 (by decide) (by decide)), gr (D 8 (by decide) (by decide)), gr (D 9 (by decide) (by decide)), gr (D 11 (by decide) (by decide)), gr (D 12 (by decide) (by decide)), gr (D 13 (by decide) (by decide)), gr (D 14 (by decide) (by decide)), R, S, gr (D 17 (by decide) (by decide)), gr (D 18 (by decide) (by decide)), gr (D 19 (by decide) (by decide)), hrq]); (try rfl)] at M; exact M
 have t := p.add (gs (D 6 (by decide) (by decide))); clear p
 have u := t.add (gs (D 7 (by decide) (by decide))); clear t
 have x := u.add (gs (D 8 (by decide) (by decide))); clear u
 have y : Fr 69 [] [(63, (C 16)), (55, xl), (54, (Value.func (.func 73) #[] #[(bptr br 0), (bptr bb 0), (bptr E 0), (bptr bs 0)])), (53, (Value.bool true)), (0, xl), (1, xk), (2, (iv (q : Int))), (3, (iv 0)), (4, (bptr br 0)), (7, (bptr bs 0))] AL := x.add (h_2 T rfl); clear x
 have z := y.add (gs (D 18 (by decide) (by decide))); clear y
 have F := z.add (gs (D 19 (by decide) (by decide))); clear z
 clear D M AG T hrq
 clear R
 clear AH
 clear S
 clear AI
 have AE := sep_row_sl (AD.f_6 (i := 1) rfl (n' := (d_5 l s (q + 1)).length) (xs' := pairs (d_5 l s (q + 1))) (by rw [kep_in hs]) (by rw [kep_in hs])) (i := 1) rfl; clear AD
 have N := AE.gkp (gpc 2 (gpc 3 (gpc 4 (gpc 5 (gpc 6 (gpc 7 (gpc 8 (gpc 9 (gpc 10 (gpc 11 (gpc 12 (gpc 1 (gpc 0 (gpc 13 gpn)))))))))))))); clear AE
 refine s6 F (i_9 rfl (F.ev rfl) en_73 (ev4 F.e F.e F.e F.e) (by have hz := ih 0 (q + 1) s _ _ _ _ _ (ownX [(row xl 3 1 s.length (ints s)), (blk bb 44 [vb]), (row vb 3 1 best.length (ints best)), (rob bs 134 [(Value.func (.func 73) #[] #[(bptr br 0), (bptr bb 0), (bptr E 0), (bptr bs 0)])]), (rob br 53 [xr]), (rob E 116 [(bptr bx 0)]), (rob bx 146 [(iv b.scales), vt, vm, (Value.map (some bm))]), (mapX false bm es ck es.size 106 5 (bN b.tabs b.tabs.length) (bC lr lb b.tabs b.tabs.length)), (d_3 false vt lr lb b.tabs), (d_9 false vm lk b.macs), (sl xr 2 l.length (pairs l)), (sl (C 16) 2 ((d_5 l s (q + 1)).length) (pairs (d_5 l s (q + 1))))]) (by omega) (by omega) hs.more (by omega) (Sep.enterG (A := [(row xl 3 1 s.length (ints s)), (blk bb 44 [vb]), (row vb 3 1 best.length (ints best)), (rob bs 134 [(Value.func (.func 73) #[] #[(bptr br 0), (bptr bb 0), (bptr E 0), (bptr bs 0)])]), (rob br 53 [xr]), (rob E 116 [(bptr bx 0)]), (rob bx 146 [(iv b.scales), vt, vm, (Value.map (some bm))]), (mapX false bm es ck es.size 106 5 (bN b.tabs b.tabs.length) (bC lr lb b.tabs b.tabs.length)), (d_3 false vt lr lb b.tabs), (d_9 false vm lk b.macs), (sl xr 2 l.length (pairs l)), (sl (C 16) 2 ((d_5 l s (q + 1)).length) (pairs (d_5 l s (q + 1))))]) (B := [(row (C 15) 98 2 1 [(iv ((l.getD q (0, 0)).1)), (iv ((l.getD q (0, 0)).2))]), (sl xk 2 ((d_5 l s q).length) (pairs (d_5 l s q)))]) N); exact hz)) ?_
 rintro AW _ Ag ⟨rfl, vb52, best53, AO, AF⟩ I; clear F AL
 have AM : Sep X w Ag [(row xl 3 1 s.length (ints s)), (blk bb 44 [vb52]), (row vb52 3 1 best53.length (ints best53)), (rob bs 134 [(Value.func (.func 73) #[] #[(bptr br 0), (bptr bb 0), (bptr E 0), (bptr bs 0)])]), (rob br 53 [xr]), (rob E 116 [(bptr bx 0)]), (rob bx 146 [(iv b.scales), vt, vm, (Value.map (some bm))]), (mapX false bm es ck es.size 106 5 (bN b.tabs b.tabs.length) (bC lr lb b.tabs b.tabs.length)), (d_3 false vt lr lb b.tabs), (d_9 false vm lk b.macs), (sl xr 2 l.length (pairs l)), (sl (C 16) 2 ((d_5 l s (q + 1)).length) (pairs (d_5 l s (q + 1)))), (row (C 15) 98 2 1 [(iv ((l.getD q (0, 0)).1)), (iv ((l.getD q (0, 0)).2))]), (sl xk 2 ((d_5 l s q).length) (pairs (d_5 l s q)))] := Sep.callG (A := [(row xl 3 1 s.length (ints s)), (blk bb 44 [vb]), (row vb 3 1 best.length (ints best)), (rob bs 134 [(Value.func (.func 73) #[] #[(bptr br 0), (bptr bb 0), (bptr E 0), (bptr bs 0)])]), (rob br 53 [xr]), (rob E 116 [(bptr bx 0)]), (rob bx 146 [(iv b.scales), vt, vm, (Value.map (some bm))]), (mapX false bm es ck es.size 106 5 (bN b.tabs b.tabs.length) (bC lr lb b.tabs b.tabs.length)), (d_3 false vt lr lb b.tabs), (d_9 false vm lk b.macs), (sl xr 2 l.length (pairs l)), (sl (C 16) 2 ((d_5 l s (q + 1)).length) (pairs (d_5 l s (q + 1))))]) (B := [(row (C 15) 98 2 1 [(iv ((l.getD q (0, 0)).1)), (iv ((l.getD q (0, 0)).2))]), (sl xk 2 ((d_5 l s q).length) (pairs (d_5 l s q)))]) N AF (v_5 ⟨.inl rfl, .inl rfl, .inl rfl, .inr ⟨3, rfl⟩, .inr ⟨4, rfl⟩, .inr ⟨5, rfl⟩, .inr ⟨6, rfl⟩, .inr ⟨7, rfl⟩, .inr ⟨8, rfl⟩, .inr ⟨9, rfl⟩, .inr ⟨10, rfl⟩, .inr ⟨11, rfl⟩, trivial⟩); clear AF N
 refine s1 I (b_6 rfl I.e I.e) fun AX L => ?_; clear I AW
 refine s1 L (a_0 rfl L.e) fun Ap AA => ?_; clear L AX
 refine n1 (c_4 (a_9 AA (.inl rfl) (a_2 AA rfl (.tmp rfl)) ?_))
 have hh : (i_6 l.length (okS b l) 0 s q) = (i_6 l.length (okS b l) 0 s (q + 1)) := lv_0.trans lv_0.symm
 rw [hh]
 exact ⟨rfl, _, _, fun h => AO h, AM.keep [0, 1, 2, 3, 4, 5, 6, 7, 8, 9, 10, 13] (by decide) _ rfl rfl⟩
theorem leave_more (b : h_7) (vt vm : Value) (lr lb lk : Nat → Value) (hth : n_5 b) (hb : l_3 b) (bx bm : Nat) (es : Array MapEntry) (ck : Nat) (hMO : r_2 bm es ck (bN b.tabs b.tabs.length)) (l : List (Int × Int)) (hl : p_8 b l) (xr : Value) (bb br F bs : Nat) (d : Nat) (ih : ∀ (m : Nat) (q : Nat) (s : List Int) (xl xk vb : Value) (best : List Int) (w : World) (X : Nat → Prop) (_ : m ≤ d) (_ : q + d = l.length) (_ : u_0 s q) (_ : s.length + m ≤ 1000) (_ : Sep X w w [(row xl 3 1 s.length (ints s)), (blk bb 44 [vb]), (row vb 3 1 best.length (ints best)), (rob bs 134 [(Value.func (.func 73) #[] #[(bptr br 0), (bptr bb 0), (bptr F 0), (bptr bs 0)])]), (rob br 53 [xr]), (rob F 116 [(bptr bx 0)]), (rob bx 146 [(iv b.scales), vt, vm, (Value.map (some bm))]), (mapX false bm es ck es.size 106 5 (bN b.tabs b.tabs.length) (bC lr lb b.tabs b.tabs.length)), (d_3 false vt lr lb b.tabs), (d_9 false vm lk b.macs), (sl xr 2 l.length (pairs l)), (sl xk 2 ((d_5 l s q).length) (pairs (d_5 l s q)))]), Calls Try.prog 73 #[xl, xk, .int .i64 (q : Int), .int .i64 (m : Int), bptr br 0, bptr bb 0, bptr F 0, bptr bs 0] w (Ret fun v w' => v = .bool (i_6 l.length (okS b l) m s q) ∧ ∃ vb' best', ((i_6 l.length (okS b l) m s q) = true → (n_9 l.length m s q).find? (okS b l) = some best') ∧ Sep X w w' [(row xl 3 1 s.length (ints s)), (blk bb 44 [vb']), (row vb' 3 1 best'.length (ints best')), (rob bs 134 [(Value.func (.func 73) #[] #[(bptr br 0), (bptr bb 0), (bptr F 0), (bptr bs 0)])]), (rob br 53 [xr]), (rob F 116 [(bptr bx 0)]), (rob bx 146 [(iv b.scales), vt, vm, (Value.map (some bm))]), (mapX false bm es ck es.size 106 5 (bN b.tabs b.tabs.length) (bC lr lb b.tabs b.tabs.length)), (d_3 false vt lr lb b.tabs), (d_9 false vm lk b.macs), (sl xr 2 l.length (pairs l)), (sl xk 2 ((d_5 l s q).length) (pairs (d_5 l s q)))])) (m : Nat) (q : Nat) (s : List Int) (xl xk vb : Value) (best : List Int) (w : World) (X : Nat → Prop) (hm : (m + 1) ≤ d + 1) (hqd : q + (d + 1) = l.length) (hs : u_0 s q) (hsl : s.length + (m + 1) ≤ 1000) (hJ : Sep X w w [(row xl 3 1 s.length (ints s)), (blk bb 44 [vb]), (row vb 3 1 best.length (ints best)), (rob bs 134 [(Value.func (.func 73) #[] #[(bptr br 0), (bptr bb 0), (bptr F 0), (bptr bs 0)])]), (rob br 53 [xr]), (rob F 116 [(bptr bx 0)]), (rob bx 146 [(iv b.scales), vt, vm, (Value.map (some bm))]), (mapX false bm es ck es.size 106 5 (bN b.tabs b.tabs.length) (bC lr lb b.tabs b.tabs.length)), (d_3 false vt lr lb b.tabs), (d_9 false vm lk b.macs), (sl xr 2 l.length (pairs l)), (sl xk 2 ((d_5 l s q).length) (pairs (d_5 l s q)))]) :
  Calls Try.prog 73 #[xl, xk, (iv (q : Int)), (iv ((m + 1 : Nat) : Int)), (bptr br 0), (bptr bb 0), (bptr F 0), (bptr bs 0)] w (Ret fun v w' => v = .bool (i_6 l.length (okS b l) (m + 1) s q) ∧ ∃ vb' best', ((i_6 l.length (okS b l) (m + 1) s q) = true → (n_9 l.length (m + 1) s q).find? (okS b l) = some best') ∧ Sep X w w' [(row xl 3 1 s.length (ints s)), (blk bb 44 [vb']), (row vb' 3 1 best'.length (ints best')), (rob bs 134 [(Value.func (.func 73) #[] #[(bptr br 0), (bptr bb 0), (bptr F 0), (bptr bs 0)])]), (rob br 53 [xr]), (rob F 116 [(bptr bx 0)]), (rob bx 146 [(iv b.scales), vt, vm, (Value.map (some bm))]), (mapX false bm es ck es.size 106 5 (bN b.tabs b.tabs.length) (bC lr lb b.tabs b.tabs.length)), (d_3 false vt lr lb b.tabs), (d_9 false vm lk b.macs), (sl xr 2 l.length (pairs l)), (sl xk 2 ((d_5 l s q).length) (pairs (d_5 l s q)))]) := by
 refine a_8 Try.func73 rfl fun a0 AT => ?_
 replace AT : Fr 69 [] [(0, xl), (1, xk), (2, (iv (q : Int))), (3, (iv ((m + 1 : Nat) : Int))), (4, (bptr br 0)), (5, (bptr bb 0)), (6, (bptr F 0)), (7, (bptr bs 0))] a0 := AT
 have hll := hl.len; have hkl := kep_len l s q
 have AF : Sep X w w [(row xl 3 1 s.length (ints s)), (blk bb 44 [vb]), (row vb 3 1 best.length (ints best)), (rob bs 134 [(Value.func (.func 73) #[] #[(bptr br 0), (bptr bb 0), (bptr F 0), (bptr bs 0)])]), (rob br 53 [xr]), (rob F 116 [(bptr bx 0)]), (rob bx 146 [(iv b.scales), vt, vm, (Value.map (some bm))]), (mapX false bm es ck es.size 106 5 (bN b.tabs b.tabs.length) (bC lr lb b.tabs b.tabs.length)), (d_3 false vt lr lb b.tabs), (d_9 false vm lk b.macs), (sl xr 2 l.length (pairs l)), (sl xk 2 ((d_5 l s q).length) (pairs (d_5 l s q)))] := hJ
 refine m2 (s1 AT (a_0 rfl (evc _ _)) fun a1 A2 => ?_); clear AT a0
 refine n2 (m2 (s1 A2 (a_1 rfl A2.e) fun a3 A8 => ?_)); clear A2 a1
 refine s1 A8 (a_3 rfl ac_6 A8.e (AF.rk 4 rfl) rfl) fun a5 BE => ?_; clear A8 a3
 refine s1 BE (c_9 rfl p_9 BE.e (AF.sk 10 rfl)) fun a7 Ap => ?_; clear BE a5
 refine s1 Ap (m_4 rfl Ap.e Ap.e) fun a9 f => ?_; clear Ap a7
 have Bx : ¬ ((q : Int) = (l.length : Int)) := (by omega)
 rw [decide_eq_false Bx] at f
 refine n1 (b_4 f rfl (c_6 (a_7 (b_5 (b_5 ?_)))))
 have Az := f.as [(0, xl), (1, xk), (2, (iv (q : Int))), (3, (iv ((m + 1 : Nat) : Int))), (4, (bptr br 0)), (7, (bptr bs 0))] rfl; clear f
 have hd5_ : 0 < ((m + 1 : Nat) : Int) := by omega
 have A0 := Az.as [(0, xl), (1, xk), (2, (iv (q : Int))), (3, (iv ((m + 1 : Nat) : Int))), (4, (bptr br 0)), (7, (bptr bs 0))] rfl; clear Az
 have Bu := AF.below
 refine c_drawnA mixed A0 AF 13 [[], [0], [1], [2], [2], [2], [2, 5], [2, 4, 6], [2], [2], [2, 9], [2], [2, 11]] [(Yd.val (iv ((m + 1 : Nat) : Int))), (Yd.val (Value.bool true)), (Yd.val (Value.bool true)), (Yd.val (Value.func (.func 73) #[] #[(bptr br 0), (bptr bb 0), (bptr F 0), (bptr bs 0)])), (Yd.val xl), (Yd.val (iv (q : Int))), (Yd.blt w.heap.size 3 1 [(iv (q : Int))]), Yd.any, (Yd.val xk), (Yd.val (iv (q : Int))), (Yd.val (iv ((q : Int) + 1))), (Yd.val (iv ((m + 1 : Nat) : Int))), (Yd.val (iv (((m + 1 : Nat) : Int) - 1)))] (by decide +kernel) rfl rfl 7 0 (by decide) rfl 1 ((ints s) ++ [(iv (q : Int))]) rfl ⟨w_0 _ _, w_0 _ _, w_0 _ _, w_0 _ _, w_0 _ _, w_0 _ _, ydb_blt _ _ _ _, ydb_any _, w_0 _ _, w_0 _ _, w_0 _ _, w_0 _ _, w_0 _ _, trivial⟩ ?_ ?_
 ·skip
  refine ⟨⟨fun _ a w hA hS hz hd => ?_, fun e_ => absurd e_ (by decide)⟩, ?_⟩
  ·skip
   exact d_4 rfl (dv (a_1 rfl hA.e) hS rfl)
  refine ⟨⟨fun _ a w hA hS hz hd => ?_, fun e_ => absurd e_ (by decide)⟩, ?_⟩
  ·skip
   have e0 := e_5 (hd 0 (by decide)) rfl (fun _ h => h)
   exact d_4 rfl (dv (i_4 rfl (b_8 e0) (evc _ _)) hS (by show Value.bool _ = _; simp [hd5_]))
  refine ⟨⟨fun _ a w hA hS hz hd => ?_, fun e_ => absurd e_ (by decide)⟩, ?_⟩
  ·skip
   have e1 := e_5 (hd 1 (by decide)) rfl (fun _ h => h)
   exact d_4 rfl (dv (a_1 rfl (b_8 e1)) hS rfl)
  refine ⟨⟨fun _ a w hA hS hz hd => ?_, fun e_ => absurd e_ (by decide)⟩, ?_⟩
  ·skip
   have J := e_5 (hd 2 (by decide)) rfl (fun _ h => h)
   exact f_7 rfl rfl J (dv (a_3 rfl ty_134 hA.e (hS.rk 3 rfl) rfl) hS rfl)
  refine ⟨⟨fun _ a w hA hS hz hd => ?_, fun e_ => absurd e_ (by decide)⟩, ?_⟩
  ·skip
   have J := e_5 (hd 2 (by decide)) rfl (fun _ h => h)
   exact f_7 rfl rfl J (dv (a_1 rfl hA.e) hS rfl)
  refine ⟨⟨fun _ a w hA hS hz hd => ?_, fun e_ => absurd e_ (by decide)⟩, ?_⟩
  ·skip
   have J := e_5 (hd 2 (by decide)) rfl (fun _ h => h)
   exact f_7 rfl rfl J (dv (a_1 rfl hA.e) hS rfl)
  refine ⟨⟨fun _ a w hA hS hz hd => ?_, fun e_ => absurd e_ (by decide)⟩, ?_⟩
  ·skip
   have J := e_5 (hd 2 (by decide)) rfl (fun _ h => h)
   have e5 := e_5 (hd 5 (by decide)) rfl (fun _ h => h)
   exact f_7 rfl rfl J (dbltZ hS hz rfl (pv1 (b_8 e5)) j_3 ty_3 ze_3 (by decide) (cs := [(iv (q : Int))]) (bs_3_1_0i _) (fun _ _ h => h))
  refine ⟨⟨fun e_ => absurd rfl e_, fun _ a w hA hS hz hd => ?_⟩, ?_⟩
  ·skip
   have J := e_5 (hd 2 (by decide)) rfl (fun _ h => h)
   have e4 := e_5 (hd 4 (by decide)) rfl (fun _ h => h)
   obtain ⟨_, e6, F, rfl, BZ, _⟩ := has_get (hd 6 (by decide)) rfl
   exact f_7 rfl rfl J (op_appendL hS hz rfl j_3 el_3 (b_8 e4) (b_8 e6) (i := 0) rfl (SlAt.of_blk BZ rfl (by decide)) (by decide) rfl (by simp only [maxLen]; omega) (by omega))
  refine ⟨⟨fun _ a w hA hS hz hd => ?_, fun e_ => absurd e_ (by decide)⟩, ?_⟩
  ·skip
   have J := e_5 (hd 2 (by decide)) rfl (fun _ h => h)
   exact f_7 rfl rfl J (dv (a_1 rfl hA.e) hS rfl)
  refine ⟨⟨fun _ a w hA hS hz hd => ?_, fun e_ => absurd e_ (by decide)⟩, ?_⟩
  ·skip
   have J := e_5 (hd 2 (by decide)) rfl (fun _ h => h)
   exact f_7 rfl rfl J (dv (a_1 rfl hA.e) hS rfl)
  refine ⟨⟨fun _ a w hA hS hz hd => ?_, fun e_ => absurd e_ (by decide)⟩, ?_⟩
  ·skip
   have J := e_5 (hd 2 (by decide)) rfl (fun _ h => h)
   have e9 := e_5 (hd 9 (by decide)) rfl (fun _ h => h)
   exact f_7 rfl rfl J (dv (f_0 rfl (b_8 e9) (evc _ _) (by omega) (by omega)) hS rfl)
  refine ⟨⟨fun _ a w hA hS hz hd => ?_, fun e_ => absurd e_ (by decide)⟩, ?_⟩
  ·skip
   have J := e_5 (hd 2 (by decide)) rfl (fun _ h => h)
   exact f_7 rfl rfl J (dv (a_1 rfl hA.e) hS rfl)
  refine ⟨⟨fun _ a w hA hS hz hd => ?_, fun e_ => absurd e_ (by decide)⟩, ?_⟩
  ·skip
   have J := e_5 (hd 2 (by decide)) rfl (fun _ h => h)
   have CE := e_5 (hd 11 (by decide)) rfl (fun _ h => h)
   exact f_7 rfl rfl J (dv (h_9 rfl (b_8 CE) (evc _ _) (by omega) (by omega)) hS rfl)
  trivial
 intro Bk CZ A1 AK U hAp20; clear A0 AF
 have A3 := A1.add (e_5 (U 2 (by decide) (by decide)) rfl (fun _ h => h)); clear A1
 have A4 := A3.add (e_5 (U 3 (by decide) (by decide)) rfl (fun _ h => h)); clear A3
 obtain ⟨M, Bc, hap26⟩ := has_get hAp20 rfl
 have A5 := A4.add Bc; clear A4 Bc hAp20
 have A6 := A5.add (e_5 (U 8 (by decide) (by decide)) rfl (fun _ h => h)); clear A5
 have A7 := A6.add (e_5 (U 10 (by decide) (by decide)) rfl (fun _ h => h)); clear A6
 have H := A7.add (e_5 (U 12 (by decide) (by decide)) rfl (fun _ h => h)); clear A7
 clear U
 rcases appL_row AK Bu (i0 := 0) rfl hap26 with ⟨Z, hbk31⟩ | Z
 ·skip
  clear AK
  have y := Z.f_6 (i := 0) rfl (n' := (s ++ [(q : Int)]).length) (xs' := ints (s ++ [(q : Int)])) (by simp) (by simp [ints]); rw [← kep_out (l := l) hs] at y; clear Z
  refine s6 H (i_9 rfl (H.ev rfl) en_73 (ev4 H.e H.e H.e H.e) (by have hz := ih m (q + 1) (s ++ [(q : Int)]) _ _ _ _ _ (ownX [(row M 3 1 ((s ++ [(q : Int)]).length) (ints (s ++ [(q : Int)]))), (blk bb 44 [vb]), (row vb 3 1 best.length (ints best)), (rob bs 134 [(Value.func (.func 73) #[] #[(bptr br 0), (bptr bb 0), (bptr F 0), (bptr bs 0)])]), (rob br 53 [xr]), (rob F 116 [(bptr bx 0)]), (rob bx 146 [(iv b.scales), vt, vm, (Value.map (some bm))]), (mapX false bm es ck es.size 106 5 (bN b.tabs b.tabs.length) (bC lr lb b.tabs b.tabs.length)), (d_3 false vt lr lb b.tabs), (d_9 false vm lk b.macs), (sl xr 2 l.length (pairs l)), (sl xk 2 ((d_5 l (s ++ [(q : Int)]) (q + 1)).length) (pairs (d_5 l (s ++ [(q : Int)]) (q + 1))))]) (by omega) (by omega) hs.snoc (by simp only [List.length_append, List.length_cons, List.length_nil]; omega) (Sep.enterG (A := [(row M 3 1 ((s ++ [(q : Int)]).length) (ints (s ++ [(q : Int)]))), (blk bb 44 [vb]), (row vb 3 1 best.length (ints best)), (rob bs 134 [(Value.func (.func 73) #[] #[(bptr br 0), (bptr bb 0), (bptr F 0), (bptr bs 0)])]), (rob br 53 [xr]), (rob F 116 [(bptr bx 0)]), (rob bx 146 [(iv b.scales), vt, vm, (Value.map (some bm))]), (mapX false bm es ck es.size 106 5 (bN b.tabs b.tabs.length) (bC lr lb b.tabs b.tabs.length)), (d_3 false vt lr lb b.tabs), (d_9 false vm lk b.macs), (sl xr 2 l.length (pairs l)), (sl xk 2 ((d_5 l (s ++ [(q : Int)]) (q + 1)).length) (pairs (d_5 l (s ++ [(q : Int)]) (q + 1))))]) (B := []) y); rw [show ((m + 1 : Nat) : Int) - 1 = (m : Int) by omega]; exact hz)) ?_
  rintro B7 _ CH ⟨rfl, vb38, best39, By, BW⟩ n; clear H Bk
  have BT : Sep X w CH [(row M 3 1 ((s ++ [(q : Int)]).length) (ints (s ++ [(q : Int)]))), (blk bb 44 [vb38]), (row vb38 3 1 best39.length (ints best39)), (rob bs 134 [(Value.func (.func 73) #[] #[(bptr br 0), (bptr bb 0), (bptr F 0), (bptr bs 0)])]), (rob br 53 [xr]), (rob F 116 [(bptr bx 0)]), (rob bx 146 [(iv b.scales), vt, vm, (Value.map (some bm))]), (mapX false bm es ck es.size 106 5 (bN b.tabs b.tabs.length) (bC lr lb b.tabs b.tabs.length)), (d_3 false vt lr lb b.tabs), (d_9 false vm lk b.macs), (sl xr 2 l.length (pairs l)), (sl xk 2 ((d_5 l (s ++ [(q : Int)]) (q + 1)).length) (pairs (d_5 l (s ++ [(q : Int)]) (q + 1))))] := Sep.callG (A := [(row M 3 1 ((s ++ [(q : Int)]).length) (ints (s ++ [(q : Int)]))), (blk bb 44 [vb]), (row vb 3 1 best.length (ints best)), (rob bs 134 [(Value.func (.func 73) #[] #[(bptr br 0), (bptr bb 0), (bptr F 0), (bptr bs 0)])]), (rob br 53 [xr]), (rob F 116 [(bptr bx 0)]), (rob bx 146 [(iv b.scales), vt, vm, (Value.map (some bm))]), (mapX false bm es ck es.size 106 5 (bN b.tabs b.tabs.length) (bC lr lb b.tabs b.tabs.length)), (d_3 false vt lr lb b.tabs), (d_9 false vm lk b.macs), (sl xr 2 l.length (pairs l)), (sl xk 2 ((d_5 l (s ++ [(q : Int)]) (q + 1)).length) (pairs (d_5 l (s ++ [(q : Int)]) (q + 1))))]) (B := []) y BW (v_5 ⟨.inl rfl, .inl rfl, .inl rfl, .inr ⟨3, rfl⟩, .inr ⟨4, rfl⟩, .inr ⟨5, rfl⟩, .inr ⟨6, rfl⟩, .inr ⟨7, rfl⟩, .inr ⟨8, rfl⟩, .inr ⟨9, rfl⟩, .inr ⟨10, rfl⟩, .inr ⟨11, rfl⟩, trivial⟩); clear BW y
  have AL := BT; rw [kep_out (l := l) hs] at AL; clear BT
  have c := hbk31 _ _ _ _ (AL.f_6 (i := 0) rfl (n' := s.length + 1) (xs' := ints s ++ [Value.int .i64 (q : Int)]) (by simp) (by simp [ints])) 0 rfl (by simp [ints]); clear AL
  refine s1 n (b_6 rfl n.e n.e) fun B8 N => ?_; clear n B7
  refine n1 ?_
  rcases Bool.eq_false_or_eq_true ((i_6 l.length (okS b l) m (s ++ [(q : Int)]) (q + 1))) with AO | AO
  ·skip
   rw [AO] at N
   refine b_7 N rfl (b_5 ?_)
   have A9 := N.as [] rfl; clear N
   refine a_5 (s1 A9 (a_0 rfl (evc _ _)) fun CX BA => ?_); clear A9 B8
   refine n1 (c_4 (a_6 (a_9 BA (.inl rfl) (a_2 BA rfl (.tmp rfl)) ?_)))
   have hh := lv_hit (by omega) (by assumption) (By (by assumption))
   rw [hh.1]
   exact ⟨rfl, _, _, fun _ => hh.2, c.keep [0, 1, 2, 3, 4, 5, 6, 7, 8, 9, 10, 11] (by decide) _ rfl rfl⟩
  skip
  rw [AO] at N
  refine b_4 N rfl (c_6 (a_7 (b_5 ?_)))
  have BB := N.as [(0, xl), (1, xk), (2, (iv (q : Int))), (3, (iv ((m + 1 : Nat) : Int))), (4, (bptr br 0)), (7, (bptr bs 0))] rfl; clear N
  have o := BB.as [(0, xl), (1, xk), (2, (iv (q : Int))), (3, (iv ((m + 1 : Nat) : Int))), (4, (bptr br 0)), (7, (bptr bs 0))] rfl; clear BB
  by_cases BY : ((m + 1 : Nat) : Int) < ((l.length : Int) - (q : Int))
  ·skip
   have BC := o.as [(0, xl), (1, xk), (2, (iv (q : Int))), (3, (iv ((m + 1 : Nat) : Int))), (4, (bptr br 0)), (7, (bptr bs 0))] rfl; clear o
   refine c_drawC mixed BC c 20 16 10 (by decide) (by decide) (by decide) rfl [[], [0], [], [1, 2], [], [3, 4], [5], [6], [6], [6], [6, 9], [6], [6], [6, 11, 12], [6, 13], [6, 14], [6, 10, 15], [6], [6, 17], [6]] [(yw xr), (yw (iv (l.length : Int))), (yw (iv (q : Int))), (yw (iv ((l.length : Int) - (q : Int)))), (yw (iv ((m + 1 : Nat) : Int))), (yw (Value.bool true)), (yw (Value.bool true)), (yw (Value.func (.func 73) #[] #[(bptr br 0), (bptr bb 0), (bptr F 0), (bptr bs 0)])), (yw xl), (yw xk), (fun (D : Nat → Value) (v_ : Value) (rs_ : List Res) => True ∧ rs_ = [(row v_ 98 2 ((d_5 l s q).length) (pairs (d_5 l s q)))]), (yw xr), (yw (iv (q : Int))), (yw (eptr xr (q * 2))), (yw (Value.agg #[(iv ((l.getD q (0, 0)).1)), (iv ((l.getD q (0, 0)).2))])), (fun (D : Nat → Value) (v_ : Value) (rs_ : List Res) => True ∧ rs_ = [(row v_ 98 2 1 [(iv ((l.getD q (0, 0)).1)), (iv ((l.getD q (0, 0)).2))])]), (fun (D : Nat → Value) (v_ : Value) (rs_ : List Res) => True ∧ rs_ = [(row v_ 98 2 (((d_5 l s q) ++ [((l.getD q (0, 0)).1, (l.getD q (0, 0)).2)]).length) (pairs ((d_5 l s q) ++ [((l.getD q (0, 0)).1, (l.getD q (0, 0)).2)])))]), (yw (iv (q : Int))), (yw (iv ((q : Int) + 1))), (yw (iv ((m + 1 : Nat) : Int)))] (by decide +kernel) (by decide +kernel) rfl rfl ⟨dw, dw, dw, dw, dw, dw, dw, dw, dw, dw, (fun _ _ _ _ _ h_ => h_), dw, dw, dw, dw, (fun _ _ _ _ _ h_ => h_), (fun _ _ _ _ _ h_ => h_), dw, dw, dw, trivial⟩ (by decide +kernel) (by decide +kernel) ?_ ?_ ?_
   ·skip
    refine ⟨fun hj_ a w D hA hS hd => gv1 (a_3 rfl ac_6 hA.e (hS.rk 4 rfl) rfl), ?_⟩
    refine ⟨fun hj_ a w D hA hS hd => gv1 (c_9 rfl p_9 (gu hd 0) (hS.sk 10 rfl)), ?_⟩
    refine ⟨fun hj_ a w D hA hS hd => gv1 (a_1 rfl hA.e), ?_⟩
    refine ⟨fun hj_ a w D hA hS hd => gv1 (h_9 rfl (gu hd 1) (gu hd 2) (by omega) (by omega)), ?_⟩
    refine ⟨fun hj_ a w D hA hS hd => gv1 (a_1 rfl hA.e), ?_⟩
    refine ⟨fun hj_ a w D hA hS hd => gv2 (i_4 rfl (gu hd 3) (gu hd 4)) (And.intro (by show Value.bool _ = _; simp only [decide_eq_true BY, decide_true, decide_false, Bool.not_true, Bool.not_false]) rfl), ?_⟩
    refine ⟨fun hj_ a w D hA hS hd => gv1 (a_1 rfl (gu hd 5)), ?_⟩
    refine ⟨fun hj_ a w D hA hS hd => gy1 hd 6 (a_3 rfl ty_134 hA.e (hS.rk 3 rfl) rfl), ?_⟩
    refine ⟨fun hj_ a w D hA hS hd => gy1 hd 6 (a_1 rfl hA.e), ?_⟩
    refine ⟨fun hj_ a w D hA hS hd => gy1 hd 6 (a_1 rfl hA.e), ?_⟩
    refine ⟨fun hj_ a w D hA hS hd => f_7 rfl rfl (gut hd 6 (by decide) rfl (fun _ h => And.left h)) (vn (b_3 rfl en_75 (ev1 (gu hd 9)) (clone_read (d_5 l s q) _ _ (hS.sk 11 rfl) (by omega))) (fun v w' h => ⟨_, And.intro trivial rfl, (Sep.start NoB _).x_8 h.1 h.2, rfl⟩)), ?_⟩
    refine ⟨fun hj_ a w D hA hS hd => gy1 hd 6 (a_3 rfl ac_6 hA.e (hS.rk 4 rfl) rfl), ?_⟩
    refine ⟨fun hj_ a w D hA hS hd => gy1 hd 6 (a_1 rfl hA.e), ?_⟩
    refine ⟨fun hj_ a w D hA hS hd => gy1 hd 6 (b_0 rfl p_9 aa_7 (gu hd 11) (i := q) (gu hd 12) (hS.sk 10 rfl) (by decide) (by omega)), ?_⟩
    refine ⟨fun hj_ a w D hA hS hd => gy1 hd 6 (e_7 rfl aa_7 (gu hd 13) (hS.sk 10 rfl) (g_8 (by omega)) rfl (by decide)), ?_⟩
    refine ⟨fun hj_ a w D hA hS hd => f_7 rfl rfl (gut hd 6 (by decide) rfl (fun _ h => And.left h)) (vblt rfl (pv1 (gu hd 14)) p_9 aa_7 ze_98 (by decide) (cs := [(iv ((l.getD q (0, 0)).1)), (iv ((l.getD q (0, 0)).2))]) (t_1 _ _) rfl (by decide) (fun _ => And.intro trivial rfl)), ?_⟩
    refine ⟨fun hj_ => absurd rfl hj_, ?_⟩
    refine ⟨fun hj_ a w D hA hS hd => gy1 hd 6 (a_1 rfl hA.e), ?_⟩
    refine ⟨fun hj_ a w D hA hS hd => gy1 hd 6 (f_0 rfl (gu hd 17) (evc _ _) (by omega) (by omega)), ?_⟩
    refine ⟨fun hj_ a w D hA hS hd => gy1 hd 6 (a_1 rfl hA.e), ?_⟩
    trivial
   ·skip
    intro a w D CF Lr hA Bb Be hd hS
    obtain ⟨B0, AQ⟩ := Be; subst AQ
    obtain ⟨e6, CG, Bf, BZ⟩ := hd 6 (by decide) (by decide)
    obtain ⟨Bd, Ba⟩ := Bf; subst Ba
    rw [Bd] at e6
    obtain ⟨Ax, B2, AS, AP⟩ := hd 15 (by decide) (by decide)
    obtain ⟨B1, AR⟩ := AS; subst AR
    have hp15_0 := AP _ (List.mem_of_getElem? (i := 0) rfl)
    exact f_7 rfl rfl (h_2 e6 rfl) (n_4 (j_9 hS rfl p_9 el_98 (b_8 (h_2 Bb rfl)) (b_8 (h_2 Ax rfl)) (i := 0) rfl (SlAt.d_6 hp15_0) rfl (by simp only [maxLen]; omega) (by omega)) fun v_ w_ h_ => ⟨_, And.intro trivial rfl, h_.f_6 (i := 0) rfl (n' := ((d_5 l s q) ++ [((l.getD q (0, 0)).1, (l.getD q (0, 0)).2)]).length) (xs' := (pairs ((d_5 l s q) ++ [((l.getD q (0, 0)).1, (l.getD q (0, 0)).2)]))) (by simp) (by simp [pairs])⟩)
   skip
   intro Bl CI D rsf61 BD G hrq AM; clear BC c
   obtain ⟨AA, AD⟩ := G 15 (by decide) (by decide)
   obtain ⟨AB, R⟩ := AD
   obtain ⟨T, AE⟩ := G 16 (by decide) (by decide)
   obtain ⟨AC, S⟩ := AE
   have BU : Sep X w CI [(row (D 15) 98 2 1 [(iv ((l.getD q (0, 0)).1)), (iv ((l.getD q (0, 0)).2))]), (row (D 16) 98 2 (((d_5 l s q) ++ [((l.getD q (0, 0)).1, (l.getD q (0, 0)).2)]).length) (pairs ((d_5 l s q) ++ [((l.getD q (0, 0)).1, (l.getD q (0, 0)).2)]))), (row xl 3 1 s.length (ints s)), (blk bb 44 [vb38]), (row vb38 3 1 best39.length (ints best39)), (rob bs 134 [(Value.func (.func 73) #[] #[(bptr br 0), (bptr bb 0), (bptr F 0), (bptr bs 0)])]), (rob br 53 [xr]), (rob F 116 [(bptr bx 0)]), (rob bx 146 [(iv b.scales), vt, vm, (Value.map (some bm))]), (mapX false bm es ck es.size 106 5 (bN b.tabs b.tabs.length) (bC lr lb b.tabs b.tabs.length)), (d_3 false vt lr lb b.tabs), (d_9 false vm lk b.macs), (sl xr 2 l.length (pairs l)), (sl xk 2 ((d_5 l s q).length) (pairs (d_5 l s q)))] := by rw [show catR rsf61 0 20 = ([(row (D 15) 98 2 1 [(iv ((l.getD q (0, 0)).1)), (iv ((l.getD q (0, 0)).2))]), (row (D 16) 98 2 (((d_5 l s q) ++ [((l.getD q (0, 0)).1, (l.getD q (0, 0)).2)]).length) (pairs ((d_5 l s q) ++ [((l.getD q (0, 0)).1, (l.getD q (0, 0)).2)])))] : List Res) by (try simp only [catR, gr (G 0 (by decide) (by decide)), gr (G 1 (by decide) (by decide)), gr (G 2 (by decide) (by decide)), gr (G 3 (by decide) (by decide)), gr (G 4 (by decide) (by decide)), gr (G 5 (by decide) (by decide)), gr (G 6 (by decide) (by decide)), gr (G 7 (by decide) (by decide)), gr (G 8 (by decide) (by decide)), gr (G 9 (by decide) (by decide)), gr (G 11 (by decide) (by decide)), gr (G 12 (by decide) (by decide)), gr (G 13 (by decide) (by decide)), gr (G 14 (by decide) (by decide)), R, S, gr (G 17 (by decide) (by decide)), gr (G 18 (by decide) (by decide)), gr (G 19 (by decide) (by decide)), hrq]); (try rfl)] at AM; exact AM
   have BF := BD.add (gs (G 6 (by decide) (by decide))); clear BD
   have BG := BF.add (gs (G 7 (by decide) (by decide))); clear BF
   have BH := BG.add (gs (G 8 (by decide) (by decide))); clear BG
   have BI : Fr 69 [] [(63, (D 16)), (55, xl), (54, (Value.func (.func 73) #[] #[(bptr br 0), (bptr bb 0), (bptr F 0), (bptr bs 0)])), (53, (Value.bool true)), (0, xl), (1, xk), (2, (iv (q : Int))), (3, (iv ((m + 1 : Nat) : Int))), (4, (bptr br 0)), (7, (bptr bs 0))] Bl := BH.add (h_2 T rfl); clear BH
   have BJ := BI.add (gs (G 18 (by decide) (by decide))); clear BI
   have P := BJ.add (gs (G 19 (by decide) (by decide))); clear BJ
   clear G AM AA T hrq
   clear R
   clear AB
   clear S
   clear AC
   have BV := sep_row_sl (BU.f_6 (i := 1) rfl (n' := (d_5 l s (q + 1)).length) (xs' := pairs (d_5 l s (q + 1))) (by rw [kep_in hs]) (by rw [kep_in hs])) (i := 1) rfl; clear BU
   have AN := BV.gkp (gpc 2 (gpc 3 (gpc 4 (gpc 5 (gpc 6 (gpc 7 (gpc 8 (gpc 9 (gpc 10 (gpc 11 (gpc 12 (gpc 1 (gpc 0 (gpc 13 gpn)))))))))))))); clear BV
   refine s6 P (i_9 rfl (P.ev rfl) en_73 (ev4 P.e P.e P.e P.e) (by have hz := ih (m + 1) (q + 1) s _ _ _ _ _ (ownX [(row xl 3 1 s.length (ints s)), (blk bb 44 [vb38]), (row vb38 3 1 best39.length (ints best39)), (rob bs 134 [(Value.func (.func 73) #[] #[(bptr br 0), (bptr bb 0), (bptr F 0), (bptr bs 0)])]), (rob br 53 [xr]), (rob F 116 [(bptr bx 0)]), (rob bx 146 [(iv b.scales), vt, vm, (Value.map (some bm))]), (mapX false bm es ck es.size 106 5 (bN b.tabs b.tabs.length) (bC lr lb b.tabs b.tabs.length)), (d_3 false vt lr lb b.tabs), (d_9 false vm lk b.macs), (sl xr 2 l.length (pairs l)), (sl (D 16) 2 ((d_5 l s (q + 1)).length) (pairs (d_5 l s (q + 1))))]) (by omega) (by omega) hs.more (by omega) (Sep.enterG (A := [(row xl 3 1 s.length (ints s)), (blk bb 44 [vb38]), (row vb38 3 1 best39.length (ints best39)), (rob bs 134 [(Value.func (.func 73) #[] #[(bptr br 0), (bptr bb 0), (bptr F 0), (bptr bs 0)])]), (rob br 53 [xr]), (rob F 116 [(bptr bx 0)]), (rob bx 146 [(iv b.scales), vt, vm, (Value.map (some bm))]), (mapX false bm es ck es.size 106 5 (bN b.tabs b.tabs.length) (bC lr lb b.tabs b.tabs.length)), (d_3 false vt lr lb b.tabs), (d_9 false vm lk b.macs), (sl xr 2 l.length (pairs l)), (sl (D 16) 2 ((d_5 l s (q + 1)).length) (pairs (d_5 l s (q + 1))))]) (B := [(row (D 15) 98 2 1 [(iv ((l.getD q (0, 0)).1)), (iv ((l.getD q (0, 0)).2))]), (sl xk 2 ((d_5 l s q).length) (pairs (d_5 l s q)))]) AN); exact hz)) ?_
   rintro B9 _ CJ ⟨rfl, vb75, best76, Bz, BX⟩ p; clear P Bl
   have Bv : Sep X w CJ [(row xl 3 1 s.length (ints s)), (blk bb 44 [vb75]), (row vb75 3 1 best76.length (ints best76)), (rob bs 134 [(Value.func (.func 73) #[] #[(bptr br 0), (bptr bb 0), (bptr F 0), (bptr bs 0)])]), (rob br 53 [xr]), (rob F 116 [(bptr bx 0)]), (rob bx 146 [(iv b.scales), vt, vm, (Value.map (some bm))]), (mapX false bm es ck es.size 106 5 (bN b.tabs b.tabs.length) (bC lr lb b.tabs b.tabs.length)), (d_3 false vt lr lb b.tabs), (d_9 false vm lk b.macs), (sl xr 2 l.length (pairs l)), (sl (D 16) 2 ((d_5 l s (q + 1)).length) (pairs (d_5 l s (q + 1)))), (row (D 15) 98 2 1 [(iv ((l.getD q (0, 0)).1)), (iv ((l.getD q (0, 0)).2))]), (sl xk 2 ((d_5 l s q).length) (pairs (d_5 l s q)))] := Sep.callG (A := [(row xl 3 1 s.length (ints s)), (blk bb 44 [vb38]), (row vb38 3 1 best39.length (ints best39)), (rob bs 134 [(Value.func (.func 73) #[] #[(bptr br 0), (bptr bb 0), (bptr F 0), (bptr bs 0)])]), (rob br 53 [xr]), (rob F 116 [(bptr bx 0)]), (rob bx 146 [(iv b.scales), vt, vm, (Value.map (some bm))]), (mapX false bm es ck es.size 106 5 (bN b.tabs b.tabs.length) (bC lr lb b.tabs b.tabs.length)), (d_3 false vt lr lb b.tabs), (d_9 false vm lk b.macs), (sl xr 2 l.length (pairs l)), (sl (D 16) 2 ((d_5 l s (q + 1)).length) (pairs (d_5 l s (q + 1))))]) (B := [(row (D 15) 98 2 1 [(iv ((l.getD q (0, 0)).1)), (iv ((l.getD q (0, 0)).2))]), (sl xk 2 ((d_5 l s q).length) (pairs (d_5 l s q)))]) AN BX (v_5 ⟨.inl rfl, .inl rfl, .inl rfl, .inr ⟨3, rfl⟩, .inr ⟨4, rfl⟩, .inr ⟨5, rfl⟩, .inr ⟨6, rfl⟩, .inr ⟨7, rfl⟩, .inr ⟨8, rfl⟩, .inr ⟨9, rfl⟩, .inr ⟨10, rfl⟩, .inr ⟨11, rfl⟩, trivial⟩); clear BX AN
   refine s1 p (b_6 rfl p.e p.e) fun CA AH => ?_; clear p B9
   refine s1 AH (a_0 rfl AH.e) fun CY BK => ?_; clear AH CA
   refine n1 (c_4 (a_9 BK (.inl rfl) (a_2 BK rfl (.tmp rfl)) ?_))
   have hh : (i_6 l.length (okS b l) (m + 1) s q) = (i_6 l.length (okS b l) (m + 1) s (q + 1)) := lv_go (by omega) (by assumption)
   rw [hh]
   exact ⟨rfl, _, _, fun h => lv_gof (by omega) (by assumption) (Bz h), Bv.keep [0, 1, 2, 3, 4, 5, 6, 7, 8, 9, 10, 13] (by decide) _ rfl rfl⟩
  skip
  have BL := o.as [(0, xl), (1, xk), (2, (iv (q : Int))), (3, (iv ((m + 1 : Nat) : Int))), (4, (bptr br 0)), (7, (bptr bs 0))] rfl; clear o
  refine g_2 mixed BL c 20 [[], [0], [], [1, 2], [], [3, 4], [5], [6], [6], [6], [6, 9], [6], [6], [6, 11, 12], [6, 13], [6, 14], [6, 10, 15], [6], [6, 17], [6]] [(Yd.val xr), (Yd.val (iv (l.length : Int))), (Yd.val (iv (q : Int))), (Yd.val (iv ((l.length : Int) - (q : Int)))), (Yd.val (iv ((m + 1 : Nat) : Int))), (Yd.val (Value.bool false)), (Yd.val (Value.bool false)), (Yd.val undef), (Yd.val undef), (Yd.val undef), (Yd.val undef), (Yd.val undef), (Yd.val undef), (Yd.val undef), (Yd.val undef), (Yd.val undef), (Yd.val undef), (Yd.val undef), (Yd.val undef), (Yd.val undef)] (by decide +kernel) rfl rfl ?_ ?_
  ·skip
   refine dq (fun a w hA hS hd => a_3 rfl ac_6 hA.e (hS.rk 4 rfl) rfl) ?_
   refine dq (fun a w hA hS hd => c_9 rfl p_9 (hq hd 0) (hS.sk 10 rfl)) ?_
   refine dq (fun a w hA hS hd => a_1 rfl hA.e) ?_
   refine dq (fun a w hA hS hd => h_9 rfl (hq hd 1) (hq hd 2) (by omega) (by omega)) ?_
   refine dq (fun a w hA hS hd => a_1 rfl hA.e) ?_
   refine ⟨fun a w hA hS hd => by have e3 := hx hd 3; have e4 := hx hd 4; exact d_4 rfl (dv (i_4 rfl (b_8 e3) (b_8 e4)) hS (by show Value.bool _ = _; simp only [decide_eq_false BY, decide_true, decide_false, Bool.not_true, Bool.not_false])), ?_⟩
   refine dq (fun a w hA hS hd => a_1 rfl (hq hd 5)) ?_
   refine dn 6 (dn 6 (dn 6 (dn 6 (dn 6 (dn 6 (dn 6 (dn 6 (dn 6 (dn 6 (dn 6 (dn 6 (dn 6 ?_))))))))))))
   trivial
  intro CB Ca BM Bw Q; clear BL c
  have BN := BM.add (hz Q 6); clear BM
  have BO := BN.add (hz Q 7); clear BN
  have BP := BO.add (hz Q 8); clear BO
  have BQ := BP.add (hz Q 16); clear BP
  have BR := BQ.add (hz Q 18); clear BQ
  have BS := BR.add (hz Q 19); clear BR
  clear Q
  refine s3 BS fun CC AI => ?_; clear BS CB
  refine s1 AI (d_0 rfl AI.e (evc _ _)) fun CD AJ => ?_; clear AI CC
  refine s1 AJ (a_0 rfl AJ.e) fun CL AU => ?_; clear AJ CD
  refine n1 (c_4 (a_9 AU (.inl rfl) (a_2 AU rfl (.tmp rfl)) ?_))
  have hh : (i_6 l.length (okS b l) (m + 1) s q) = false := lv_no (by omega) (by assumption) (by omega)
  rw [hh]
  exact ⟨rfl, _, _, (fun h => by cases h), Bw.keep [0, 1, 2, 3, 4, 5, 6, 7, 8, 9, 10, 11] (by decide) _ rfl rfl⟩
 skip
 clear AK
 have r := Z.f_6 (i := 0) rfl (n' := (s ++ [(q : Int)]).length) (xs' := ints (s ++ [(q : Int)])) (by simp) (by simp [ints]); rw [← kep_out (l := l) hs] at r; clear Z
 have t := r.gkp (gpc 0 (gpc 2 (gpc 3 (gpc 4 (gpc 5 (gpc 6 (gpc 7 (gpc 8 (gpc 9 (gpc 10 (gpc 11 (gpc 12 (gpc 1 gpn))))))))))))); clear r
 refine s6 H (i_9 rfl (H.ev rfl) en_73 (ev4 H.e H.e H.e H.e) (by have hz := ih m (q + 1) (s ++ [(q : Int)]) _ _ _ _ _ (ownX [(row M 3 1 ((s ++ [(q : Int)]).length) (ints (s ++ [(q : Int)]))), (blk bb 44 [vb]), (row vb 3 1 best.length (ints best)), (rob bs 134 [(Value.func (.func 73) #[] #[(bptr br 0), (bptr bb 0), (bptr F 0), (bptr bs 0)])]), (rob br 53 [xr]), (rob F 116 [(bptr bx 0)]), (rob bx 146 [(iv b.scales), vt, vm, (Value.map (some bm))]), (mapX false bm es ck es.size 106 5 (bN b.tabs b.tabs.length) (bC lr lb b.tabs b.tabs.length)), (d_3 false vt lr lb b.tabs), (d_9 false vm lk b.macs), (sl xr 2 l.length (pairs l)), (sl xk 2 ((d_5 l (s ++ [(q : Int)]) (q + 1)).length) (pairs (d_5 l (s ++ [(q : Int)]) (q + 1))))]) (by omega) (by omega) hs.snoc (by simp only [List.length_append, List.length_cons, List.length_nil]; omega) (Sep.enterG (A := [(row M 3 1 ((s ++ [(q : Int)]).length) (ints (s ++ [(q : Int)]))), (blk bb 44 [vb]), (row vb 3 1 best.length (ints best)), (rob bs 134 [(Value.func (.func 73) #[] #[(bptr br 0), (bptr bb 0), (bptr F 0), (bptr bs 0)])]), (rob br 53 [xr]), (rob F 116 [(bptr bx 0)]), (rob bx 146 [(iv b.scales), vt, vm, (Value.map (some bm))]), (mapX false bm es ck es.size 106 5 (bN b.tabs b.tabs.length) (bC lr lb b.tabs b.tabs.length)), (d_3 false vt lr lb b.tabs), (d_9 false vm lk b.macs), (sl xr 2 l.length (pairs l)), (sl xk 2 ((d_5 l (s ++ [(q : Int)]) (q + 1)).length) (pairs (d_5 l (s ++ [(q : Int)]) (q + 1))))]) (B := [(row xl 3 1 s.length (ints s))]) t); rw [show ((m + 1 : Nat) : Int) - 1 = (m : Int) by omega]; exact hz)) ?_
 rintro Bm _ B3 ⟨rfl, vb109, best110, Bi, At⟩ V; clear H Bk
 have Aq : Sep X w B3 [(row M 3 1 ((s ++ [(q : Int)]).length) (ints (s ++ [(q : Int)]))), (blk bb 44 [vb109]), (row vb109 3 1 best110.length (ints best110)), (rob bs 134 [(Value.func (.func 73) #[] #[(bptr br 0), (bptr bb 0), (bptr F 0), (bptr bs 0)])]), (rob br 53 [xr]), (rob F 116 [(bptr bx 0)]), (rob bx 146 [(iv b.scales), vt, vm, (Value.map (some bm))]), (mapX false bm es ck es.size 106 5 (bN b.tabs b.tabs.length) (bC lr lb b.tabs b.tabs.length)), (d_3 false vt lr lb b.tabs), (d_9 false vm lk b.macs), (sl xr 2 l.length (pairs l)), (sl xk 2 ((d_5 l (s ++ [(q : Int)]) (q + 1)).length) (pairs (d_5 l (s ++ [(q : Int)]) (q + 1)))), (row xl 3 1 s.length (ints s))] := Sep.callG (A := [(row M 3 1 ((s ++ [(q : Int)]).length) (ints (s ++ [(q : Int)]))), (blk bb 44 [vb]), (row vb 3 1 best.length (ints best)), (rob bs 134 [(Value.func (.func 73) #[] #[(bptr br 0), (bptr bb 0), (bptr F 0), (bptr bs 0)])]), (rob br 53 [xr]), (rob F 116 [(bptr bx 0)]), (rob bx 146 [(iv b.scales), vt, vm, (Value.map (some bm))]), (mapX false bm es ck es.size 106 5 (bN b.tabs b.tabs.length) (bC lr lb b.tabs b.tabs.length)), (d_3 false vt lr lb b.tabs), (d_9 false vm lk b.macs), (sl xr 2 l.length (pairs l)), (sl xk 2 ((d_5 l (s ++ [(q : Int)]) (q + 1)).length) (pairs (d_5 l (s ++ [(q : Int)]) (q + 1))))]) (B := [(row xl 3 1 s.length (ints s))]) t At (v_5 ⟨.inl rfl, .inl rfl, .inl rfl, .inr ⟨3, rfl⟩, .inr ⟨4, rfl⟩, .inr ⟨5, rfl⟩, .inr ⟨6, rfl⟩, .inr ⟨7, rfl⟩, .inr ⟨8, rfl⟩, .inr ⟨9, rfl⟩, .inr ⟨10, rfl⟩, .inr ⟨11, rfl⟩, trivial⟩); clear At t
 have O := Aq; rw [kep_out (l := l) hs] at O; clear Aq
 refine s1 V (b_6 rfl V.e V.e) fun Bn I => ?_; clear V Bm
 refine n1 ?_
 rcases Bool.eq_false_or_eq_true ((i_6 l.length (okS b l) m (s ++ [(q : Int)]) (q + 1))) with z | z
 ·skip
  rw [z] at I
  refine b_7 I rfl (b_5 ?_)
  have AV := I.as [] rfl; clear I
  refine a_5 (s1 AV (a_0 rfl (evc _ _)) fun CM AW => ?_); clear AV Bn
  refine n1 (c_4 (a_6 (a_9 AW (.inl rfl) (a_2 AW rfl (.tmp rfl)) ?_)))
  have hh := lv_hit (by omega) (by assumption) (Bi (by assumption))
  rw [hh.1]
  exact ⟨rfl, _, _, fun _ => hh.2, O.keep [12, 1, 2, 3, 4, 5, 6, 7, 8, 9, 10, 11] (by decide) _ rfl rfl⟩
 skip
 rw [z] at I
 refine b_4 I rfl (c_6 (a_7 (b_5 ?_)))
 have AX := I.as [(0, xl), (1, xk), (2, (iv (q : Int))), (3, (iv ((m + 1 : Nat) : Int))), (4, (bptr br 0)), (7, (bptr bs 0))] rfl; clear I
 have W := AX.as [(0, xl), (1, xk), (2, (iv (q : Int))), (3, (iv ((m + 1 : Nat) : Int))), (4, (bptr br 0)), (7, (bptr bs 0))] rfl; clear AX
 by_cases Av : ((m + 1 : Nat) : Int) < ((l.length : Int) - (q : Int))
 ·skip
  have AY := W.as [(0, xl), (1, xk), (2, (iv (q : Int))), (3, (iv ((m + 1 : Nat) : Int))), (4, (bptr br 0)), (7, (bptr bs 0))] rfl; clear W
  refine c_drawC mixed AY O 20 16 10 (by decide) (by decide) (by decide) rfl [[], [0], [], [1, 2], [], [3, 4], [5], [6], [6], [6], [6, 9], [6], [6], [6, 11, 12], [6, 13], [6, 14], [6, 10, 15], [6], [6, 17], [6]] [(yw xr), (yw (iv (l.length : Int))), (yw (iv (q : Int))), (yw (iv ((l.length : Int) - (q : Int)))), (yw (iv ((m + 1 : Nat) : Int))), (yw (Value.bool true)), (yw (Value.bool true)), (yw (Value.func (.func 73) #[] #[(bptr br 0), (bptr bb 0), (bptr F 0), (bptr bs 0)])), (yw xl), (yw xk), (fun (C : Nat → Value) (v_ : Value) (rs_ : List Res) => True ∧ rs_ = [(row v_ 98 2 ((d_5 l s q).length) (pairs (d_5 l s q)))]), (yw xr), (yw (iv (q : Int))), (yw (eptr xr (q * 2))), (yw (Value.agg #[(iv ((l.getD q (0, 0)).1)), (iv ((l.getD q (0, 0)).2))])), (fun (C : Nat → Value) (v_ : Value) (rs_ : List Res) => True ∧ rs_ = [(row v_ 98 2 1 [(iv ((l.getD q (0, 0)).1)), (iv ((l.getD q (0, 0)).2))])]), (fun (C : Nat → Value) (v_ : Value) (rs_ : List Res) => True ∧ rs_ = [(row v_ 98 2 (((d_5 l s q) ++ [((l.getD q (0, 0)).1, (l.getD q (0, 0)).2)]).length) (pairs ((d_5 l s q) ++ [((l.getD q (0, 0)).1, (l.getD q (0, 0)).2)])))]), (yw (iv (q : Int))), (yw (iv ((q : Int) + 1))), (yw (iv ((m + 1 : Nat) : Int)))] (by decide +kernel) (by decide +kernel) rfl rfl ⟨dw, dw, dw, dw, dw, dw, dw, dw, dw, dw, (fun _ _ _ _ _ h_ => h_), dw, dw, dw, dw, (fun _ _ _ _ _ h_ => h_), (fun _ _ _ _ _ h_ => h_), dw, dw, dw, trivial⟩ (by decide +kernel) (by decide +kernel) ?_ ?_ ?_
  ·skip
   refine ⟨fun hj_ a w C hA hS hd => gv1 (a_3 rfl ac_6 hA.e (hS.rk 4 rfl) rfl), ?_⟩
   refine ⟨fun hj_ a w C hA hS hd => gv1 (c_9 rfl p_9 (gu hd 0) (hS.sk 10 rfl)), ?_⟩
   refine ⟨fun hj_ a w C hA hS hd => gv1 (a_1 rfl hA.e), ?_⟩
   refine ⟨fun hj_ a w C hA hS hd => gv1 (h_9 rfl (gu hd 1) (gu hd 2) (by omega) (by omega)), ?_⟩
   refine ⟨fun hj_ a w C hA hS hd => gv1 (a_1 rfl hA.e), ?_⟩
   refine ⟨fun hj_ a w C hA hS hd => gv2 (i_4 rfl (gu hd 3) (gu hd 4)) (And.intro (by show Value.bool _ = _; simp only [decide_eq_true Av, decide_true, decide_false, Bool.not_true, Bool.not_false]) rfl), ?_⟩
   refine ⟨fun hj_ a w C hA hS hd => gv1 (a_1 rfl (gu hd 5)), ?_⟩
   refine ⟨fun hj_ a w C hA hS hd => gy1 hd 6 (a_3 rfl ty_134 hA.e (hS.rk 3 rfl) rfl), ?_⟩
   refine ⟨fun hj_ a w C hA hS hd => gy1 hd 6 (a_1 rfl hA.e), ?_⟩
   refine ⟨fun hj_ a w C hA hS hd => gy1 hd 6 (a_1 rfl hA.e), ?_⟩
   refine ⟨fun hj_ a w C hA hS hd => f_7 rfl rfl (gut hd 6 (by decide) rfl (fun _ h => And.left h)) (vn (b_3 rfl en_75 (ev1 (gu hd 9)) (clone_read (d_5 l s q) _ _ (hS.sk 11 rfl) (by omega))) (fun v w' h => ⟨_, And.intro trivial rfl, (Sep.start NoB _).x_8 h.1 h.2, rfl⟩)), ?_⟩
   refine ⟨fun hj_ a w C hA hS hd => gy1 hd 6 (a_3 rfl ac_6 hA.e (hS.rk 4 rfl) rfl), ?_⟩
   refine ⟨fun hj_ a w C hA hS hd => gy1 hd 6 (a_1 rfl hA.e), ?_⟩
   refine ⟨fun hj_ a w C hA hS hd => gy1 hd 6 (b_0 rfl p_9 aa_7 (gu hd 11) (i := q) (gu hd 12) (hS.sk 10 rfl) (by decide) (by omega)), ?_⟩
   refine ⟨fun hj_ a w C hA hS hd => gy1 hd 6 (e_7 rfl aa_7 (gu hd 13) (hS.sk 10 rfl) (g_8 (by omega)) rfl (by decide)), ?_⟩
   refine ⟨fun hj_ a w C hA hS hd => f_7 rfl rfl (gut hd 6 (by decide) rfl (fun _ h => And.left h)) (vblt rfl (pv1 (gu hd 14)) p_9 aa_7 ze_98 (by decide) (cs := [(iv ((l.getD q (0, 0)).1)), (iv ((l.getD q (0, 0)).2))]) (t_1 _ _) rfl (by decide) (fun _ => And.intro trivial rfl)), ?_⟩
   refine ⟨fun hj_ => absurd rfl hj_, ?_⟩
   refine ⟨fun hj_ a w C hA hS hd => gy1 hd 6 (a_1 rfl hA.e), ?_⟩
   refine ⟨fun hj_ a w C hA hS hd => gy1 hd 6 (f_0 rfl (gu hd 17) (evc _ _) (by omega) (by omega)), ?_⟩
   refine ⟨fun hj_ a w C hA hS hd => gy1 hd 6 (a_1 rfl hA.e), ?_⟩
   trivial
  ·skip
   intro a w C CF Lr hA Bb Be hd hS
   obtain ⟨B0, AQ⟩ := Be; subst AQ
   obtain ⟨e6, CG, Bf, BZ⟩ := hd 6 (by decide) (by decide)
   obtain ⟨Bd, Ba⟩ := Bf; subst Ba
   rw [Bd] at e6
   obtain ⟨Ax, B2, AS, AP⟩ := hd 15 (by decide) (by decide)
   obtain ⟨B1, AR⟩ := AS; subst AR
   have hp15_0 := AP _ (List.mem_of_getElem? (i := 0) rfl)
   exact f_7 rfl rfl (h_2 e6 rfl) (n_4 (j_9 hS rfl p_9 el_98 (b_8 (h_2 Bb rfl)) (b_8 (h_2 Ax rfl)) (i := 0) rfl (SlAt.d_6 hp15_0) rfl (by simp only [maxLen]; omega) (by omega)) fun v_ w_ h_ => ⟨_, And.intro trivial rfl, h_.f_6 (i := 0) rfl (n' := ((d_5 l s q) ++ [((l.getD q (0, 0)).1, (l.getD q (0, 0)).2)]).length) (xs' := (pairs ((d_5 l s q) ++ [((l.getD q (0, 0)).1, (l.getD q (0, 0)).2)]))) (by simp) (by simp [pairs])⟩)
  skip
  intro Aw B4 C rsf131 AZ E hrq u; clear AY O
  obtain ⟨AA, AD⟩ := E 15 (by decide) (by decide)
  obtain ⟨AB, R⟩ := AD
  obtain ⟨T, AE⟩ := E 16 (by decide) (by decide)
  obtain ⟨AC, S⟩ := AE
  have Ar : Sep X w B4 [(row (C 15) 98 2 1 [(iv ((l.getD q (0, 0)).1)), (iv ((l.getD q (0, 0)).2))]), (row (C 16) 98 2 (((d_5 l s q) ++ [((l.getD q (0, 0)).1, (l.getD q (0, 0)).2)]).length) (pairs ((d_5 l s q) ++ [((l.getD q (0, 0)).1, (l.getD q (0, 0)).2)]))), (row M 3 1 ((s ++ [(q : Int)]).length) (ints (s ++ [(q : Int)]))), (blk bb 44 [vb109]), (row vb109 3 1 best110.length (ints best110)), (rob bs 134 [(Value.func (.func 73) #[] #[(bptr br 0), (bptr bb 0), (bptr F 0), (bptr bs 0)])]), (rob br 53 [xr]), (rob F 116 [(bptr bx 0)]), (rob bx 146 [(iv b.scales), vt, vm, (Value.map (some bm))]), (mapX false bm es ck es.size 106 5 (bN b.tabs b.tabs.length) (bC lr lb b.tabs b.tabs.length)), (d_3 false vt lr lb b.tabs), (d_9 false vm lk b.macs), (sl xr 2 l.length (pairs l)), (sl xk 2 ((d_5 l s q).length) (pairs (d_5 l s q))), (row xl 3 1 s.length (ints s))] := by rw [show catR rsf131 0 20 = ([(row (C 15) 98 2 1 [(iv ((l.getD q (0, 0)).1)), (iv ((l.getD q (0, 0)).2))]), (row (C 16) 98 2 (((d_5 l s q) ++ [((l.getD q (0, 0)).1, (l.getD q (0, 0)).2)]).length) (pairs ((d_5 l s q) ++ [((l.getD q (0, 0)).1, (l.getD q (0, 0)).2)])))] : List Res) by (try simp only [catR, gr (E 0 (by decide) (by decide)), gr (E 1 (by decide) (by decide)), gr (E 2 (by decide) (by decide)), gr (E 3 (by decide) (by decide)), gr (E 4 (by decide) (by decide)), gr (E 5 (by decide) (by decide)), gr (E 6 (by decide) (by decide)), gr (E 7 (by decide) (by decide)), gr (E 8 (by decide) (by decide)), gr (E 9 (by decide) (by decide)), gr (E 11 (by decide) (by decide)), gr (E 12 (by decide) (by decide)), gr (E 13 (by decide) (by decide)), gr (E 14 (by decide) (by decide)), R, S, gr (E 17 (by decide) (by decide)), gr (E 18 (by decide) (by decide)), gr (E 19 (by decide) (by decide)), hrq]); (try rfl)] at u; exact u
  have Aa := AZ.add (gs (E 6 (by decide) (by decide))); clear AZ
  have Ab := Aa.add (gs (E 7 (by decide) (by decide))); clear Aa
  have Ac := Ab.add (gs (E 8 (by decide) (by decide))); clear Ab
  have Ad : Fr 69 [] [(63, (C 16)), (55, xl), (54, (Value.func (.func 73) #[] #[(bptr br 0), (bptr bb 0), (bptr F 0), (bptr bs 0)])), (53, (Value.bool true)), (0, xl), (1, xk), (2, (iv (q : Int))), (3, (iv ((m + 1 : Nat) : Int))), (4, (bptr br 0)), (7, (bptr bs 0))] Aw := Ac.add (h_2 T rfl); clear Ac
  have Ae := Ad.add (gs (E 18 (by decide) (by decide))); clear Ad
  have K := Ae.add (gs (E 19 (by decide) (by decide))); clear Ae
  clear E u AA T hrq
  clear R
  clear AB
  clear S
  clear AC
  have As := sep_row_sl (Ar.f_6 (i := 1) rfl (n' := (d_5 l s (q + 1)).length) (xs' := pairs (d_5 l s (q + 1))) (by rw [kep_in hs]) (by rw [kep_in hs])) (i := 1) rfl; clear Ar
  have x := As.gkp (gpc 14 (gpc 3 (gpc 4 (gpc 5 (gpc 6 (gpc 7 (gpc 8 (gpc 9 (gpc 10 (gpc 11 (gpc 12 (gpc 1 (gpc 0 (gpc 2 (gpc 13 gpn))))))))))))))); clear As
  refine s6 K (i_9 rfl (K.ev rfl) en_73 (ev4 K.e K.e K.e K.e) (by have hz := ih (m + 1) (q + 1) s _ _ _ _ _ (ownX [(row xl 3 1 s.length (ints s)), (blk bb 44 [vb109]), (row vb109 3 1 best110.length (ints best110)), (rob bs 134 [(Value.func (.func 73) #[] #[(bptr br 0), (bptr bb 0), (bptr F 0), (bptr bs 0)])]), (rob br 53 [xr]), (rob F 116 [(bptr bx 0)]), (rob bx 146 [(iv b.scales), vt, vm, (Value.map (some bm))]), (mapX false bm es ck es.size 106 5 (bN b.tabs b.tabs.length) (bC lr lb b.tabs b.tabs.length)), (d_3 false vt lr lb b.tabs), (d_9 false vm lk b.macs), (sl xr 2 l.length (pairs l)), (sl (C 16) 2 ((d_5 l s (q + 1)).length) (pairs (d_5 l s (q + 1))))]) (by omega) (by omega) hs.more (by omega) (Sep.enterG (A := [(row xl 3 1 s.length (ints s)), (blk bb 44 [vb109]), (row vb109 3 1 best110.length (ints best110)), (rob bs 134 [(Value.func (.func 73) #[] #[(bptr br 0), (bptr bb 0), (bptr F 0), (bptr bs 0)])]), (rob br 53 [xr]), (rob F 116 [(bptr bx 0)]), (rob bx 146 [(iv b.scales), vt, vm, (Value.map (some bm))]), (mapX false bm es ck es.size 106 5 (bN b.tabs b.tabs.length) (bC lr lb b.tabs b.tabs.length)), (d_3 false vt lr lb b.tabs), (d_9 false vm lk b.macs), (sl xr 2 l.length (pairs l)), (sl (C 16) 2 ((d_5 l s (q + 1)).length) (pairs (d_5 l s (q + 1))))]) (B := [(row (C 15) 98 2 1 [(iv ((l.getD q (0, 0)).1)), (iv ((l.getD q (0, 0)).2))]), (row M 3 1 ((s ++ [(q : Int)]).length) (ints (s ++ [(q : Int)]))), (sl xk 2 ((d_5 l s q).length) (pairs (d_5 l s q)))]) x); exact hz)) ?_
  rintro Bo _ B5 ⟨rfl, vb145, best146, Bj, Au⟩ Y; clear K Aw
  have Bg : Sep X w B5 [(row xl 3 1 s.length (ints s)), (blk bb 44 [vb145]), (row vb145 3 1 best146.length (ints best146)), (rob bs 134 [(Value.func (.func 73) #[] #[(bptr br 0), (bptr bb 0), (bptr F 0), (bptr bs 0)])]), (rob br 53 [xr]), (rob F 116 [(bptr bx 0)]), (rob bx 146 [(iv b.scales), vt, vm, (Value.map (some bm))]), (mapX false bm es ck es.size 106 5 (bN b.tabs b.tabs.length) (bC lr lb b.tabs b.tabs.length)), (d_3 false vt lr lb b.tabs), (d_9 false vm lk b.macs), (sl xr 2 l.length (pairs l)), (sl (C 16) 2 ((d_5 l s (q + 1)).length) (pairs (d_5 l s (q + 1)))), (row (C 15) 98 2 1 [(iv ((l.getD q (0, 0)).1)), (iv ((l.getD q (0, 0)).2))]), (row M 3 1 ((s ++ [(q : Int)]).length) (ints (s ++ [(q : Int)]))), (sl xk 2 ((d_5 l s q).length) (pairs (d_5 l s q)))] := Sep.callG (A := [(row xl 3 1 s.length (ints s)), (blk bb 44 [vb109]), (row vb109 3 1 best110.length (ints best110)), (rob bs 134 [(Value.func (.func 73) #[] #[(bptr br 0), (bptr bb 0), (bptr F 0), (bptr bs 0)])]), (rob br 53 [xr]), (rob F 116 [(bptr bx 0)]), (rob bx 146 [(iv b.scales), vt, vm, (Value.map (some bm))]), (mapX false bm es ck es.size 106 5 (bN b.tabs b.tabs.length) (bC lr lb b.tabs b.tabs.length)), (d_3 false vt lr lb b.tabs), (d_9 false vm lk b.macs), (sl xr 2 l.length (pairs l)), (sl (C 16) 2 ((d_5 l s (q + 1)).length) (pairs (d_5 l s (q + 1))))]) (B := [(row (C 15) 98 2 1 [(iv ((l.getD q (0, 0)).1)), (iv ((l.getD q (0, 0)).2))]), (row M 3 1 ((s ++ [(q : Int)]).length) (ints (s ++ [(q : Int)]))), (sl xk 2 ((d_5 l s q).length) (pairs (d_5 l s q)))]) x Au (v_5 ⟨.inl rfl, .inl rfl, .inl rfl, .inr ⟨3, rfl⟩, .inr ⟨4, rfl⟩, .inr ⟨5, rfl⟩, .inr ⟨6, rfl⟩, .inr ⟨7, rfl⟩, .inr ⟨8, rfl⟩, .inr ⟨9, rfl⟩, .inr ⟨10, rfl⟩, .inr ⟨11, rfl⟩, trivial⟩); clear Au x
  refine s1 Y (b_6 rfl Y.e Y.e) fun Bp g => ?_; clear Y Bo
  refine s1 g (a_0 rfl g.e) fun CN Af => ?_; clear g Bp
  refine n1 (c_4 (a_9 Af (.inl rfl) (a_2 Af rfl (.tmp rfl)) ?_))
  have hh : (i_6 l.length (okS b l) (m + 1) s q) = (i_6 l.length (okS b l) (m + 1) s (q + 1)) := lv_go (by omega) (by assumption)
  rw [hh]
  exact ⟨rfl, _, _, fun h => lv_gof (by omega) (by assumption) (Bj h), Bg.keep [0, 1, 2, 3, 4, 5, 6, 7, 8, 9, 10, 14] (by decide) _ rfl rfl⟩
 skip
 have Ag := W.as [(0, xl), (1, xk), (2, (iv (q : Int))), (3, (iv ((m + 1 : Nat) : Int))), (4, (bptr br 0)), (7, (bptr bs 0))] rfl; clear W
 refine g_2 mixed Ag O 20 [[], [0], [], [1, 2], [], [3, 4], [5], [6], [6], [6], [6, 9], [6], [6], [6, 11, 12], [6, 13], [6, 14], [6, 10, 15], [6], [6, 17], [6]] [(Yd.val xr), (Yd.val (iv (l.length : Int))), (Yd.val (iv (q : Int))), (Yd.val (iv ((l.length : Int) - (q : Int)))), (Yd.val (iv ((m + 1 : Nat) : Int))), (Yd.val (Value.bool false)), (Yd.val (Value.bool false)), (Yd.val undef), (Yd.val undef), (Yd.val undef), (Yd.val undef), (Yd.val undef), (Yd.val undef), (Yd.val undef), (Yd.val undef), (Yd.val undef), (Yd.val undef), (Yd.val undef), (Yd.val undef), (Yd.val undef)] (by decide +kernel) rfl rfl ?_ ?_
 ·skip
  refine dq (fun a w hA hS hd => a_3 rfl ac_6 hA.e (hS.rk 4 rfl) rfl) ?_
  refine dq (fun a w hA hS hd => c_9 rfl p_9 (hq hd 0) (hS.sk 10 rfl)) ?_
  refine dq (fun a w hA hS hd => a_1 rfl hA.e) ?_
  refine dq (fun a w hA hS hd => h_9 rfl (hq hd 1) (hq hd 2) (by omega) (by omega)) ?_
  refine dq (fun a w hA hS hd => a_1 rfl hA.e) ?_
  refine ⟨fun a w hA hS hd => by have e3 := hx hd 3; have e4 := hx hd 4; exact d_4 rfl (dv (i_4 rfl (b_8 e3) (b_8 e4)) hS (by show Value.bool _ = _; simp only [decide_eq_false Av, decide_true, decide_false, Bool.not_true, Bool.not_false])), ?_⟩
  refine dq (fun a w hA hS hd => a_1 rfl (hq hd 5)) ?_
  refine dn 6 (dn 6 (dn 6 (dn 6 (dn 6 (dn 6 (dn 6 (dn 6 (dn 6 (dn 6 (dn 6 (dn 6 (dn 6 ?_))))))))))))
  trivial
 intro Bq CW Ah Bh L; clear Ag O
 have Ai := Ah.add (hz L 6); clear Ah
 have Aj := Ai.add (hz L 7); clear Ai
 have Ak := Aj.add (hz L 8); clear Aj
 have Al := Ak.add (hz L 16); clear Ak
 have Am := Al.add (hz L 18); clear Al
 have An := Am.add (hz L 19); clear Am
 clear L
 refine s3 An fun Br j => ?_; clear An Bq
 refine s1 j (d_0 rfl j.e (evc _ _)) fun Bs k => ?_; clear j Br
 refine s1 k (a_0 rfl k.e) fun CO Ao => ?_; clear k Bs
 refine n1 (c_4 (a_9 Ao (.inl rfl) (a_2 Ao rfl (.tmp rfl)) ?_))
 have hh : (i_6 l.length (okS b l) (m + 1) s q) = false := lv_no (by omega) (by assumption) (by omega)
 rw [hh]
 exact ⟨rfl, _, _, (fun h => by cases h), Bh.keep [12, 1, 2, 3, 4, 5, 6, 7, 8, 9, 10, 11] (by decide) _ rfl rfl⟩
theorem leave_ok (b : h_7) (vt vm : Value) (lr lb lk : Nat → Value) (hth : n_5 b) (hb : l_3 b) (bx bm : Nat) (es : Array MapEntry) (ck : Nat) (hMO : r_2 bm es ck (bN b.tabs b.tabs.length)) (l : List (Int × Int)) (hl : p_8 b l) (xr : Value) (bb br A bs : Nat) : ∀ (d m : Nat) (q : Nat) (s : List Int) (xl xk vb : Value) (best : List Int) (w : World) (X : Nat → Prop) (_ : m ≤ d) (_ : q + d = l.length) (_ : u_0 s q) (_ : s.length + m ≤ 1000) (_ : Sep X w w [(row xl 3 1 s.length (ints s)), (blk bb 44 [vb]), (row vb 3 1 best.length (ints best)), (rob bs 134 [(Value.func (.func 73) #[] #[(bptr br 0), (bptr bb 0), (bptr A 0), (bptr bs 0)])]), (rob br 53 [xr]), (rob A 116 [(bptr bx 0)]), (rob bx 146 [(iv b.scales), vt, vm, (Value.map (some bm))]), (mapX false bm es ck es.size 106 5 (bN b.tabs b.tabs.length) (bC lr lb b.tabs b.tabs.length)), (d_3 false vt lr lb b.tabs), (d_9 false vm lk b.macs), (sl xr 2 l.length (pairs l)), (sl xk 2 ((d_5 l s q).length) (pairs (d_5 l s q)))]), Calls Try.prog 73 #[xl, xk, .int .i64 (q : Int), .int .i64 (m : Int), bptr br 0, bptr bb 0, bptr A 0, bptr bs 0] w (Ret fun v w' => v = .bool (i_6 l.length (okS b l) m s q) ∧ ∃ vb' best', ((i_6 l.length (okS b l) m s q) = true → (n_9 l.length m s q).find? (okS b l) = some best') ∧ Sep X w w' [(row xl 3 1 s.length (ints s)), (blk bb 44 [vb']), (row vb' 3 1 best'.length (ints best')), (rob bs 134 [(Value.func (.func 73) #[] #[(bptr br 0), (bptr bb 0), (bptr A 0), (bptr bs 0)])]), (rob br 53 [xr]), (rob A 116 [(bptr bx 0)]), (rob bx 146 [(iv b.scales), vt, vm, (Value.map (some bm))]), (mapX false bm es ck es.size 106 5 (bN b.tabs b.tabs.length) (bC lr lb b.tabs b.tabs.length)), (d_3 false vt lr lb b.tabs), (d_9 false vm lk b.macs), (sl xr 2 l.length (pairs l)), (sl xk 2 ((d_5 l s q).length) (pairs (d_5 l s q)))]) := by
 intro d
 induction d with
 | zero =>
  intro m q s xl xk vb best w X hm hqd hs hsl hJ
  obtain rfl : m = 0 := by omega
  obtain rfl : q = l.length := by omega
  exact leave_zero b vt vm lr lb lk hth hb bx bm es ck hMO l hl xr bb br A bs s xl xk vb best w X hsl hJ
 | succ d ih =>
  intro m q s xl xk vb best w X hm hqd hs hsl hJ
  cases m with
  | zero => exact leave_keep b vt vm lr lb lk hth hb bx bm es ck hMO l hl xr bb br A bs d ih q s xl xk vb best w X hm hqd hs hsl hJ
  | succ m => exact leave_more b vt vm lr lb lk hth hb bx bm es ck hMO l hl xr bb br A bs d ih m q s xl xk vb best w X hm hqd hs hsl hJ
end Go.Proofs.Ytohgladndklciaa

namespace Go.Proofs.Ytohgladndklciaa
open Go.RowKit Go.Shelf Go.Eng Go.Hard
theorem mapX_roS {X : Nat → Prop} {A w : World} {L : List Res} {i : Nat} {bm : Nat} {es : Array MapEntry} {ck q te sz : Nat} {n : Int → Int → Nat} {c : Int → Int → List Value} (h : Sep X A w L) (hi : L[i]? = some (mapX true bm es ck q te sz n c)) : Sep X A w (L.set i (mapX false bm es ck q te sz n c)) := h.say hi (mapX_ro (h.ok i _ hi)) (fun _ hb => hb) (fun e => by cases e)
theorem Doubt_bad (b : h_7) (vt vm : Value) (lr lb lk : Nat → Value) (w : World) (hT : j_1 w vt lr lb b.tabs) (hM : k_0 w vm lk b.macs) (hth : n_5 b) (l : List (Int × Int)) (xl : Value) (hxl : SlAt w xl 2 l.length (pairs l)) (hlb : l.length ≤ 1000000) (hr : k_9 b l ≠ 0) :
  Calls Try.prog 41 #[(Value.agg #[(iv b.scales), vt, vm]), xl] w (Ret fun v w' => v = .tuple #[.slice none 0 0, .int .i64 (k_9 b l)] ∧ Ext NoB w w') := by
 refine a_8 Try.func41 rfl fun g E => ?_
 replace E : Fr 32 [] [(0, (Value.agg #[(iv b.scales), vt, vm])), (1, xl)] g := E
 have c : Sep NoB w w [(d_3 false vt lr lb b.tabs), (d_9 false vm lk b.macs), (sl xl 2 l.length (pairs l))] := f_2 ⟨rfl, hT, rfl, hM, rfl, hxl, trivial⟩
 refine m2 (s2 E (f_4 c rfl E.e (cs := [(iv b.scales), vt, vm]) rfl) ?_)
 rintro a1 _ w3 ⟨b4, rfl, Y⟩ P; clear E c g
 refine s2 P (f_4 Y rfl P.e (cs := [xl]) (r_7 (SlAt.isSl (Y.sk 3 rfl)))) ?_
 rintro a6 _ w8 ⟨z, rfl, A⟩ a; clear P Y a1
 refine s1 a (a_0 rfl (evc _ _)) fun h O => ?_; clear a a6
 refine s1 O (a_0 rfl (evc _ _)) fun j F => ?_; clear O h
 refine n4 (s1 F (c_5 rfl w_2 (F.ev rfl) (A.bk 1 rfl) (l := [(iv b.scales), vt, vm]) rfl rfl) fun k G => ?_); clear F j
 refine s1 G (a_3 rfl ac_6 G.e (A.bk 0 rfl) rfl) fun m C => ?_; clear G k
 refine s2 C (b_3 rfl en_56 (ev2 C.e C.e) (read_bad b vt vm lr lb lk _ (c_1 (A.ok 2 _ rfl)) (c_8 (A.ok 3 _ rfl)) hth l _ (A.sk 4 rfl) (by omega) hr)) ?_
 rintro n _ AF ⟨rfl, U⟩ H; have V := A.step U; clear U C A m
 refine s1 H (a_1 rfl H.e) fun o I => ?_; clear H n
 refine s1 I (e_9 rfl I.e rfl) fun p J => ?_; clear I o
 refine s1 J (e_9 rfl J.e rfl) fun q Q => ?_; clear J p
 refine s2 Q (e_0 V rfl ze_116 (cs := [(Value.pointer none)]) rfl) ?_
 rintro r _ AG ⟨Z, rfl, W⟩ D; clear Q V q
 refine s7 D (c_0 W rfl ty_116 D.e D.e (i := 0) rfl (vs := [(Value.pointer none)]) rfl rfl (i_8 rfl w_1) (Nat.le_of_ble_eq_true rfl)) ?_
 intro _ AA X K; clear D
 have d : Sep NoB w AA [(blk Z 116 [(Value.pointer none)]), (blk z 53 [xl]), (blk b4 37 [(iv b.scales), vt, vm]), (d_3 false vt lr lb b.tabs), (d_9 false vm lk b.macs), (sl xl 2 l.length (pairs l))] := X; clear X W
 refine s1 K (a_0 rfl K.e) fun s R => ?_; clear K r
 refine n2 (b_5 ?_)
 have L := R.as [(7, (iv (k_9 b l))), (6, (bptr Z 0)), (3, (bptr z 0))] rfl; clear R
 refine a_5 (s1 L (a_1 rfl L.e) fun t M => ?_); clear L s
 refine s1 M (u_1 rfl M.e (evc _ _)) fun u B => ?_; clear M t
 have f : ¬ ((k_9 b l) = 0) := hr
 rw [decide_eq_false f] at B
 refine n1 (b_7 B rfl (m2 (s1 B (a_1 rfl B.e) fun x S => ?_))); clear B u
 refine s1 S (a_0 rfl (evc _ _)) fun y N => ?_; clear S x
 refine s1 N (a_0 rfl N.e) fun AE T => ?_; clear N y
 exact n1 (c_4 (a_6 (a_9 T (.inl rfl) (d_2 T rfl (.tmp rfl) (.tmp rfl)) (⟨rfl, d.ext⟩))))
theorem Doubt_ok (b : h_7) (vt vm : Value) (lr lb lk : Nat → Value) (w : World) (hT : j_1 w vt lr lb b.tabs) (hM : k_0 w vm lk b.macs) (hth : n_5 b) (l : List (Int × Int)) (xl : Value) (hxl : SlAt w xl 2 l.length (pairs l)) (hlb : l.length ≤ 1000000) (hr : k_9 b l = 0) :
  Calls Try.prog 41 #[(Value.agg #[(iv b.scales), vt, vm]), xl] w (Ret fun v w' => ∃ u, v = .tuple #[u, .int .i64 0] ∧ Sep NoB w w' [row u 3 1 (l_0 b l).length (ints (l_0 b l))]) := by
 refine a_8 Try.func41 rfl fun a0 a => ?_
 replace a : Fr 32 [] [(0, (Value.agg #[(iv b.scales), vt, vm])), (1, xl)] a0 := a
 have hc : g_4 b = 0 := read_check hr; have hbl := read_ok hr; have hb := hbl.1; have hl := hbl.2; have hll := hl.len; have hsc := hb.scales
 have Ak : Sep NoB w w [(d_3 false vt lr lb b.tabs), (d_9 false vm lk b.macs), (sl xl 2 l.length (pairs l))] := f_2 ⟨rfl, hT, rfl, hM, rfl, hxl, trivial⟩
 refine m2 (s2 a (f_4 Ak rfl a.e (cs := [(iv b.scales), vt, vm]) rfl) ?_)
 rintro a1 _ w3 ⟨b4, rfl, AR⟩ AG; clear a Ak a0
 refine s2 AG (f_4 AR rfl AG.e (cs := [xl]) (r_7 (SlAt.isSl (AR.sk 3 rfl)))) ?_
 rintro a6 _ w8 ⟨I, rfl, J⟩ Aj; clear AG AR a1
 refine s1 Aj (a_0 rfl (evc _ _)) fun As AF => ?_; clear Aj a6
 refine s1 AF (a_0 rfl (evc _ _)) fun At c => ?_; clear AF As
 refine n4 (s1 c (c_5 rfl w_2 (c.ev rfl) (J.bk 1 rfl) (l := [(iv b.scales), vt, vm]) rfl rfl) fun Au d => ?_); clear c At
 refine s1 d (a_3 rfl ac_6 d.e (J.bk 0 rfl) rfl) fun Av R => ?_; clear d Au
 refine s2 R (b_3 rfl en_56 (ev2 R.e R.e) (read_yes b vt vm lr lb lk _ (c_1 (J.ok 2 _ rfl)) (c_8 (J.ok 3 _ rfl)) hth l _ (J.sk 4 rfl) (by omega) hc hr)) ?_
 rintro Aw _ BO ⟨bx24, bm25, es26, ck27, rfl, hMO28, Ac⟩ f; have AN := J.aa_5 Ac rfl; clear Ac R J Av
 refine s1 f (a_1 rfl f.e) fun Ax g => ?_; clear f Aw
 refine s1 g (e_9 rfl g.e rfl) fun Ay h => ?_; clear g Ax
 refine s1 h (e_9 rfl h.e rfl) fun Az AH => ?_; clear h Ay
 refine s2 AH (e_0 AN rfl ze_116 (cs := [(Value.pointer none)]) rfl) ?_
 rintro A0 _ BP ⟨E, rfl, AO⟩ S; clear AH AN Az
 refine s7 S (c_0 AO rfl ty_116 S.e S.e (i := 0) rfl (vs := [(bptr bx24 0)]) rfl rfl rfl (Nat.le_of_ble_eq_true rfl)) ?_
 intro _ BG AP j; clear S
 have AQ : Sep NoB w BG [(blk E 116 [(bptr bx24 0)]), (blk bx24 146 [(iv b.scales), vt, vm, (Value.map (some bm25))]), (mapX true bm25 es26 ck27 es26.size 106 5 (bN b.tabs b.tabs.length) (bC lr lb b.tabs b.tabs.length)), (blk I 53 [xl]), (blk b4 37 [(iv b.scales), vt, vm]), (d_3 false vt lr lb b.tabs), (d_9 false vm lk b.macs), (sl xl 2 l.length (pairs l))] := AP; clear AP AO
 refine s1 j (a_0 rfl j.e) fun A1 AI => ?_; clear j A0
 refine n2 (b_5 ?_)
 have m := AI.as [(7, (iv 0)), (6, (bptr E 0)), (3, (bptr I 0))] rfl; clear AI
 refine a_5 (s1 m (a_1 rfl m.e) fun A2 n => ?_); clear m A1
 refine s1 n (u_1 rfl n.e (evc _ _)) fun A3 o => ?_; clear n A2
 refine n1 (b_4 o rfl (c_6 (a_7 (m2 (s2 o (e_0 AQ rfl ze_44 (cs := [(Value.slice none 0 0)]) rfl) ?_)))))
 rintro A4 _ BQ ⟨C, rfl, AS⟩ AJ; clear o AQ A3
 refine n4 (s2 AJ (e_0 AS rfl ze_134 (cs := [Value.nilFunc]) rfl) ?_)
 rintro A5 _ BR ⟨D, rfl, AT⟩ K; clear AJ AS A4
 refine n4 (s1 K (h_8 rfl ev0 (ev4 K.e K.e K.e K.e)) fun A6 T => ?_); clear K A5
 refine s7 T (c_0 AT rfl ty_134 T.e T.e (i := 0) rfl (vs := [(Value.func (.func 73) #[] #[(bptr I 0), (bptr C 0), (bptr E 0), (bptr D 0)])]) rfl rfl rfl (Nat.le_of_ble_eq_true rfl)) ?_
 intro _ BH AU p; clear T
 have X : Sep NoB w BH [(blk D 134 [(Value.func (.func 73) #[] #[(bptr I 0), (bptr C 0), (bptr E 0), (bptr D 0)])]), (blk C 44 [(Value.slice none 0 0)]), (blk E 116 [(bptr bx24 0)]), (blk bx24 146 [(iv b.scales), vt, vm, (Value.map (some bm25))]), (mapX true bm25 es26 ck27 es26.size 106 5 (bN b.tabs b.tabs.length) (bC lr lb b.tabs b.tabs.length)), (blk I 53 [xl]), (blk b4 37 [(iv b.scales), vt, vm]), (d_3 false vt lr lb b.tabs), (d_9 false vm lk b.macs), (sl xl 2 l.length (pairs l))] := AU; clear AU AT
 refine n2 (m2 (s1 p (a_3 rfl ac_6 p.e (X.bk 5 rfl) rfl) fun A7 q => ?_)); clear p A6
 refine s1 q (c_9 rfl p_9 q.e (X.sk 9 rfl)) fun A8 r => ?_; clear q A7
 refine s1 r (f_0 rfl r.e (evc _ _) (by omega) (by omega)) fun A9 AK => ?_; clear r A8
 refine s1 AK (a_1 rfl (evc _ _)) fun BA AL => ?_; clear AK A9
 refine n1 (c_2 ?_)
 have AV := X.to_ro (i := 5) rfl; clear X
 have AW := AV.to_ro (i := 2) rfl; clear AV
 have AX := AW.to_ro (i := 0) rfl; clear AW
 have AY := AX.to_ro (i := 3) rfl; clear AX
 have AZ := mapX_roS (i := 4) AY rfl; clear AY
 have Aa := sep_row_sl (AZ.p_4 98 2) (i := 0) rfl; clear AZ
 have Ab := Aa.p_4 3 1; clear Aa
 have AM := AL.as [(24, (iv 0)), (23, (iv ((l.length : Int) + 1))), (9, (bptr D 0)), (8, (bptr C 0))] rfl; clear AL
 refine g_7 (G := Nat) (fun (k : Nat) a_ w_ => ∃ vb_ : Value, ∃ best_ : List Int, Fr 32 [] [(24, (iv (k : Int))), (23, (iv ((l.length : Int) + 1))), (9, (bptr D 0)), (8, (bptr C 0))] a_ ∧ Sep NoB w w_ [(row vb_ 3 1 best_.length (ints best_)), (sl (Value.slice none 0 0) 2 0 []), (rob D 134 [(Value.func (.func 73) #[] #[(bptr I 0), (bptr C 0), (bptr E 0), (bptr D 0)])]), (blk C 44 [vb_]), (rob E 116 [(bptr bx24 0)]), (rob bx24 146 [(iv b.scales), vt, vm, (Value.map (some bm25))]), (mapX false bm25 es26 ck27 es26.size 106 5 (bN b.tabs b.tabs.length) (bC lr lb b.tabs b.tabs.length)), (rob I 53 [xl]), (blk b4 37 [(iv b.scales), vt, vm]), (d_3 false vt lr lb b.tabs), (d_9 false vm lk b.macs), (sl xl 2 l.length (pairs l))] ∧ (k ≤ l.length + 1) ∧ ((l_2 l.length k).any (okS b l) = false)) (fun k => l.length + 1 - k) 0 ⟨(Value.slice none 0 0), [], AM.as _ rfl, Ab, by omega, rfl⟩ ?_
 clear AM Ab BA
 rintro k BB BS ⟨vb_, best_, U, Y, BN, hno⟩
 refine m2 (s1 U (f_5 rfl U.e U.e) fun Ah F => ?_); clear U BB
 refine n2 ?_
 by_cases Ad : (k : Int) < ((l.length : Int) + 1)
 ·skip
  rw [decide_eq_true Ad] at F
  refine b_7 F rfl (c_6 (a_7 (b_5 (c_2 (m2 (s1 F (a_1 rfl F.e) fun BC s => ?_)))))); clear F Ah
  refine s1 s (a_0 rfl s.e) fun BD t => ?_; clear s BC
  refine n4 (s1 t (a_3 rfl ty_134 t.e (Y.rk 2 rfl) rfl) fun BE x => ?_); clear t BD
  refine s1 x (a_1 rfl x.e) fun BF V => ?_; clear x BE
  have AC := Y.p_4 3 1; clear Y
  have W := AC.gkp (gpc 0 (gpc 4 (gpc 1 (gpc 3 (gpc 8 (gpc 5 (gpc 6 (gpc 7 (gpc 10 (gpc 11 (gpc 12 (gpc 2 (gpc 9 gpn))))))))))))); clear AC
  refine s2 V (i_9 rfl (V.ev rfl) en_73 (ev4 (evc _ _) (evc _ _) (evc _ _) V.e) (leave_ok b vt vm lr lb lk hth hb bx24 bm25 es26 ck27 hMO28 l hl xl C I E D l.length k 0 [] _ _ _ _ _ (ownX [(row (Value.slice none 0 0) 3 1 0 []), (blk C 44 [vb_]), (row vb_ 3 1 best_.length (ints best_)), (rob D 134 [(Value.func (.func 73) #[] #[(bptr I 0), (bptr C 0), (bptr E 0), (bptr D 0)])]), (rob I 53 [xl]), (rob E 116 [(bptr bx24 0)]), (rob bx24 146 [(iv b.scales), vt, vm, (Value.map (some bm25))]), (mapX false bm25 es26 ck27 es26.size 106 5 (bN b.tabs b.tabs.length) (bC lr lb b.tabs b.tabs.length)), (d_3 false vt lr lb b.tabs), (d_9 false vm lk b.macs), (sl xl 2 l.length (pairs l)), (sl (Value.slice none 0 0) 2 0 [])]) (by omega) (by omega) u_0.nil (by simp only [List.length_nil]; omega) (Sep.enterG (A := [(row (Value.slice none 0 0) 3 1 0 []), (blk C 44 [vb_]), (row vb_ 3 1 best_.length (ints best_)), (rob D 134 [(Value.func (.func 73) #[] #[(bptr I 0), (bptr C 0), (bptr E 0), (bptr D 0)])]), (rob I 53 [xl]), (rob E 116 [(bptr bx24 0)]), (rob bx24 146 [(iv b.scales), vt, vm, (Value.map (some bm25))]), (mapX false bm25 es26 ck27 es26.size 106 5 (bN b.tabs b.tabs.length) (bC lr lb b.tabs b.tabs.length)), (d_3 false vt lr lb b.tabs), (d_9 false vm lk b.macs), (sl xl 2 l.length (pairs l)), (sl (Value.slice none 0 0) 2 0 [])]) (B := [(blk b4 37 [(iv b.scales), vt, vm])]) W))) ?_
  rintro Ai _ Aq ⟨rfl, vb104, best105, Ag, AD⟩ H; clear V BF
  have L : Sep NoB w Aq [(row (Value.slice none 0 0) 3 1 0 []), (blk C 44 [vb104]), (row vb104 3 1 best105.length (ints best105)), (rob D 134 [(Value.func (.func 73) #[] #[(bptr I 0), (bptr C 0), (bptr E 0), (bptr D 0)])]), (rob I 53 [xl]), (rob E 116 [(bptr bx24 0)]), (rob bx24 146 [(iv b.scales), vt, vm, (Value.map (some bm25))]), (mapX false bm25 es26 ck27 es26.size 106 5 (bN b.tabs b.tabs.length) (bC lr lb b.tabs b.tabs.length)), (d_3 false vt lr lb b.tabs), (d_9 false vm lk b.macs), (sl xl 2 l.length (pairs l)), (sl (Value.slice none 0 0) 2 0 []), (blk b4 37 [(iv b.scales), vt, vm])] := Sep.callG (A := [(row (Value.slice none 0 0) 3 1 0 []), (blk C 44 [vb_]), (row vb_ 3 1 best_.length (ints best_)), (rob D 134 [(Value.func (.func 73) #[] #[(bptr I 0), (bptr C 0), (bptr E 0), (bptr D 0)])]), (rob I 53 [xl]), (rob E 116 [(bptr bx24 0)]), (rob bx24 146 [(iv b.scales), vt, vm, (Value.map (some bm25))]), (mapX false bm25 es26 ck27 es26.size 106 5 (bN b.tabs b.tabs.length) (bC lr lb b.tabs b.tabs.length)), (d_3 false vt lr lb b.tabs), (d_9 false vm lk b.macs), (sl xl 2 l.length (pairs l)), (sl (Value.slice none 0 0) 2 0 [])]) (B := [(blk b4 37 [(iv b.scales), vt, vm])]) W AD (v_5 ⟨.inl rfl, .inl rfl, .inl rfl, .inr ⟨3, rfl⟩, .inr ⟨4, rfl⟩, .inr ⟨5, rfl⟩, .inr ⟨6, rfl⟩, .inr ⟨7, rfl⟩, .inr ⟨8, rfl⟩, .inr ⟨9, rfl⟩, .inr ⟨10, rfl⟩, .inr ⟨11, rfl⟩, trivial⟩); clear AD W
  refine n1 ?_
  rcases Bool.eq_false_or_eq_true ((i_6 l.length (okS b l) k [] 0)) with Z | Z
  ·skip
   rw [Z] at H
   refine b_7 H rfl (g_3 (blk_miss (by decide) (b_1 (b_1 (f_1 (a_7 (b_5 ?_)))))))
   have M := H.as [(8, (bptr C 0))] rfl; clear H
   refine a_5 (s1 M (a_3 rfl ab_1 M.e (L.bk 1 rfl) rfl) fun Al N => ?_); clear M Ai
   refine s1 N (a_0 rfl N.e) fun Am y => ?_; clear N Al
   refine s1 y (a_0 rfl (evc _ _)) fun BJ z => ?_; clear y Am
   refine n1 (c_4 (a_9 z (.inl rfl) (d_2 z rfl (.tmp rfl) (.tmp rfl)) ?_))
   rw [doubt_found (by omega) hno (Ag (by assumption))]
   exact ⟨_, rfl, L.keep [2] (by decide) _ rfl rfl⟩
  skip
  rw [Z] at H
  refine b_4 H rfl (c_6 (g_6 (a_7 ?_)))
  have O := H.as [(24, (iv (k : Int))), (23, (iv ((l.length : Int) + 1))), (9, (bptr D 0)), (8, (bptr C 0))] rfl; clear H
  refine a_5 (s1 O (f_0 rfl O.e (evc _ _) (by omega) (by omega)) fun An P => ?_); clear O Ai
  refine s1 P (a_1 rfl P.e) fun BK Ae => ?_; clear P An
  refine e_2 ?_
  have Af := L.gkp (gpc 2 (gpc 11 (gpc 3 (gpc 1 (gpc 5 (gpc 6 (gpc 7 (gpc 4 (gpc 12 (gpc 8 (gpc 9 (gpc 10 gpn)))))))))))); clear L
  exact a_7 ⟨k + 1, ⟨vb104, best105, Ae.as _ rfl, Af, by omega, all_go hno (by assumption)⟩, by omega⟩
 skip
 rw [decide_eq_false Ad] at F
 refine b_4 F rfl (g_3 (b_1 (b_1 (f_1 (a_7 (m2 (s1 F (a_3 rfl ab_1 F.e (Y.bk 3 rfl) rfl) fun Ao Q => ?_))))))); clear F Ah
 refine s1 Q (a_0 rfl Q.e) fun Ap AA => ?_; clear Q Ao
 refine s1 AA (a_0 rfl (evc _ _)) fun BL AB => ?_; clear AA Ap
 exact n1 (c_4 (a_9 AB (.inl rfl) (d_2 AB rfl (.tmp rfl) (.tmp rfl)) ((all_not hb (by omega) hno).elim)))
end Go.Proofs.Ytohgladndklciaa

namespace Go.Proofs.Ytohgladndklciaa
open Go.RowKit Go.Shelf Go.Eng Go.Hard
theorem Without_ok (l : List (Int × Int)) (xl : Value) (w : World) (hxl : SlAt w xl 2 l.length (pairs l)) (z : List Int) (xz : Value) (hxz : SlAt w xz 1 z.length (ints z)) (Be : l.length ≤ 12) (hzl : z.length ≤ 1000000) :
  Calls Try.prog 43 #[xl, xz] w (Ret fun v w' => Ext NoB w w' ∧ w'.ownsRow w.heap.size 67 2 v (woF l z).length (pairs (woF l z))) := by
 refine a_8 Try.func43 rfl fun a0 AH => ?_
 replace AH : Fr 39 [] [(0, xl), (1, xz)] a0 := AH
 have Ak : Sep NoB w w [(sl xl 2 l.length (pairs l)), (sl xz 1 z.length (ints z))] := f_2 ⟨rfl, hxl, rfl, hxz, trivial⟩
 refine m2 (s1 AH (a_0 rfl (evc _ _)) fun a1 Ag => ?_); clear AH a0
 refine n4 (s1 Ag (a_0 rfl (evc _ _)) fun a3 Ah => ?_); clear Ag a1
 have Al := Ak.p_4 67 2; clear Ak
 refine n2 (m2 (s1 Ah (a_0 rfl (evc _ _)) fun a6 Ai => ?_)); clear Ah a3
 refine n1 (c_2 ?_)
 have Aj := Ai.as [(6, (iv 0)), (5, (Value.slice none 0 0)), (0, xl), (1, xz)] rfl; clear Ai
 refine g_7 (G := Nat) (fun (A : Nat) a_ w_ => ∃ v5_ : Value, Fr 39 [] [(6, (iv (A : Int))), (5, v5_), (0, xl), (1, xz)] a_ ∧ Sep NoB w w_ [(row v5_ 67 2 ((d_5 l z A).length) (pairs (d_5 l z A))), (sl xl 2 l.length (pairs l)), (sl xz 1 z.length (ints z))] ∧ (A ≤ l.length)) (fun A => l.length - A) 0 ⟨(Value.slice none 0 0), Aj.as _ rfl, (Al.f_6 (i := 0) rfl (by rfl) (by rfl)), by omega⟩ ?_
 clear Aj Al a6
 rintro A a9 Bk ⟨v5_, f, d, hkk1⟩
 have hkpl := kep_len l z A
 refine b_5 (m2 (s1 f (a_1 rfl f.e) fun Az g => ?_)); clear f a9
 refine s1 g (a_1 rfl g.e) fun A0 h => ?_; clear g Az
 refine s1 h (c_9 rfl u_8 h.e (d.sk 1 rfl)) fun A1 X => ?_; clear h A0
 refine s1 X (f_5 rfl X.e X.e) fun Ac E => ?_; clear X A1
 refine n1 ?_
 by_cases AW : (A : Int) < (l.length : Int)
 ·skip
  rw [decide_eq_true AW] at E
  refine b_7 E rfl (c_6 (a_7 (b_5 (c_2 (m2 (s1 E (a_0 rfl (evc _ _)) fun A2 AM => ?_)))))); clear E Ac
  refine n2 (m2 (s1 AM (a_0 rfl (evc _ _)) fun A3 AN => ?_)); clear AM A2
  refine n1 (c_2 ?_)
  have AO := AN.as [(8, (iv 0)), (7, (Value.bool true)), (6, (iv (A : Int))), (5, v5_), (0, xl), (1, xz)] rfl; clear AN
  refine g_7 (G := Nat) (fun (D : Nat) a_ w_ => Fr 39 [] [(8, (iv (D : Int))), (7, (Value.bool (woU z A D))), (6, (iv (A : Int))), (5, v5_), (0, xl), (1, xz)] a_ ∧ Sep NoB w w_ [(row v5_ 67 2 ((d_5 l z A).length) (pairs (d_5 l z A))), (sl xl 2 l.length (pairs l)), (sl xz 1 z.length (ints z))] ∧ (D ≤ z.length)) (fun D => z.length - D) 0 ⟨AO.as _ (by rfl), d, by omega⟩ ?_
  clear AO d A3
  rintro D A4 Bl ⟨k, C, Bj⟩
  refine b_5 (m2 (s1 k (a_1 rfl k.e) fun A5 m => ?_)); clear k A4
  refine s1 m (a_1 rfl m.e) fun A6 n => ?_; clear m A5
  refine s1 n (c_9 rfl j_3 n.e (C.sk 2 rfl)) fun A7 Y => ?_; clear n A6
  refine s1 Y (f_5 rfl Y.e Y.e) fun Ad B => ?_; clear Y A7
  refine n1 ?_
  by_cases AX : (D : Int) < (z.length : Int)
  ·skip
   rw [decide_eq_true AX] at B
   refine b_7 B rfl (c_6 (a_7 (b_5 (c_2 (a_5 (s1 B (a_1 rfl B.e) fun A8 o => ?_)))))); clear B Ad
   refine s1 o (a_1 rfl o.e) fun Ae H => ?_; clear o A8
   rcases Bool.eq_false_or_eq_true ((woU z A D)) with K | K
   ·skip
    rw [K] at H
    have hnx := woU_t2 K
    refine s5 H (a_1 rfl H.e) fun A9 p => ?_; clear H Ae
    refine s5 p (a_1 rfl p.e) fun BA Z => ?_; clear p A9
    refine s5 Z (b_0 rfl j_3 ty_3 Z.e (i := D) Z.e (C.sk 2 rfl) (by decide) (by omega)) fun BB q => ?_; clear Z BA
    refine s5 q (b_9 rfl ty_3 q.e (C.sk 2 rfl) (ints_at (by omega))) fun BC r => ?_; clear q BB
    refine s5 r (a_1 rfl r.e) fun BD a => ?_; clear r BC
    refine s5 a (u_1 rfl a.e a.e) fun BE b => ?_; clear a BD
    refine s1 b (b_6 rfl b.e b.e) fun BF s => ?_; clear b BE
    refine s1 s (a_0 rfl s.e) fun BG AP => ?_; clear s BF
    refine e_2 (g_6 (a_7 ?_))
    have t := AP.as [(7, (Value.bool (!(decide ((z.getD D 0) = (A : Int)))))), (8, (iv (D : Int))), (6, (iv (A : Int))), (5, v5_), (0, xl), (1, xz)] rfl; clear AP
    refine a_5 (s1 t (a_1 rfl t.e) fun BH u => ?_); clear t BG
    refine s1 u (f_0 rfl u.e (evc _ _) (by omega) (by omega)) fun BI x => ?_; clear u BH
    refine s1 x (a_0 rfl x.e) fun Bh Aw => ?_; clear x BI
    refine e_2 ?_
    exact a_7 ⟨D + 1, ⟨Aw.as _ (by first | (rw [hnx]; done) | (rw [hnx]; rfl)), C, by omega⟩, by omega⟩
   skip
   rw [K] at H
   have hnx := woU_f1 K
   refine s3 H fun BJ AQ => ?_; clear H Ae
   refine s3 AQ fun BK AR => ?_; clear AQ BJ
   refine s3 AR fun BL AS => ?_; clear AR BK
   refine s3 AS fun BM AT => ?_; clear AS BL
   refine s3 AT fun BN AU => ?_; clear AT BM
   refine s3 AU fun BO y => ?_; clear AU BN
   refine s1 y (d_0 rfl y.e (evc _ _)) fun BP AA => ?_; clear y BO
   refine s1 AA (a_0 rfl AA.e) fun BQ AV => ?_; clear AA BP
   refine e_2 (g_6 (a_7 ?_))
   have AB := AV.as [(7, (Value.bool false)), (8, (iv (D : Int))), (6, (iv (A : Int))), (5, v5_), (0, xl), (1, xz)] rfl; clear AV
   refine a_5 (s1 AB (a_1 rfl AB.e) fun BR AC => ?_); clear AB BQ
   refine s1 AC (f_0 rfl AC.e (evc _ _) (by omega) (by omega)) fun BS AD => ?_; clear AC BR
   refine s1 AD (a_0 rfl AD.e) fun Bi Ax => ?_; clear AD BS
   refine e_2 ?_
   exact a_7 ⟨D + 1, ⟨Ax.as _ (by first | (rw [hnx]; done) | (rw [hnx]; rfl)), C, by omega⟩, by omega⟩
  skip
  rw [decide_eq_false AX] at B
  refine b_4 B rfl (g_3 (b_1 (b_1 (f_1 (a_7 (m2 (s1 B (a_1 rfl B.e) fun Af F => ?_))))))); clear B Ad
  refine n1 ?_
  rcases Bool.eq_false_or_eq_true ((woU z A D)) with L | L
  ·skip
   rw [L] at F
   have hnx := woU_t2 L
   refine b_7 F rfl ?_
   have AE := F.as [(6, (iv (A : Int))), (5, v5_), (0, xl), (1, xz)] rfl; clear F
   refine a_5 (s1 AE (a_1 rfl AE.e) fun BT AF => ?_); clear AE Af
   refine s1 AF (a_1 rfl AF.e) fun BU AG => ?_; clear AF BT
   refine s1 AG (a_1 rfl AG.e) fun BV I => ?_; clear AG BU
   refine s1 I (b_0 rfl u_8 ad_5 I.e (i := A) I.e (C.sk 1 rfl) (by decide) (by omega)) fun Am M => ?_; clear I BV
   refine s1 M (e_7 rfl ad_5 M.e (C.sk 1 rfl) (g_8 (by omega)) rfl (by decide)) fun An N => ?_; clear M Am
   refine s2 N (f_9 C rfl (pv1 N.e) u_8 ad_5 ze_67 (by decide) (cs := [(iv ((l.getD A (0, 0)).1)), (iv ((l.getD A (0, 0)).2))]) (bs_67_1_0iia _ _)) ?_
   rintro Ao _ Bf ⟨Bd, rfl, c⟩ J; clear N C An
   refine s2 J (j_9 c rfl u_8 el_67 J.e J.e (i := 1) rfl (SlAt.of_blk (c.bk 0 rfl) rfl (Nat.le_of_ble_eq_true rfl)) rfl (by simp only [maxLen]; omega) (by omega)) ?_
   intro Ap AY Bg AK O
   have AL := AK.f_6 (i := 1) rfl (n' := ((d_5 l z A) ++ [((l.getD A (0, 0)).1, (l.getD A (0, 0)).2)]).length) (xs' := (pairs ((d_5 l z A) ++ [((l.getD A (0, 0)).1, (l.getD A (0, 0)).2)]))) (by simp) (by simp [pairs]); clear AK J c Ao
   refine s1 O (a_0 rfl O.e) fun Aq AI => ?_; clear O Ap
   refine e_2 (g_6 (a_7 ?_))
   have P := AI.as [(5, AY), (6, (iv (A : Int))), (0, xl), (1, xz)] rfl; clear AI
   refine a_5 (s1 P (a_1 rfl P.e) fun Ar Q => ?_); clear P Aq
   refine s1 Q (f_0 rfl Q.e (evc _ _) (by omega) (by omega)) fun As R => ?_; clear Q Ar
   refine s1 R (a_0 rfl R.e) fun BX AZ => ?_; clear R As
   refine e_2 ?_
   have Ab := AL.gkp (gpc 1 (gpc 2 (gpc 3 gpn))); clear AL
   exact a_7 ⟨A + 1, ⟨AY, AZ.as _ rfl, (Ab.f_6 (i := 0) rfl (n' := (d_5 l z (A + 1)).length) (xs' := pairs (d_5 l z (A + 1))) (by rw [kep_y (j := D) (by omega) (by assumption)]) (by rw [kep_y (j := D) (by omega) (by assumption)])), by omega⟩, by omega⟩
  skip
  rw [L] at F
  have hnx := woU_f1 L
  refine b_4 F rfl (c_6 (g_6 (a_7 ?_)))
  have S := F.as [(6, (iv (A : Int))), (5, v5_), (0, xl), (1, xz)] rfl; clear F
  refine a_5 (s1 S (a_1 rfl S.e) fun At T => ?_); clear S Af
  refine s1 T (f_0 rfl T.e (evc _ _) (by omega) (by omega)) fun Au U => ?_; clear T At
  refine s1 U (a_0 rfl U.e) fun BY Aa => ?_; clear U Au
  refine e_2 ?_
  exact a_7 ⟨A + 1, ⟨v5_, Aa.as _ rfl, (C.f_6 (i := 0) rfl (n' := (d_5 l z (A + 1)).length) (xs' := pairs (d_5 l z (A + 1))) (by rw [kep_n (j := D) (by omega) (by assumption)]) (by rw [kep_n (j := D) (by omega) (by assumption)])), by omega⟩, by omega⟩
 skip
 rw [decide_eq_false AW] at E
 refine b_4 E rfl (g_3 (b_1 (b_1 (f_1 (a_7 (b_5 ?_))))))
 have V := E.as [(5, v5_)] rfl; clear E
 refine a_5 (s1 V (a_1 rfl V.e) fun Av W => ?_); clear V Ac
 refine s1 W (a_0 rfl W.e) fun BZ AJ => ?_; clear W Av
 refine n1 (c_4 (a_9 AJ (.inl rfl) (a_2 AJ rfl (.tmp rfl)) ?_))
 have hz := d.f_6 (i := 0) rfl (n' := (woF l z).length) (xs' := pairs (woF l z)) (by rw [show A = l.length by omega]; rfl) (by rw [show A = l.length by omega]; rfl)
 exact ⟨hz.ext, hz.row_new (i := 0) rfl⟩
end Go.Proofs.Ytohgladndklciaa
