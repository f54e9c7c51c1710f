/-
  Books built in memory: slices of slices, one more; tables and machines as one thing.
  The chapter's book and what it shows; decided by the kernel.
  What the laws ask first: may a book be played; narrower spans. What HardAllows says.
  Values that fit a book: told by all their tests at once.
  The doubtful readings: lists of numbers by size, readings but some, the first list without which the others fit.
  Books and readings that are changed: how their spans differ.
  Books that are copied and changed: the structs in new memory, the inner lists where they were.
-/
import Derived.Test.YtohgladndklciaaBc
import Derived.Test.YtohgladndklciaaEnga
set_option linter.unusedSimpArgs false
set_option linter.unusedVariables false
namespace Go.Hard
open Go.RowKit Go.Eng
section
variable {X : Nat → Prop} {w0 w : World} {L : List Res}
theorem r_6 (h : Sep X w0 w L) (v : Nat → Value) (sz : Nat) (k : Nat → Nat) (c : Nat → List Value) : Sep X w0 w (slsR true 0 v sz k c :: L) :=
  h.push (Ext.refl _ _) (fun i hi => absurd hi (Nat.not_lt_zero _)) (fun b hb => by obtain ⟨i, hi, _⟩ := hb; exact absurd hi (Nat.not_lt_zero _))
theorem m_8 {u : Value} {e sz m n : Nat} {xs : List Value} {v : Nat → Value} {k k' : Nat → Nat} {c c' : Nat → List Value} (h : Sep X w0 w (row u e sz m xs :: slsR true n v sz k c :: L)) (hk : k' n = m) (hc : c' n = xs) (hold : ∀ i, i < n → k' i = k i ∧ c' i = c i) :
    Sep X w0 w (slsR true (n + 1) (putV n v u) sz k' c' :: L) := by
  have h0 := h.c_0 0 rfl
  have h1 := h.ok 1 _ rfl
  refine h.join (t := slsR true (n + 1) (putV n v u) sz k' c') (fun i hi => ?_) (fun b hb => ?_) (fun _ => ⟨rfl, rfl⟩) (fun _ => trivial)
  · rcases Nat.lt_succ_iff_lt_or_eq.1 hi with hi | rfl
    · rw [z_3 _ _ hi, (hold i hi).1, (hold i hi).2]; exact h1 i hi
    · rw [z_2, hk, hc]; exact SlAt.b_9 h0
  · obtain ⟨i, hi, hb⟩ := hb
    rcases Nat.lt_succ_iff_lt_or_eq.1 hi with hi | rfl
    · rw [z_3 _ _ hi, (hold i hi).2] at hb; exact .inr ⟨i, hi, hb⟩
    · rw [z_2, hc] at hb; exact .inl (v_3 hb)
theorem sep_sls_say {i : Nat} {o : Bool} {sz n n' : Nat} {v v' : Nat → Value} {k k' : Nat → Nat} {c c' : Nat → List Value} (h : Sep X w0 w L) (hi : L[i]? = some (slsR o n v sz k c)) (hn : n = n') (he : ∀ i, i < n → v' i = v i ∧ k' i = k i ∧ c' i = c i) : Sep X w0 w (L.set i (slsR o n' v' sz k' c')) := by
  subst hn
  have h1 := h.ok i _ hi
  refine h.say hi (fun q hq => ?_) (fun b hb => ?_) (fun ho => ho)
  · rw [(he q hq).1, (he q hq).2.1, (he q hq).2.2]; exact h1 q hq
  · obtain ⟨q, hq, hb⟩ := hb
    rw [(he q hq).1, (he q hq).2.2] at hb; exact ⟨q, hq, hb⟩
theorem sep_tabs_join {vt : Value} {lr lb : Nat → Value} {ts : List TabD} (h : Sep X w0 w (row vt 106 5 ts.length (i_5 lr lb ts) :: slsR true ts.length lr 2 (m_4 ts) (m_3 ts) :: slsR true ts.length lb 1 (brkN ts) (brkC ts) :: L)) : Sep X w0 w (d_2 true vt lr lb ts :: L) := by
  have h0 := h.c_0 0 rfl
  have hp := h.pw
  have ap := List.pairwise_cons.1 hp
  -- the row and both together
  refine Sep.of_pw h.ext (fun r hr => ?_) (fun r hr ho b hb => ?_) (List.pairwise_cons.2 ⟨fun r hr => ?_, (List.pairwise_cons.1 (List.pairwise_cons.1 ap.2).2).2⟩)
  · rcases List.mem_cons.1 hr with rfl | hr
    · exact ⟨SlAt.b_9 h0, h.ok 1 _ rfl, h.ok 2 _ rfl⟩
    · exact h.mem (List.mem_cons_of_mem _ (List.mem_cons_of_mem _ (List.mem_cons_of_mem _ hr)))
  · rcases List.mem_cons.1 hr with rfl | hr
    · rcases hb with hb | hb | hb
      · exact h.mine 0 _ rfl rfl b (v_3 hb)
      · exact h.mine 1 _ rfl rfl b hb
      · exact h.mine 2 _ rfl rfl b hb
    · exact h.mineM (List.mem_cons_of_mem _ (List.mem_cons_of_mem _ (List.mem_cons_of_mem _ hr))) ho b hb
  · have a0 := ap.1 r (List.mem_cons_of_mem _ (List.mem_cons_of_mem _ hr))
    have a1 := (List.pairwise_cons.1 ap.2).1 r (List.mem_cons_of_mem _ hr)
    have a2 := (List.pairwise_cons.1 (List.pairwise_cons.1 ap.2).2).1 r hr
    refine ⟨fun _ b hb => ?_, fun ho b hb hb' => ?_⟩
    · rcases hb with hb | hb | hb
      · exact a0.1 rfl b (v_3 hb)
      · exact a1.1 rfl b hb
      · exact a2.1 rfl b hb
    · rcases hb' with hb' | hb' | hb'
      · exact a0.2 ho b hb (v_3 hb')
      · exact a1.2 ho b hb hb'
      · exact a2.2 ho b hb hb'
theorem sep_macs_join {vm : Value} {lk : Nat → Value} {ms : List MacD} (h : Sep X w0 w (row vm 103 2 ms.length (k_6 lk ms) :: slsR true ms.length lk 3 (blkN ms) (blkC ms) :: L)) : Sep X w0 w (d_4 true vm lk ms :: L) := by
  have h0 := h.c_0 0 rfl
  refine h.join (t := d_4 true vm lk ms) ⟨SlAt.b_9 h0, h.ok 1 _ rfl⟩ (fun b hb => ?_) (fun _ => ⟨rfl, rfl⟩) (fun _ => trivial)
  rcases hb with hb | hb
  · exact .inl (v_3 hb)
  · exact .inr hb
theorem v_2 {i : Nat} {v : Value} {e sz n : Nat} {xs : List Value} (h : Sep X w0 w L) (hi : L[i]? = some (row v e sz n xs)) : Sep X w0 w (L.set i (sl v sz n xs)) :=
  h.say hi (SlAt.b_9 (h.c_0 i hi)) (fun _ hb => v_3 hb) (fun e => by cases e)
end
theorem s_8 {α : Type} {l : List α} {d : α} {k : Nat} (h : k < l.length) : l.take k ++ [l.getD k d] = l.take (k + 1) := by
  rw [List.take_add_one, List.getElem?_eq_getElem h, List.getD, List.getElem?_eq_getElem h]; rfl
section
variable {ts : List TabD} {ms : List MacD} {k : Nat}
theorem take_at {α : Type} {l : List α} {d : α} {k i : Nat} (hk : i < k) : (l.take k).getD i d = l.getD i d := by
  simp [List.getD, List.getElem?_take, hk]
theorem rowsN_new (h : k < ts.length) : m_4 (ts.take (k + 1)) (ts.take k).length = (ts.getD k tab0).rows.length ∧ m_3 (ts.take (k + 1)) (ts.take k).length = pairs (ts.getD k tab0).rows ∧ brkN (ts.take (k + 1)) (ts.take k).length = (ts.getD k tab0).brk.length ∧ brkC (ts.take (k + 1)) (ts.take k).length = ints (ts.getD k tab0).brk := by
  rw [List.length_take, Nat.min_eq_left (by omega)]
  unfold m_4 m_3 brkN brkC
  rw [take_at (Nat.lt_succ_self k)]
  exact ⟨rfl, rfl, rfl, rfl⟩
theorem rowsN_old (i : Nat) (hi : i < (ts.take k).length) : (m_4 (ts.take (k + 1)) i = m_4 (ts.take k) i ∧ m_3 (ts.take (k + 1)) i = m_3 (ts.take k) i) ∧ brkN (ts.take (k + 1)) i = brkN (ts.take k) i ∧ brkC (ts.take (k + 1)) i = brkC (ts.take k) i := by
  have hk : i < k := by rw [List.length_take] at hi; omega
  unfold m_4 m_3 brkN brkC
  rw [take_at (show i < k + 1 by omega), take_at hk]
  exact ⟨⟨rfl, rfl⟩, rfl, rfl⟩
theorem blkN_new (h : k < ms.length) : blkN (ms.take (k + 1)) (ms.take k).length = (ms.getD k mac0).blocks.length ∧ blkC (ms.take (k + 1)) (ms.take k).length = trips (ms.getD k mac0).blocks := by
  rw [List.length_take, Nat.min_eq_left (by omega)]
  unfold blkN blkC
  rw [take_at (Nat.lt_succ_self k)]
  exact ⟨rfl, rfl⟩
theorem blkN_old (i : Nat) (hi : i < (ms.take k).length) : blkN (ms.take (k + 1)) i = blkN (ms.take k) i ∧ blkC (ms.take (k + 1)) i = blkC (ms.take k) i := by
  have hk : i < k := by rw [List.length_take] at hi; omega
  unfold blkN blkC
  rw [take_at (show i < k + 1 by omega), take_at hk]
  exact ⟨rfl, rfl⟩
theorem take_len1 {α : Type} {l : List α} (h : k < l.length) : (l.take k).length + 1 = (l.take (k + 1)).length := by simp only [List.length_take]; omega
end
end Go.Hard

namespace Go.Proofs.Ytohgladndklciaa
open Go.RowKit Go.Shelf Go.Eng Go.Hard
theorem bd_98_0i_1i (x0_0 : Int) (x1_0 : Int) (w : World) : (Instr.build 98 #[(0, (.int .i64 x0_0)), (1, (.int .i64 x1_0))]).run Try.prog w = .ok (.agg #[(.int .i64 x0_0), (.int .i64 x1_0)]) w := by kernel_rfl
theorem bs_98_1_0iia (x0_0 : Int) (x0_1 : Int) : Instr.fill (fun i => some (i * 2, 2)) ((Array.range (1 * 2)).map ((Value.agg #[(iv 0), (iv 0)]).cells[· % (Value.agg #[(iv 0), (iv 0)]).cells.size]!)) [(0, .agg #[(.int .i64 x0_0), (.int .i64 x0_1)])] = some (([(.int .i64 x0_0), (.int .i64 x0_1)] : List Value).toArray) := by kernel_rfl
theorem list_ok (l : List Int) (xl : Value) (w : World) (hxl : SlAt w xl 1 l.length (ints l)) (hlen : l.length ≤ 1000000) :
  Calls Try.prog 40 #[xl] w (Ret fun v w' => Ext NoB w w' ∧ w'.ownsRow w.heap.size 3 1 v l.length (ints l)) := by
 refine b_4 Try.func40 rfl fun J A => ?_
 replace A : Fr 5 [] [(0, xl)] J := A
 have I : Sep NoB w w [(sl xl 1 l.length (ints l))] := f_4 ⟨rfl, hxl, trivial⟩
 refine m2 (s1 A (a_1 rfl (evc _ _)) fun K C => ?_); clear A J
 refine n4 (s1 C (a_0 rfl C.e) fun L D => ?_); clear C K
 have H := I.t_8 3 1; clear I
 refine s2 D (h_6 H rfl r_8 el_3 (evc _ _) D.e (i := 0) rfl (H.sk 1 rfl) (ints_one _) (by simp only [maxLen]; omega) (by omega)) ?_
 intro M O P F E
 have G := F.f_2 (i := 0) rfl (n' := l.length) (xs' := (ints l)) (by simp) (by simp); clear F D H L
 refine s1 E (a_1 rfl E.e) fun N B => ?_; clear E M
 exact n1 (c_5 (b_0 B (.inl rfl) (a_2 B rfl (.tmp rfl)) (⟨G.ext, G.row_new (i := 0) rfl⟩)))
theorem d_5 (l : List (Int × Int)) (xl : Value) (w : World) (hxl : SlAt w xl 2 l.length (pairs l)) (AK : l.length ≤ 12) :
  Calls Try.prog 26 #[xl] w (Ret fun v w' => Ext NoB w w' ∧ w'.ownsRow w.heap.size 98 2 v l.length (pairs l)) := by
 refine b_4 Try.func26 rfl fun s S => ?_
 replace S : Fr 26 [] [(0, xl)] s := S
 have o : Sep NoB w w [(sl xl 2 l.length (pairs l))] := f_4 ⟨rfl, hxl, trivial⟩
 refine m2 (s1 S (a_1 rfl (evc _ _)) fun a1 h => ?_); clear S s
 refine n4 (s1 h (a_1 rfl (evc _ _)) fun a3 j => ?_); clear h a1
 have p := o.t_8 98 2; clear o
 refine n2 (m2 (s1 j (a_1 rfl (evc _ _)) fun a6 m => ?_)); clear j a3
 refine n1 (d_1 ?_)
 have n := m.as [(4, (iv 0)), (3, (Value.slice none 0 0)), (0, xl)] rfl; clear m
 refine h_9 (G := Nat) (fun (k : Nat) a_ w_ => ∃ v3_ : Value, Fr 26 [] [(4, (iv (k : Int))), (3, v3_), (0, xl)] a_ ∧ Sep NoB w w_ [(row v3_ 98 2 ((l.take k).length) (pairs (l.take k))), (sl xl 2 l.length (pairs l))] ∧ (k ≤ l.length)) (fun k => l.length - k) 0 ⟨(Value.slice none 0 0), n.as _ rfl, (p.f_2 (i := 0) rfl (by rfl) (by rfl)), by omega⟩ ?_
 clear n p a6
 rintro k a9 AN ⟨v3_, H, F, hkk⟩
 have hlt_ : (l.take k).length ≤ 12 := by simp only [List.length_take]; omega
 refine c_1 (m2 (s1 H (a_0 rfl H.e) fun t I => ?_)); clear H a9
 refine s1 I (a_0 rfl I.e) fun u J => ?_; clear I t
 refine s1 J (d_3 rfl y_5 J.e (F.sk 1 rfl)) fun x D => ?_; clear J u
 refine s1 D (g_7 rfl D.e D.e) fun y C => ?_; clear D x
 refine n1 ?_
 by_cases c : (k : Int) < (l.length : Int)
 ·skip
  rw [decide_eq_true c] at C
  refine c_7 C rfl (d_7 (b_5 (c_1 (d_1 ?_))))
  have V := C.as [(4, (iv (k : Int))), (3, v3_), (0, xl)] rfl; clear C
  refine c_drawV mixed V F 13 [[], [], [], [1, 2], [3], [4], [], [], [6, 7], [8], [9], [5, 10], [11]] [(yw v3_), (yw xl), (yw (iv (k : Int))), (yw (eptr xl (k * 2))), (yw (eptr xl (k * 2 + 0))), (yw (iv ((l.getD k (0, 0)).1))), (yw xl), (yw (iv (k : Int))), (yw (eptr xl (k * 2))), (yw (eptr xl (k * 2 + 1))), (yw (iv ((l.getD k (0, 0)).2))), (yw (Value.agg #[(iv ((l.getD k (0, 0)).1)), (iv ((l.getD k (0, 0)).2))])), (fun (A : Nat → Value) (v_ : Value) (rs_ : List Res) => True ∧ rs_ = [(row v_ 98 2 1 [(iv ((l.getD k (0, 0)).1)), (iv ((l.getD k (0, 0)).2))])])] (by decide +kernel) (by decide +kernel) rfl rfl ⟨dw, dw, dw, dw, dw, dw, dw, dw, dw, dw, dw, dw, (fun _ _ _ _ _ h_ => h_), trivial⟩ ?_ ?_
  ·skip
   refine ⟨fun a w A hA hS hd => gv1 (a_0 rfl hA.e), ?_⟩
   refine ⟨fun a w A hA hS hd => gv1 (a_0 rfl hA.e), ?_⟩
   refine ⟨fun a w A hA hS hd => gv1 (a_0 rfl hA.e), ?_⟩
   refine ⟨fun a w A hA hS hd => gv1 (b_6 rfl y_5 ty_67 (gu hd 1) (i := k) (gu hd 2) (hS.sk 1 rfl) (by decide) (by omega)), ?_⟩
   refine ⟨fun a w A hA hS hd => gv1 (d_0 rfl fd_67_0 (gu hd 3) (hS.sk 1 rfl) (by rw [((hS.sk 1 rfl)).1]; omega)), ?_⟩
   refine ⟨fun a w A hA hS hd => gv1 (c_6 rfl ty_3 (gu hd 4) (hS.sk 1 rfl) (g_8 (by omega))), ?_⟩
   refine ⟨fun a w A hA hS hd => gv1 (a_0 rfl hA.e), ?_⟩
   refine ⟨fun a w A hA hS hd => gv1 (a_0 rfl hA.e), ?_⟩
   refine ⟨fun a w A hA hS hd => gv1 (b_6 rfl y_5 ty_67 (gu hd 6) (i := k) (gu hd 7) (hS.sk 1 rfl) (by decide) (by omega)), ?_⟩
   refine ⟨fun a w A hA hS hd => gv1 (d_0 rfl fd_67_1 (gu hd 8) (hS.sk 1 rfl) (by rw [((hS.sk 1 rfl)).1]; omega)), ?_⟩
   refine ⟨fun a w A hA hS hd => gv1 (c_6 rfl ty_3 (gu hd 9) (hS.sk 1 rfl) (i_8 (by omega))), ?_⟩
   refine ⟨fun a w A hA hS hd => gv1 (e_5 rfl (pv2 (gu hd 5) (gu hd 10)) (bd_98_0i_1i _ _)), ?_⟩
   refine ⟨fun a w A hA hS hd => d_9 rfl (vblt rfl (pv1 (gu hd 11)) un_53 ty_98 ze_98 (by decide) (cs := [(iv ((l.getD k (0, 0)).1)), (iv ((l.getD k (0, 0)).2))]) (bs_98_1_0iia _ _) rfl (by decide) (fun _ => And.intro trivial rfl)), ?_⟩
   trivial
  intro g AF A rsf29 W B Q; clear V F
  obtain ⟨U, f⟩ := B 12 (by decide)
  obtain ⟨d, T⟩ := f
  have R : Sep NoB w AF [(row (A 12) 98 2 1 [(iv ((l.getD k (0, 0)).1)), (iv ((l.getD k (0, 0)).2))]), (row v3_ 98 2 ((l.take k).length) (pairs (l.take k))), (sl xl 2 l.length (pairs l))] := by rw [show catR rsf29 0 13 = ([(row (A 12) 98 2 1 [(iv ((l.getD k (0, 0)).1)), (iv ((l.getD k (0, 0)).2))])] : List Res) by (try simp only [catR, gr (B 0 (by decide)), gr (B 1 (by decide)), gr (B 2 (by decide)), gr (B 3 (by decide)), gr (B 4 (by decide)), gr (B 5 (by decide)), gr (B 6 (by decide)), gr (B 7 (by decide)), gr (B 8 (by decide)), gr (B 9 (by decide)), gr (B 10 (by decide)), gr (B 11 (by decide)), T]); (try rfl)] at Q; exact Q
  have X := W.add (gs (B 0 (by decide))); clear W
  have E : Fr 26 [] [(23, (A 12)), (11, v3_), (4, (iv (k : Int))), (3, v3_), (0, xl)] g := X.add (i_0 U rfl); clear X
  clear B Q U
  clear T
  clear d
  refine s2 E (h_6 R rfl un_53 el_98 E.e E.e (i := 1) rfl (SlAt.b_9 (R.c_0 0 rfl)) rfl (by simp only [maxLen]; omega) (by omega)) ?_
  intro z AE AO Z K
  have b := Z.f_2 (i := 1) rfl (n' := ((l.take k) ++ [l.getD k (0, 0)]).length) (xs' := (pairs ((l.take k) ++ [l.getD k (0, 0)]))) (by simp) (by simp [pairs]); clear Z E R g
  refine s1 K (a_1 rfl K.e) fun AA L => ?_; clear K z
  refine e_6 (h_0 (b_5 (a_5 (s1 L (a_0 rfl L.e) fun AB M => ?_)))); clear L AA
  refine s1 M (h_4 rfl M.e (evc _ _) (by omega) (by omega)) fun AC N => ?_; clear M AB
  refine s1 N (a_1 rfl N.e) fun AL q => ?_; clear N AC
  refine e_6 ?_
  have r := b.gkp (gpc 1 (gpc 2 gpn)); clear b
  exact b_5 ⟨k + 1, ⟨AE, q.as _ rfl, (r.f_2 (i := 0) rfl (by rw [s_8 (by omega)]) (by rw [s_8 (by omega)])), by omega⟩, by omega⟩
 skip
 rw [decide_eq_false c] at C
 refine c_2 C rfl (h_8 (b_7 (b_7 (f_9 (b_5 (c_1 ?_))))))
 have O := C.as [(3, v3_)] rfl; clear C
 refine a_5 (s1 O (a_0 rfl O.e) fun AD P => ?_); clear O y
 refine s1 P (a_1 rfl P.e) fun AM Y => ?_; clear P AD
 refine n1 (c_5 (b_0 Y (.inl rfl) (a_2 Y rfl (.tmp rfl)) ?_))
 have hz := F.f_2 (i := 0) rfl (n' := l.length) (xs' := pairs l) (by rw [show k = l.length by omega, List.take_length]) (by rw [show k = l.length by omega, List.take_length])
 exact ⟨hz.ext, hz.row_new (i := 0) rfl⟩
end Go.Proofs.Ytohgladndklciaa

namespace Go.Proofs.Ytohgladndklciaa
open Go.RowKit Go.Shelf Go.Eng Go.Hard
theorem ze_37 : (Try.prog.info? 37).bind (·.zero) = some (Value.agg #[(iv 0), (Value.slice none 0 0), (Value.slice none 0 0)]) := by kernel_rfl
theorem bd_37_0i (x0_0 : Int) (w : World) : (Instr.build 37 #[(0, (.int .i64 x0_0))]).run Try.prog w = .ok (.agg #[(.int .i64 x0_0), (Value.slice none 0 0), (Value.slice none 0 0)]) w := by kernel_rfl
theorem ze_46 : (Try.prog.info? 46).bind (·.zero) = some (Value.agg #[(iv 0), (iv 0), (Value.slice none 0 0), (Value.slice none 0 0), (iv 0)]) := by kernel_rfl
theorem bd_106_0i_1i_3s_4i (x0_0 : Int) (x1_0 : Int) (x2_0 : Value) (hx2_0 : IsSl x2_0) (x3_0 : Int) (w : World) : (Instr.build 106 #[(0, (.int .i64 x0_0)), (1, (.int .i64 x1_0)), (3, x2_0), (4, (.int .i64 x3_0))]).run Try.prog w = .ok (.agg #[(.int .i64 x0_0), (.int .i64 x1_0), (Value.slice none 0 0), x2_0, (.int .i64 x3_0)]) w := by obtain ⟨Ax2_0, Bx2_0, Cx2_0, rfl⟩ := hx2_0; kernel_rfl
theorem en_40 : ∀ args w, (callFunc 40 args).run Try.prog w = .ok (.enter 40 args) w := enters_of Try.func40 (by kernel_rfl) rfl
theorem o_8 (x0_0 : Int) (x1_0 : Int) (w : World) : (Instr.build 107 #[(0, (.int .i64 x0_0)), (1, (.int .i64 x1_0))]).run Try.prog w = .ok (.agg #[(.int .i64 x0_0), (.int .i64 x1_0)]) w := by kernel_rfl
theorem bs_107_1_0iia (x0_0 : Int) (x0_1 : Int) : Instr.fill (fun i => some (i * 2, 2)) ((Array.range (1 * 2)).map ((Value.agg #[(iv 0), (iv 0)]).cells[· % (Value.agg #[(iv 0), (iv 0)]).cells.size]!)) [(0, .agg #[(.int .i64 x0_0), (.int .i64 x0_1)])] = some (([(.int .i64 x0_0), (.int .i64 x0_1)] : List Value).toArray) := by kernel_rfl
theorem el_107 : elK Try.prog 107 = some ((Value.agg #[(iv 0), (iv 0)]), 2, 16) := by kernel_rfl
theorem bd_103_0i (x0_0 : Int) (w : World) : (Instr.build 103 #[(0, (.int .i64 x0_0))]).run Try.prog w = .ok (.agg #[(.int .i64 x0_0), (Value.slice none 0 0)]) w := by kernel_rfl
theorem r_9 (x0_0 : Int) (x0_1 : Int) (x1_0 : Int) (w : World) : (Instr.build 100 #[(0, .agg #[(.int .i64 x0_0), (.int .i64 x0_1)]), (1, (.int .i64 x1_0))]).run Try.prog w = .ok (.agg #[(.int .i64 x0_0), (.int .i64 x0_1), (.int .i64 x1_0)]) w := by kernel_rfl
theorem en_20 : ∀ args w, (callFunc 20 args).run Try.prog w = .ok (.enter 20 args) w := enters_of Try.func20 (by kernel_rfl) rfl
theorem bs_100_1_0iiia (x0_0 : Int) (x0_1 : Int) (x0_2 : Int) : Instr.fill (fun i => some (i * 3, 3)) ((Array.range (1 * 3)).map ((Value.agg #[(iv 0), (iv 0), (iv 0)]).cells[· % (Value.agg #[(iv 0), (iv 0), (iv 0)]).cells.size]!)) [(0, .agg #[(.int .i64 x0_0), (.int .i64 x0_1), (.int .i64 x0_2)])] = some (([(.int .i64 x0_0), (.int .i64 x0_1), (.int .i64 x0_2)] : List Value).toArray) := by kernel_rfl
theorem el_100 : elK Try.prog 100 = some ((Value.agg #[(iv 0), (iv 0), (iv 0)]), 3, 24) := by kernel_rfl
theorem bs_103_1_0iva (x0_0 : Int) (x0_1 : Value) : Instr.fill (fun i => some (i * 2, 2)) ((Array.range (1 * 2)).map ((Value.agg #[(iv 0), (Value.slice none 0 0)]).cells[· % (Value.agg #[(iv 0), (Value.slice none 0 0)]).cells.size]!)) [(0, .agg #[(.int .i64 x0_0), x0_1])] = some (([(.int .i64 x0_0), x0_1] : List Value).toArray) := by kernel_rfl
theorem el_103 : elK Try.prog 103 = some ((Value.agg #[(iv 0), (Value.slice none 0 0)]), 2, 32) := by kernel_rfl
set_option maxHeartbeats 4000000 in
theorem g_2 (b : h_3) (vt vm : Value) (lr lb lk : Nat → Value) (w : World) (hT : l_1 w vt lr lb b.tabs) (hM : n_0 w vm lk b.macs) (hth : p_6 b) :
  Calls Try.prog 19 #[(Value.agg #[(iv b.scales), vt, vm])] w (Ret fun v w' => ∃ vt' vm' lr' lb' lk', v = .agg #[.int .i64 b.scales, vt', vm'] ∧ Sep NoB w w' [d_2 true vt' lr' lb' b.tabs, d_4 true vm' lk' b.macs]) := by
 refine b_4 Try.func19 rfl fun a0 A8 => ?_
 replace A8 : Fr 116 [] [(0, (Value.agg #[(iv b.scales), vt, vm]))] a0 := A8
 have htl9 := hth.tl; have hml9 := hth.ml
 have C4 : Sep NoB w w [(d_2 false vt lr lb b.tabs), (d_4 false vm lk b.macs)] := f_4 ⟨rfl, hT, rfl, hM, trivial⟩
 refine m2 (s2 A8 (f_5 C4 rfl A8.e (cs := [(iv b.scales), vt, vm]) rfl) ?_)
 rintro a1 _ w3 ⟨I, rfl, C5⟩ C3; clear A8 C4 a0
 refine s2 C3 (e_4 C5 rfl ze_37 (cs := [(iv 0), (Value.slice none 0 0), (Value.slice none 0 0)]) rfl) ?_
 rintro a6 _ w8 ⟨H, rfl, BM⟩ CV; clear C3 C5 a1
 refine n4 (s1 CV (a_3 rfl fd_25_0 CV.e) fun D6 A9 => ?_); clear CV a6
 refine s1 A9 (a_4 rfl ty_3 A9.e (BM.bk 1 rfl) rfl) fun D7 BA => ?_; clear A9 D6
 refine s1 BA (e_5 rfl (pv1 BA.e) (bd_37_0i _)) fun D8 CM => ?_; clear BA D7
 refine s2 CM (e_4 BM rfl ze_37 (cs := [(iv 0), (Value.slice none 0 0), (Value.slice none 0 0)]) rfl) ?_
 rintro D9 _ Eu ⟨B, rfl, Cb⟩ AO; clear CM BM D8
 refine s7 AO (c_4 Cb rfl aa_3 AO.e AO.e (i := 0) rfl (vs := [(iv b.scales), (Value.slice none 0 0), (Value.slice none 0 0)]) rfl rfl (i_1 rfl (i_1 rfl (i_1 rfl q_6))) (Nat.le_of_ble_eq_true rfl)) ?_
 intro _ EV Cc CN; clear AO
 have Cd : Sep NoB w EV [(blk B 37 [(iv b.scales), (Value.slice none 0 0), (Value.slice none 0 0)]), (blk H 37 [(iv 0), (Value.slice none 0 0), (Value.slice none 0 0)]), (blk I 25 [(iv b.scales), vt, vm]), (d_2 false vt lr lb b.tabs), (d_4 false vm lk b.macs)] := Cc; clear Cc Cb
 refine n2 (m2 (s1 CN (a_1 rfl (evc _ _)) fun EA CO => ?_)); clear CN D9
 refine n1 (d_1 ?_)
 have Ce := r_6 (r_6 (Cd.t_8 106 5) (fun _ => Value.slice none 0 0) 1 (brkN (b.tabs.take 0)) (brkC (b.tabs.take 0))) (fun _ => Value.slice none 0 0) 2 (m_4 (b.tabs.take 0)) (m_3 (b.tabs.take 0)); clear Cd
 have CP := CO.as [(4, (iv 0)), (3, (bptr B 0)), (2, (bptr H 0)), (1, (bptr I 0))] rfl; clear CO
 refine h_9 (G := Nat) (fun (k : Nat) a_ w_ => ∃ vt_ : Value, ∃ lr_ : Nat → Value, ∃ lb_ : Nat → Value, Fr 116 [] [(4, (iv (k : Int))), (3, (bptr B 0)), (2, (bptr H 0)), (1, (bptr I 0))] a_ ∧ Sep NoB w w_ [(slsR true ((b.tabs.take k).length) lr_ 2 (m_4 (b.tabs.take k)) (m_3 (b.tabs.take k))), (slsR true ((b.tabs.take k).length) lb_ 1 (brkN (b.tabs.take k)) (brkC (b.tabs.take k))), (row vt_ 106 5 ((b.tabs.take k).length) (i_5 lr_ lb_ (b.tabs.take k))), (blk B 37 [(iv b.scales), vt_, (Value.slice none 0 0)]), (blk H 37 [(iv 0), (Value.slice none 0 0), (Value.slice none 0 0)]), (blk I 25 [(iv b.scales), vt, vm]), (d_2 false vt lr lb b.tabs), (d_4 false vm lk b.macs)] ∧ (k ≤ b.tabs.length)) (fun k => b.tabs.length - k) 0 ⟨(Value.slice none 0 0), (fun _ => Value.slice none 0 0), (fun _ => Value.slice none 0 0), CP.as _ rfl, (Ce.f_2 (i := 2) rfl (by rfl) (by rfl)), by omega⟩ ?_
 clear CP Ce EA
 rintro k EB Ev ⟨vt_, lr_, lb_, BB, S, hk⟩
 have htk : (b.tabs.take k).length = k := by rw [List.length_take]; omega
 refine c_1 (m2 (s1 BB (a_0 rfl BB.e) fun EC BC => ?_)); clear BB EB
 refine s1 BC (a_3 rfl m_9 BC.e) fun ED BD => ?_; clear BC EC
 refine s1 BD (a_4 rfl x_4 BD.e (S.bk 5 rfl) rfl) fun EE BE => ?_; clear BD ED
 refine s1 BE (d_3 rfl t_9 BE.e (b_1 (S.ok 6 _ rfl)).tabs) fun EF Ap => ?_; clear BE EE
 refine s1 Ap (g_7 rfl Ap.e Ap.e) fun C1 R => ?_; clear Ap EF
 refine n1 ?_
 by_cases Ck : (k : Int) < (b.tabs.length : Int)
 ·skip
  rw [decide_eq_true Ck] at R
  have htkk := hth.tab k
  refine c_7 R rfl (d_7 (b_5 (c_1 (d_1 (m2 (s1 R (a_3 rfl m_9 R.e) fun EG BF => ?_)))))); clear R C1
  refine s1 BF (a_4 rfl x_4 BF.e (S.bk 5 rfl) rfl) fun EH BG => ?_; clear BF EG
  refine s1 BG (a_0 rfl BG.e) fun EI Aq => ?_; clear BG EH
  refine s1 Aq (b_6 rfl t_9 ac_3 Aq.e (i := k) Aq.e (b_1 (S.ok 6 _ rfl)).tabs (by decide) (by omega)) fun EJ BH => ?_; clear Aq EI
  refine s1 BH (f_0 rfl ac_3 BH.e (b_1 (S.ok 6 _ rfl)).tabs (z_6 (by omega)) rfl (by decide)) fun EK CQ => ?_; clear BH EJ
  refine s2 CQ (e_4 S rfl ze_46 (cs := [(iv 0), (iv 0), (Value.slice none 0 0), (Value.slice none 0 0), (iv 0)]) rfl) ?_
  rintro Er _ Ew ⟨K, rfl, A2⟩ Ar; clear CQ S EK
  refine s7 Ar (c_4 A2 rfl ac_3 Ar.e Ar.e (i := 0) rfl (vs := [(iv ((b.tabs.getD k tab0).frm)), (iv ((b.tabs.getD k tab0).dst)), (lr k), (lb k), (iv ((b.tabs.getD k tab0).err))]) rfl rfl (i_1 rfl (i_1 rfl (i_1 (SlAt.one ((b_1 (A2.ok 7 _ rfl)).row (i := k) (by omega))) (i_1 (SlAt.one ((b_1 (A2.ok 7 _ rfl)).brk (i := k) (by omega))) (i_1 rfl q_6))))) (Nat.le_of_ble_eq_true rfl)) ?_
  intro _ EW Cf CR; clear Ar
  have Cg : Sep NoB w EW [(blk K 46 [(iv ((b.tabs.getD k tab0).frm)), (iv ((b.tabs.getD k tab0).dst)), (lr k), (lb k), (iv ((b.tabs.getD k tab0).err))]), (slsR true ((b.tabs.take k).length) lr_ 2 (m_4 (b.tabs.take k)) (m_3 (b.tabs.take k))), (slsR true ((b.tabs.take k).length) lb_ 1 (brkN (b.tabs.take k)) (brkC (b.tabs.take k))), (row vt_ 106 5 ((b.tabs.take k).length) (i_5 lr_ lb_ (b.tabs.take k))), (blk B 37 [(iv b.scales), vt_, (Value.slice none 0 0)]), (blk H 37 [(iv 0), (Value.slice none 0 0), (Value.slice none 0 0)]), (blk I 25 [(iv b.scales), vt, vm]), (d_2 false vt lr lb b.tabs), (d_4 false vm lk b.macs)] := Cf; clear Cf A2
  refine n2 ?_
  have CS := CR.as [(5, (bptr K 0)), (4, (iv (k : Int))), (3, (bptr B 0)), (2, (bptr H 0)), (1, (bptr I 0))] rfl; clear CR
  have CT := CS.as [(5, (bptr K 0)), (4, (iv (k : Int))), (3, (bptr B 0)), (2, (bptr H 0)), (1, (bptr I 0))] rfl; clear CS
  refine c_drawV mixed CT Cg 11 [[], [0], [], [2], [], [4], [5], [], [7], [1, 3, 6, 8], []] [(yw (bptr K 0)), (yw (iv ((b.tabs.getD k tab0).frm))), (yw (bptr K 1)), (yw (iv ((b.tabs.getD k tab0).dst))), (yw (bptr K 3)), (yw (lb k)), (fun (A : Nat → Value) (v_ : Value) (rs_ : List Res) => True ∧ rs_ = [(row v_ 3 1 ((b.tabs.getD k tab0).brk.length) (ints ((b.tabs.getD k tab0).brk)))]), (yw (bptr K 4)), (yw (iv ((b.tabs.getD k tab0).err))), (fun (A : Nat → Value) (v_ : Value) (rs_ : List Res) => v_ = (Value.agg #[(iv ((b.tabs.getD k tab0).frm)), (iv ((b.tabs.getD k tab0).dst)), (Value.slice none 0 0), (A 6), (iv ((b.tabs.getD k tab0).err))]) ∧ rs_ = []), (fun (A : Nat → Value) (v_ : Value) (rs_ : List Res) => ∃ (b10_ : Nat), v_ = (bptr b10_ 0) ∧ rs_ = [(blk b10_ 106 [(iv 0), (iv 0), (Value.slice none 0 0), (Value.slice none 0 0), (iv 0)])])] (by decide +kernel) (by decide +kernel) rfl rfl ⟨dw, dw, dw, dw, dw, dw, (fun _ _ _ _ _ h_ => h_), dw, dw, (fun _ _ _ _ he_ h_ => by dsimp only at h_ ⊢; rw [← he_ 6 (by decide)]; exact h_), (fun _ _ _ _ _ h_ => h_), trivial⟩ ?_ ?_
  ·skip
   refine ⟨fun a w A hA hS hd => gv1 (a_3 rfl fd_46_0 hA.e), ?_⟩
   refine ⟨fun a w A hA hS hd => gv1 (a_4 rfl ty_3 (gu hd 0) (hS.bk 0 rfl) rfl), ?_⟩
   refine ⟨fun a w A hA hS hd => gv1 (a_3 rfl fd_46_1 hA.e), ?_⟩
   refine ⟨fun a w A hA hS hd => gv1 (a_4 rfl ty_3 (gu hd 2) (hS.bk 0 rfl) rfl), ?_⟩
   refine ⟨fun a w A hA hS hd => gv1 (a_3 rfl aa_7 hA.e), ?_⟩
   refine ⟨fun a w A hA hS hd => gv1 (a_4 rfl ac_8 (gu hd 4) (hS.bk 0 rfl) rfl), ?_⟩
   refine ⟨fun a w A hA hS hd => d_9 rfl (vn (a_6 rfl en_40 (ev1 (gu hd 5)) (list_ok ((b.tabs.getD k tab0).brk) _ _ ((b_1 (hS.ok 7 _ rfl)).brk (i := k) (by omega)) (hth.bl _))) (fun v w' h => ⟨_, And.intro trivial rfl, (Sep.start NoB _).f_7 h.1 h.2, rfl⟩)), ?_⟩
   refine ⟨fun a w A hA hS hd => gv1 (a_3 rfl fd_46_4 hA.e), ?_⟩
   refine ⟨fun a w A hA hS hd => gv1 (a_4 rfl ty_3 (gu hd 7) (hS.bk 0 rfl) rfl), ?_⟩
   refine ⟨fun a w A hA hS hd => ?_, ?_⟩
   ·skip
    obtain ⟨e6, Et, EU, ES⟩ := hd 6 (by decide)
    obtain ⟨Es, ET⟩ := EU; subst ET
    have hp6_0 := ES _ (List.mem_of_getElem? (i := 0) rfl)
    exact gv1 (e_5 rfl (pv4 (gu hd 1) (gu hd 3) (c_8 (i_0 e6 rfl)) (gu hd 8)) (bd_106_0i_1i_3s_4i _ _ _ (SlAt.isSl (SlAt.b_9 hp6_0)) _))
   refine ⟨fun a w A hA hS hd => d_9 rfl (valloc rfl ze_106 (cs := [(iv 0), (iv 0), (Value.slice none 0 0), (Value.slice none 0 0), (iv 0)]) rfl (fun b_ => ⟨b_, rfl, rfl⟩)), ?_⟩
   trivial
  intro C2 EX A rsf72 CU M BN; clear CT Cg
  obtain ⟨Dt, Dv⟩ := M 6 (by decide)
  obtain ⟨Du, Cm⟩ := Dv
  obtain ⟨A3, Cy⟩ := M 10 (by decide)
  obtain ⟨b10_, CI, CD⟩ := Cy
  have BO : Sep NoB w EX [(row (A 6) 3 1 ((b.tabs.getD k tab0).brk.length) (ints ((b.tabs.getD k tab0).brk))), (blk b10_ 106 [(iv 0), (iv 0), (Value.slice none 0 0), (Value.slice none 0 0), (iv 0)]), (blk K 46 [(iv ((b.tabs.getD k tab0).frm)), (iv ((b.tabs.getD k tab0).dst)), (lr k), (lb k), (iv ((b.tabs.getD k tab0).err))]), (slsR true ((b.tabs.take k).length) lr_ 2 (m_4 (b.tabs.take k)) (m_3 (b.tabs.take k))), (slsR true ((b.tabs.take k).length) lb_ 1 (brkN (b.tabs.take k)) (brkC (b.tabs.take k))), (row vt_ 106 5 ((b.tabs.take k).length) (i_5 lr_ lb_ (b.tabs.take k))), (blk B 37 [(iv b.scales), vt_, (Value.slice none 0 0)]), (blk H 37 [(iv 0), (Value.slice none 0 0), (Value.slice none 0 0)]), (blk I 25 [(iv b.scales), vt, vm]), (d_2 false vt lr lb b.tabs), (d_4 false vm lk b.macs)] := by rw [show catR rsf72 0 11 = ([(row (A 6) 3 1 ((b.tabs.getD k tab0).brk.length) (ints ((b.tabs.getD k tab0).brk))), (blk b10_ 106 [(iv 0), (iv 0), (Value.slice none 0 0), (Value.slice none 0 0), (iv 0)])] : List Res) by (try simp only [catR, gr (M 0 (by decide)), gr (M 1 (by decide)), gr (M 2 (by decide)), gr (M 3 (by decide)), gr (M 4 (by decide)), gr (M 5 (by decide)), Cm, gr (M 7 (by decide)), gr (M 8 (by decide)), gr (M 9 (by decide)), CD]); (try rfl)] at BN; exact BN
  have CW := CU.add (gs (M 9 (by decide))); clear CU
  rw [CI] at A3
  have As : Fr 116 [] [(6, (bptr b10_ 0)), (36, (Value.agg #[(iv ((b.tabs.getD k tab0).frm)), (iv ((b.tabs.getD k tab0).dst)), (Value.slice none 0 0), (A 6), (iv ((b.tabs.getD k tab0).err))])), (5, (bptr K 0)), (4, (iv (k : Int))), (3, (bptr B 0)), (2, (bptr H 0)), (1, (bptr I 0))] C2 := CW.add (i_0 A3 rfl); clear CW
  clear M BN Dt A3
  clear Cm
  clear Du
  clear CD
  clear CI
  refine s7 As (c_4 BO rfl n_4 As.e As.e (i := 1) rfl (vs := [(iv ((b.tabs.getD k tab0).frm)), (iv ((b.tabs.getD k tab0).dst)), (Value.slice none 0 0), (A 6), (iv ((b.tabs.getD k tab0).err))]) rfl rfl (i_1 rfl (i_1 rfl (i_1 rfl (i_1 (SlAt.one (SlAt.b_9 (BO.c_0 0 rfl))) (i_1 rfl q_6))))) (Nat.le_of_ble_eq_true rfl)) ?_
  intro _ EY Ch CX; clear As
  have Ci : Sep NoB w EY [(row (A 6) 3 1 ((b.tabs.getD k tab0).brk.length) (ints ((b.tabs.getD k tab0).brk))), (blk b10_ 106 [(iv ((b.tabs.getD k tab0).frm)), (iv ((b.tabs.getD k tab0).dst)), (Value.slice none 0 0), (A 6), (iv ((b.tabs.getD k tab0).err))]), (blk K 46 [(iv ((b.tabs.getD k tab0).frm)), (iv ((b.tabs.getD k tab0).dst)), (lr k), (lb k), (iv ((b.tabs.getD k tab0).err))]), (slsR true ((b.tabs.take k).length) lr_ 2 (m_4 (b.tabs.take k)) (m_3 (b.tabs.take k))), (slsR true ((b.tabs.take k).length) lb_ 1 (brkN (b.tabs.take k)) (brkC (b.tabs.take k))), (row vt_ 106 5 ((b.tabs.take k).length) (i_5 lr_ lb_ (b.tabs.take k))), (blk B 37 [(iv b.scales), vt_, (Value.slice none 0 0)]), (blk H 37 [(iv 0), (Value.slice none 0 0), (Value.slice none 0 0)]), (blk I 25 [(iv b.scales), vt, vm]), (d_2 false vt lr lb b.tabs), (d_4 false vm lk b.macs)] := Ch; clear Ch BO
  refine n2 (m2 (s1 CX (a_1 rfl (evc _ _)) fun EL CY => ?_)); clear CX C2
  refine n1 (d_1 ?_)
  have Cj := Ci.t_8 107 2; clear Ci
  have CZ := CY.as [(7, (iv 0)), (6, (bptr b10_ 0)), (5, (bptr K 0)), (4, (iv (k : Int))), (3, (bptr B 0)), (2, (bptr H 0)), (1, (bptr I 0))] rfl; clear CY
  refine h_9 (G := Nat) (fun (j : Nat) a_ w_ => ∃ vr_ : Value, Fr 116 [] [(7, (iv (j : Int))), (6, (bptr b10_ 0)), (5, (bptr K 0)), (4, (iv (k : Int))), (3, (bptr B 0)), (2, (bptr H 0)), (1, (bptr I 0))] a_ ∧ Sep NoB w w_ [(row vr_ 107 2 (((b.tabs.getD k tab0).rows.take j).length) (pairs ((b.tabs.getD k tab0).rows.take j))), (row (A 6) 3 1 ((b.tabs.getD k tab0).brk.length) (ints ((b.tabs.getD k tab0).brk))), (blk b10_ 106 [(iv ((b.tabs.getD k tab0).frm)), (iv ((b.tabs.getD k tab0).dst)), vr_, (A 6), (iv ((b.tabs.getD k tab0).err))]), (blk K 46 [(iv ((b.tabs.getD k tab0).frm)), (iv ((b.tabs.getD k tab0).dst)), (lr k), (lb k), (iv ((b.tabs.getD k tab0).err))]), (slsR true ((b.tabs.take k).length) lr_ 2 (m_4 (b.tabs.take k)) (m_3 (b.tabs.take k))), (slsR true ((b.tabs.take k).length) lb_ 1 (brkN (b.tabs.take k)) (brkC (b.tabs.take k))), (row vt_ 106 5 ((b.tabs.take k).length) (i_5 lr_ lb_ (b.tabs.take k))), (blk B 37 [(iv b.scales), vt_, (Value.slice none 0 0)]), (blk H 37 [(iv 0), (Value.slice none 0 0), (Value.slice none 0 0)]), (blk I 25 [(iv b.scales), vt, vm]), (d_2 false vt lr lb b.tabs), (d_4 false vm lk b.macs)] ∧ (j ≤ (b.tabs.getD k tab0).rows.length)) (fun j => (b.tabs.getD k tab0).rows.length - j) 0 ⟨(Value.slice none 0 0), CZ.as _ rfl, (Cj.f_2 (i := 0) rfl (by rfl) (by rfl)), (Nat.zero_le _)⟩ ?_
  clear CZ Cj EL
  rintro j EM Ex ⟨vr_, BI, U, hkj⟩
  have hlt_j : ((b.tabs.getD k tab0).rows.take j).length ≤ 12 := by simp only [List.length_take]; omega
  refine c_1 (m2 (s1 BI (a_0 rfl BI.e) fun EN BJ => ?_)); clear BI EM
  refine s1 BJ (a_3 rfl k_4 BJ.e) fun EO BK => ?_; clear BJ EN
  refine s1 BK (a_4 rfl t_1 BK.e (U.bk 3 rfl) rfl) fun EP BL => ?_; clear BK EO
  refine s1 BL (d_3 rfl t_2 BL.e ((b_1 (U.ok 10 _ rfl)).row (i := k) (by omega))) fun EQ At => ?_; clear BL EP
  refine s1 At (g_7 rfl At.e At.e) fun ER T => ?_; clear At EQ
  refine n1 ?_
  by_cases Cl : (j : Int) < ((b.tabs.getD k tab0).rows.length : Int)
  ·skip
   rw [decide_eq_true Cl] at T
   refine c_7 T rfl (d_7 (b_5 (c_1 (d_1 ?_))))
   have Ca := T.as [(7, (iv (j : Int))), (6, (bptr b10_ 0)), (5, (bptr K 0)), (4, (iv (k : Int))), (3, (bptr B 0)), (2, (bptr H 0)), (1, (bptr I 0))] rfl; clear T
   refine c_drawV mixed Ca U 16 [[], [0], [], [2], [], [3, 4], [5], [6], [], [8], [], [9, 10], [11], [12], [7, 13], [14]] [(yw (bptr b10_ 2)), (yw vr_), (yw (bptr K 2)), (yw (lr k)), (yw (iv (j : Int))), (yw (eptr (lr k) (j * 2))), (yw (eptr (lr k) (j * 2 + 0))), (yw (iv ((((b.tabs.getD k tab0).rows).getD j (0, 0)).1))), (yw (bptr K 2)), (yw (lr k)), (yw (iv (j : Int))), (yw (eptr (lr k) (j * 2))), (yw (eptr (lr k) (j * 2 + 1))), (yw (iv ((((b.tabs.getD k tab0).rows).getD j (0, 0)).2))), (yw (Value.agg #[(iv ((((b.tabs.getD k tab0).rows).getD j (0, 0)).1)), (iv ((((b.tabs.getD k tab0).rows).getD j (0, 0)).2))])), (fun (D : Nat → Value) (v_ : Value) (rs_ : List Res) => True ∧ rs_ = [(row v_ 107 2 1 [(iv ((((b.tabs.getD k tab0).rows).getD j (0, 0)).1)), (iv ((((b.tabs.getD k tab0).rows).getD j (0, 0)).2))])])] (by decide +kernel) (by decide +kernel) rfl rfl ⟨dw, dw, dw, dw, dw, dw, dw, dw, dw, dw, dw, dw, dw, dw, dw, (fun _ _ _ _ _ h_ => h_), trivial⟩ ?_ ?_
   ·skip
    refine ⟨fun a w D hA hS hd => gv1 (a_3 rfl k_2 hA.e), ?_⟩
    refine ⟨fun a w D hA hS hd => gv1 (a_4 rfl p_9 (gu hd 0) (hS.bk 2 rfl) rfl), ?_⟩
    refine ⟨fun a w D hA hS hd => gv1 (a_3 rfl k_4 hA.e), ?_⟩
    refine ⟨fun a w D hA hS hd => gv1 (a_4 rfl t_1 (gu hd 2) (hS.bk 3 rfl) rfl), ?_⟩
    refine ⟨fun a w D hA hS hd => gv1 (a_0 rfl hA.e), ?_⟩
    refine ⟨fun a w D hA hS hd => gv1 (b_6 rfl t_2 aa_4 (gu hd 3) (i := j) (gu hd 4) ((b_1 (hS.ok 10 _ rfl)).row (i := k) (by omega)) (by decide) (by omega)), ?_⟩
    refine ⟨fun a w D hA hS hd => gv1 (d_0 rfl aa_8 (gu hd 5) ((b_1 (hS.ok 10 _ rfl)).row (i := k) (by omega)) (by rw [(((b_1 (hS.ok 10 _ rfl)).row (i := k) (by omega))).1]; omega)), ?_⟩
    refine ⟨fun a w D hA hS hd => gv1 (c_6 rfl ty_3 (gu hd 6) ((b_1 (hS.ok 10 _ rfl)).row (i := k) (by omega)) (g_8 (by omega))), ?_⟩
    refine ⟨fun a w D hA hS hd => gv1 (a_3 rfl k_4 hA.e), ?_⟩
    refine ⟨fun a w D hA hS hd => gv1 (a_4 rfl t_1 (gu hd 8) (hS.bk 3 rfl) rfl), ?_⟩
    refine ⟨fun a w D hA hS hd => gv1 (a_0 rfl hA.e), ?_⟩
    refine ⟨fun a w D hA hS hd => gv1 (b_6 rfl t_2 aa_4 (gu hd 9) (i := j) (gu hd 10) ((b_1 (hS.ok 10 _ rfl)).row (i := k) (by omega)) (by decide) (by omega)), ?_⟩
    refine ⟨fun a w D hA hS hd => gv1 (d_0 rfl x_0 (gu hd 11) ((b_1 (hS.ok 10 _ rfl)).row (i := k) (by omega)) (by rw [(((b_1 (hS.ok 10 _ rfl)).row (i := k) (by omega))).1]; omega)), ?_⟩
    refine ⟨fun a w D hA hS hd => gv1 (c_6 rfl ty_3 (gu hd 12) ((b_1 (hS.ok 10 _ rfl)).row (i := k) (by omega)) (i_8 (by omega))), ?_⟩
    refine ⟨fun a w D hA hS hd => gv1 (e_5 rfl (pv2 (gu hd 7) (gu hd 13)) (o_8 _ _)), ?_⟩
    refine ⟨fun a w D hA hS hd => d_9 rfl (vblt rfl (pv1 (gu hd 14)) m_0 j_6 aa_0 (by decide) (cs := [(iv ((((b.tabs.getD k tab0).rows).getD j (0, 0)).1)), (iv ((((b.tabs.getD k tab0).rows).getD j (0, 0)).2))]) (bs_107_1_0iia _ _) rfl (by decide) (fun _ => And.intro trivial rfl)), ?_⟩
    trivial
   intro CJ Dw D rsf106 BP F Au; clear Ca U
   obtain ⟨CG, Cz⟩ := F 15 (by decide)
   obtain ⟨Cw, CE⟩ := Cz
   have Av : Sep NoB w Dw [(row (D 15) 107 2 1 [(iv ((((b.tabs.getD k tab0).rows).getD j (0, 0)).1)), (iv ((((b.tabs.getD k tab0).rows).getD j (0, 0)).2))]), (row vr_ 107 2 (((b.tabs.getD k tab0).rows.take j).length) (pairs ((b.tabs.getD k tab0).rows.take j))), (row (A 6) 3 1 ((b.tabs.getD k tab0).brk.length) (ints ((b.tabs.getD k tab0).brk))), (blk b10_ 106 [(iv ((b.tabs.getD k tab0).frm)), (iv ((b.tabs.getD k tab0).dst)), vr_, (A 6), (iv ((b.tabs.getD k tab0).err))]), (blk K 46 [(iv ((b.tabs.getD k tab0).frm)), (iv ((b.tabs.getD k tab0).dst)), (lr k), (lb k), (iv ((b.tabs.getD k tab0).err))]), (slsR true ((b.tabs.take k).length) lr_ 2 (m_4 (b.tabs.take k)) (m_3 (b.tabs.take k))), (slsR true ((b.tabs.take k).length) lb_ 1 (brkN (b.tabs.take k)) (brkC (b.tabs.take k))), (row vt_ 106 5 ((b.tabs.take k).length) (i_5 lr_ lb_ (b.tabs.take k))), (blk B 37 [(iv b.scales), vt_, (Value.slice none 0 0)]), (blk H 37 [(iv 0), (Value.slice none 0 0), (Value.slice none 0 0)]), (blk I 25 [(iv b.scales), vt, vm]), (d_2 false vt lr lb b.tabs), (d_4 false vm lk b.macs)] := by rw [show catR rsf106 0 16 = ([(row (D 15) 107 2 1 [(iv ((((b.tabs.getD k tab0).rows).getD j (0, 0)).1)), (iv ((((b.tabs.getD k tab0).rows).getD j (0, 0)).2))])] : List Res) by (try simp only [catR, gr (F 0 (by decide)), gr (F 1 (by decide)), gr (F 2 (by decide)), gr (F 3 (by decide)), gr (F 4 (by decide)), gr (F 5 (by decide)), gr (F 6 (by decide)), gr (F 7 (by decide)), gr (F 8 (by decide)), gr (F 9 (by decide)), gr (F 10 (by decide)), gr (F 11 (by decide)), gr (F 12 (by decide)), gr (F 13 (by decide)), gr (F 14 (by decide)), CE]); (try rfl)] at Au; exact Au
   have BQ := BP.add (gs (F 1 (by decide))); clear BP
   have W : Fr 116 [] [(59, (D 15)), (45, vr_), (7, (iv (j : Int))), (6, (bptr b10_ 0)), (5, (bptr K 0)), (4, (iv (k : Int))), (3, (bptr B 0)), (2, (bptr H 0)), (1, (bptr I 0))] CJ := BQ.add (i_0 CG rfl); clear BQ
   clear F Au CG
   clear CE
   clear Cw
   refine s2 W (h_6 Av rfl m_0 el_107 W.e W.e (i := 1) rfl (SlAt.b_9 (Av.c_0 0 rfl)) rfl (by simp only [maxLen]; omega) (by omega)) ?_
   intro C6 A4 Eh Bg AB
   have u := Bg.f_2 (i := 1) rfl (n' := (((b.tabs.getD k tab0).rows.take j) ++ [(b.tabs.getD k tab0).rows.getD j (0, 0)]).length) (xs' := (pairs (((b.tabs.getD k tab0).rows.take j) ++ [(b.tabs.getD k tab0).rows.getD j (0, 0)]))) (by simp) (by simp [pairs]); clear Bg W Av CJ
   refine s1 AB (a_3 rfl k_2 AB.e) fun C7 X => ?_; clear AB C6
   refine s7 X (c_4 u rfl p_9 X.e X.e (i := 3) rfl (vs := [A4]) (k_9 (SlAt.isSl (SlAt.b_9 (u.c_0 1 rfl)))) rfl (i_1 (SlAt.one (SlAt.b_9 (u.c_0 1 rfl))) q_6) (Nat.le_of_ble_eq_true rfl)) ?_
   intro _ Dx Bh AC; clear X
   have Bi : Sep NoB w Dx [(row (D 15) 107 2 1 [(iv ((((b.tabs.getD k tab0).rows).getD j (0, 0)).1)), (iv ((((b.tabs.getD k tab0).rows).getD j (0, 0)).2))]), (row A4 107 2 ((((b.tabs.getD k tab0).rows.take j) ++ [(b.tabs.getD k tab0).rows.getD j (0, 0)]).length) (pairs (((b.tabs.getD k tab0).rows.take j) ++ [(b.tabs.getD k tab0).rows.getD j (0, 0)]))), (row (A 6) 3 1 ((b.tabs.getD k tab0).brk.length) (ints ((b.tabs.getD k tab0).brk))), (blk b10_ 106 [(iv ((b.tabs.getD k tab0).frm)), (iv ((b.tabs.getD k tab0).dst)), A4, (A 6), (iv ((b.tabs.getD k tab0).err))]), (blk K 46 [(iv ((b.tabs.getD k tab0).frm)), (iv ((b.tabs.getD k tab0).dst)), (lr k), (lb k), (iv ((b.tabs.getD k tab0).err))]), (slsR true ((b.tabs.take k).length) lr_ 2 (m_4 (b.tabs.take k)) (m_3 (b.tabs.take k))), (slsR true ((b.tabs.take k).length) lb_ 1 (brkN (b.tabs.take k)) (brkC (b.tabs.take k))), (row vt_ 106 5 ((b.tabs.take k).length) (i_5 lr_ lb_ (b.tabs.take k))), (blk B 37 [(iv b.scales), vt_, (Value.slice none 0 0)]), (blk H 37 [(iv 0), (Value.slice none 0 0), (Value.slice none 0 0)]), (blk I 25 [(iv b.scales), vt, vm]), (d_2 false vt lr lb b.tabs), (d_4 false vm lk b.macs)] := Bh; clear Bh u
   refine e_6 (h_0 (b_5 (a_5 (s1 AC (a_0 rfl AC.e) fun C8 AD => ?_)))); clear AC C7
   refine s1 AD (h_4 rfl AD.e (evc _ _) (by omega) (by omega)) fun C9 AE => ?_; clear AD C8
   refine s1 AE (a_1 rfl AE.e) fun Ea Cn => ?_; clear AE C9
   refine e_6 ?_
   have Cr := Bi.gkp (gpc 1 (gpc 2 (gpc 3 (gpc 4 (gpc 5 (gpc 6 (gpc 7 (gpc 8 (gpc 9 (gpc 10 (gpc 11 (gpc 12 gpn)))))))))))); clear Bi
   exact b_5 ⟨j + 1, ⟨A4, Cn.as _ rfl, (Cr.f_2 (i := 0) rfl (by rw [s_8 (by omega)]) (by rw [s_8 (by omega)])), by omega⟩, by omega⟩
  skip
  rw [decide_eq_false Cl] at T
  refine c_2 T rfl (h_8 (b_7 (b_7 (f_9 (b_5 ?_)))))
  have AF := T.as [(6, (bptr b10_ 0)), (4, (iv (k : Int))), (3, (bptr B 0)), (2, (bptr H 0)), (1, (bptr I 0))] rfl; clear T
  refine a_5 (s1 AF (a_3 rfl y_8 AF.e) fun DA AG => ?_); clear AF ER
  refine s1 AG (a_4 rfl ty_34 AG.e (U.bk 7 rfl) rfl) fun DB AH => ?_; clear AG DA
  refine s1 AH (b_8 rfl n_4 (AH.ev rfl) (U.bk 2 rfl) (l := [(iv ((b.tabs.getD k tab0).frm)), (iv ((b.tabs.getD k tab0).dst)), vr_, (A 6), (iv ((b.tabs.getD k tab0).err))]) rfl rfl) fun DC AI => ?_; clear AH DB
  refine s2 AI (f_1 U rfl (pv1 AI.e) ab_8 n_4 ze_106 (by decide) (cs := [(iv ((b.tabs.getD k tab0).frm)), (iv ((b.tabs.getD k tab0).dst)), vr_, (A 6), (iv ((b.tabs.getD k tab0).err))]) (bs_106_1_0iivvia _ _ _ _ _)) ?_
  rintro DD _ Ei ⟨Dr, rfl, V⟩ Y; clear AI U DC
  refine s2 Y (h_6 V rfl ab_8 el_106 Y.e Y.e (i := 7) rfl (SlAt.of_blk (V.bk 0 rfl) rfl (Nat.le_of_ble_eq_true rfl)) (i_1 rfl (i_1 rfl (i_1 (SlAt.one (SlAt.b_9 (V.c_0 1 rfl))) (i_1 (SlAt.one (SlAt.b_9 (V.c_0 2 rfl))) (i_1 rfl q_6))))) (by simp only [maxLen]; omega) (by omega)) ?_
  intro DE A5 Ej Bj AJ
  have x := Bj.f_2 (i := 7) rfl (n' := ((b.tabs.take k) ++ [(b.tabs.getD k tab0)]).length) (xs' := (i_5 (putV (b.tabs.take k).length lr_ vr_) (putV (b.tabs.take k).length lb_ (A 6)) ((b.tabs.take k) ++ [(b.tabs.getD k tab0)]))) (by simp) (tabs_snoc (b.tabs.getD k tab0) vr_ (A 6)); clear Bj Y V DD
  refine s1 AJ (a_3 rfl y_8 AJ.e) fun DF Z => ?_; clear AJ DE
  refine s7 Z (c_4 x rfl ty_34 Z.e Z.e (i := 8) rfl (vs := [A5]) (k_9 (SlAt.isSl (SlAt.b_9 (x.c_0 7 rfl)))) rfl (i_1 (SlAt.one (SlAt.b_9 (x.c_0 7 rfl))) q_6) (Nat.le_of_ble_eq_true rfl)) ?_
  intro _ Dy Bk BR; clear Z
  have Bl : Sep NoB w Dy [(blk Dr 106 [(iv ((b.tabs.getD k tab0).frm)), (iv ((b.tabs.getD k tab0).dst)), vr_, (A 6), (iv ((b.tabs.getD k tab0).err))]), (row vr_ 107 2 (((b.tabs.getD k tab0).rows.take j).length) (pairs ((b.tabs.getD k tab0).rows.take j))), (row (A 6) 3 1 ((b.tabs.getD k tab0).brk.length) (ints ((b.tabs.getD k tab0).brk))), (blk b10_ 106 [(iv ((b.tabs.getD k tab0).frm)), (iv ((b.tabs.getD k tab0).dst)), vr_, (A 6), (iv ((b.tabs.getD k tab0).err))]), (blk K 46 [(iv ((b.tabs.getD k tab0).frm)), (iv ((b.tabs.getD k tab0).dst)), (lr k), (lb k), (iv ((b.tabs.getD k tab0).err))]), (slsR true ((b.tabs.take k).length) lr_ 2 (m_4 (b.tabs.take k)) (m_3 (b.tabs.take k))), (slsR true ((b.tabs.take k).length) lb_ 1 (brkN (b.tabs.take k)) (brkC (b.tabs.take k))), (row A5 106 5 (((b.tabs.take k) ++ [(b.tabs.getD k tab0)]).length) (i_5 (putV (b.tabs.take k).length lr_ vr_) (putV (b.tabs.take k).length lb_ (A 6)) ((b.tabs.take k) ++ [(b.tabs.getD k tab0)]))), (blk B 37 [(iv b.scales), A5, (Value.slice none 0 0)]), (blk H 37 [(iv 0), (Value.slice none 0 0), (Value.slice none 0 0)]), (blk I 25 [(iv b.scales), vt, vm]), (d_2 false vt lr lb b.tabs), (d_4 false vm lk b.macs)] := Bk; clear Bk x
  refine e_6 (h_0 (b_5 ?_))
  have AK := BR.as [(4, (iv (k : Int))), (3, (bptr B 0)), (2, (bptr H 0)), (1, (bptr I 0))] rfl; clear BR
  refine a_5 (s1 AK (a_0 rfl AK.e) fun DG AL => ?_); clear AK DF
  refine s1 AL (h_4 rfl AL.e (evc _ _) (by omega) (by omega)) fun DH AM => ?_; clear AL DG
  refine s1 AM (a_1 rfl AM.e) fun Eb Co => ?_; clear AM DH
  refine e_6 ?_
  have Bm := Bl.f_2 (i := 1) rfl (n' := (b.tabs.getD k tab0).rows.length) (xs' := pairs (b.tabs.getD k tab0).rows) (by rw [List.take_of_length_le (by omega)]) (by rw [List.take_of_length_le (by omega)]); clear Bl
  have Bn := Bm.gkp (gpc 1 (gpc 5 (gpc 0 (gpc 2 (gpc 3 (gpc 4 (gpc 6 (gpc 7 (gpc 8 (gpc 9 (gpc 10 (gpc 11 (gpc 12 gpn))))))))))))); clear Bm
  have Bo := m_8 (k' := m_4 (b.tabs.take (k + 1))) (c' := m_3 (b.tabs.take (k + 1))) Bn (rowsN_new (by omega)).1 (rowsN_new (by omega)).2.1 (fun i hi => (rowsN_old i hi).1); clear Bn
  have Bp := sep_sls_say (i := 0) (n' := (b.tabs.take (k + 1)).length) (v' := (putV (b.tabs.take k).length lr_ vr_)) (k' := m_4 (b.tabs.take (k + 1))) (c' := m_3 (b.tabs.take (k + 1))) Bo rfl (take_len1 (by omega)) (fun _ _ => ⟨rfl, rfl, rfl⟩); clear Bo
  have Bq := Bp.gkp (gpc 2 (gpc 5 (gpc 0 (gpc 1 (gpc 3 (gpc 4 (gpc 6 (gpc 7 (gpc 8 (gpc 9 (gpc 10 (gpc 11 gpn)))))))))))); clear Bp
  have Br := m_8 (k' := brkN (b.tabs.take (k + 1))) (c' := brkC (b.tabs.take (k + 1))) Bq (rowsN_new (by omega)).2.2.1 (rowsN_new (by omega)).2.2.2 (fun i hi => (rowsN_old i hi).2); clear Bq
  have Bs := sep_sls_say (i := 0) (n' := (b.tabs.take (k + 1)).length) (v' := (putV (b.tabs.take k).length lb_ (A 6))) (k' := brkN (b.tabs.take (k + 1))) (c' := brkC (b.tabs.take (k + 1))) Br rfl (take_len1 (by omega)) (fun _ _ => ⟨rfl, rfl, rfl⟩); clear Br
  have Cs := Bs.gkp (gpc 1 (gpc 0 (gpc 5 (gpc 6 (gpc 7 (gpc 8 (gpc 9 (gpc 10 gpn)))))))); clear Bs
  exact b_5 ⟨k + 1, ⟨A5, (putV (b.tabs.take k).length lr_ vr_), (putV (b.tabs.take k).length lb_ (A 6)), Co.as _ rfl, (Cs.f_2 (i := 2) rfl (by rw [s_8 (by omega)]) (by rw [s_8 (by omega)])), by omega⟩, by omega⟩
 skip
 rw [decide_eq_false Ck] at R
 refine c_2 R rfl (h_8 (b_7 (b_7 (f_9 (b_5 (c_1 (c_1 ?_)))))))
 have BS := R.as [(3, (bptr B 0)), (2, (bptr H 0)), (1, (bptr I 0))] rfl; clear R
 refine a_5 (s1 BS (a_1 rfl (evc _ _)) fun DI BT => ?_); clear BS C1
 refine n1 (d_1 ?_)
 have hkt : k = b.tabs.length := by omega
 have Aw := S.gkp (gpc 2 (gpc 0 (gpc 1 (gpc 3 (gpc 4 (gpc 5 (gpc 6 (gpc 7 gpn)))))))); clear S
 rw [hkt, List.take_length] at Aw
 have Bt := sep_tabs_join Aw; clear Aw
 have Bu := r_6 (Bt.t_8 103 2) (fun _ => Value.slice none 0 0) 3 (blkN (b.macs.take 0)) (blkC (b.macs.take 0)); clear Bt
 have BU := BT.as [(8, (iv 0)), (3, (bptr B 0)), (2, (bptr H 0)), (1, (bptr I 0))] rfl; clear BT
 refine h_9 (G := Nat) (fun (m : Nat) a_ w_ => ∃ vm_ : Value, ∃ lk_ : Nat → Value, Fr 116 [] [(8, (iv (m : Int))), (3, (bptr B 0)), (2, (bptr H 0)), (1, (bptr I 0))] a_ ∧ Sep NoB w w_ [(slsR true ((b.macs.take m).length) lk_ 3 (blkN (b.macs.take m)) (blkC (b.macs.take m))), (row vm_ 103 2 ((b.macs.take m).length) (k_6 lk_ (b.macs.take m))), (d_2 true vt_ lr_ lb_ b.tabs), (blk B 37 [(iv b.scales), vt_, vm_]), (blk H 37 [(iv 0), (Value.slice none 0 0), (Value.slice none 0 0)]), (blk I 25 [(iv b.scales), vt, vm]), (d_2 false vt lr lb b.tabs), (d_4 false vm lk b.macs)] ∧ (m ≤ b.macs.length)) (fun m => b.macs.length - m) 0 ⟨(Value.slice none 0 0), (fun _ => Value.slice none 0 0), BU.as _ rfl, (Bu.f_2 (i := 1) rfl (by rfl) (by rfl)), (Nat.zero_le _)⟩ ?_
 clear BU Bu DI
 rintro m DJ Ek ⟨vm_, lk_, AN, J, hkm⟩
 have hmtk : (b.macs.take m).length = m := by rw [List.length_take]; omega
 refine c_1 (m2 (s1 AN (a_0 rfl AN.e) fun DK AP => ?_)); clear AN DJ
 refine s1 AP (a_3 rfl g_6 AP.e) fun DL AQ => ?_; clear AP DK
 refine s1 AQ (a_4 rfl n_6 AQ.e (J.bk 5 rfl) rfl) fun DM AR => ?_; clear AQ DL
 refine s1 AR (d_3 rfl n_7 AR.e (a_8 (J.ok 7 _ rfl)).macs) fun DN c => ?_; clear AR DM
 refine s1 c (g_7 rfl c.e c.e) fun CK N => ?_; clear c DN
 refine n1 ?_
 by_cases CB : (m : Int) < (b.macs.length : Int)
 ·skip
  rw [decide_eq_true CB] at N
  have hmkk := hth.mac m
  refine c_7 N rfl (d_7 (b_5 (c_1 (d_1 (m2 (s1 N (a_3 rfl g_6 N.e) fun DO AS => ?_)))))); clear N CK
  refine s1 AS (a_4 rfl n_6 AS.e (J.bk 5 rfl) rfl) fun DP AT => ?_; clear AS DO
  refine s1 AT (a_0 rfl AT.e) fun DQ d => ?_; clear AT DP
  refine s1 d (b_6 rfl n_7 r_2 d.e (i := m) d.e (a_8 (J.ok 7 _ rfl)).macs (by decide) (by omega)) fun DR AU => ?_; clear d DQ
  refine s1 AU (f_0 rfl r_2 AU.e (a_8 (J.ok 7 _ rfl)).macs (y_9 (by omega)) rfl (by decide)) fun DS BV => ?_; clear AU DR
  refine s2 BV (e_4 J rfl ze_61 (cs := [(iv 0), (Value.slice none 0 0)]) rfl) ?_
  rintro DT _ El ⟨L, rfl, Ax⟩ f; clear BV J DS
  refine s7 f (c_4 Ax rfl r_2 f.e f.e (i := 0) rfl (vs := [(iv ((b.macs.getD m mac0).scale)), (lk m)]) rfl rfl (i_1 rfl (i_1 (SlAt.one ((a_8 (Ax.ok 8 _ rfl)).blk (i := m) (by omega))) q_6)) (Nat.le_of_ble_eq_true rfl)) ?_
  intro _ Dz Bv BW; clear f
  have Ay : Sep NoB w Dz [(blk L 61 [(iv ((b.macs.getD m mac0).scale)), (lk m)]), (slsR true ((b.macs.take m).length) lk_ 3 (blkN (b.macs.take m)) (blkC (b.macs.take m))), (row vm_ 103 2 ((b.macs.take m).length) (k_6 lk_ (b.macs.take m))), (d_2 true vt_ lr_ lb_ b.tabs), (blk B 37 [(iv b.scales), vt_, vm_]), (blk H 37 [(iv 0), (Value.slice none 0 0), (Value.slice none 0 0)]), (blk I 25 [(iv b.scales), vt, vm]), (d_2 false vt lr lb b.tabs), (d_4 false vm lk b.macs)] := Bv; clear Bv Ax
  refine n2 ?_
  have AV := BW.as [(9, (bptr L 0)), (8, (iv (m : Int))), (3, (bptr B 0)), (2, (bptr H 0)), (1, (bptr I 0))] rfl; clear BW
  refine a_5 (s1 AV (a_3 rfl fd_61_0 AV.e) fun DU AW => ?_); clear AV DT
  refine s1 AW (a_4 rfl ty_3 AW.e (Ay.bk 0 rfl) rfl) fun DV AX => ?_; clear AW DU
  refine s1 AX (e_5 rfl (pv1 AX.e) (bd_103_0i _)) fun DW BX => ?_; clear AX DV
  refine s2 BX (e_4 Ay rfl ze_103 (cs := [(iv 0), (Value.slice none 0 0)]) rfl) ?_
  rintro DX _ Em ⟨O, rfl, Bw⟩ g; clear BX Ay DW
  refine s7 g (c_4 Bw rfl w_1 g.e g.e (i := 0) rfl (vs := [(iv ((b.macs.getD m mac0).scale)), (Value.slice none 0 0)]) rfl rfl (i_1 rfl (i_1 rfl q_6)) (Nat.le_of_ble_eq_true rfl)) ?_
  intro _ D0 Bx BY; clear g
  have By : Sep NoB w D0 [(blk O 103 [(iv ((b.macs.getD m mac0).scale)), (Value.slice none 0 0)]), (blk L 61 [(iv ((b.macs.getD m mac0).scale)), (lk m)]), (slsR true ((b.macs.take m).length) lk_ 3 (blkN (b.macs.take m)) (blkC (b.macs.take m))), (row vm_ 103 2 ((b.macs.take m).length) (k_6 lk_ (b.macs.take m))), (d_2 true vt_ lr_ lb_ b.tabs), (blk B 37 [(iv b.scales), vt_, vm_]), (blk H 37 [(iv 0), (Value.slice none 0 0), (Value.slice none 0 0)]), (blk I 25 [(iv b.scales), vt, vm]), (d_2 false vt lr lb b.tabs), (d_4 false vm lk b.macs)] := Bx; clear Bx Bw
  refine n2 (m2 (s1 BY (a_1 rfl (evc _ _)) fun DY BZ => ?_)); clear BY DX
  refine n1 (d_1 ?_)
  have Bz := By.t_8 100 3; clear By
  have Ba := BZ.as [(11, (iv 0)), (10, (bptr O 0)), (9, (bptr L 0)), (8, (iv (m : Int))), (3, (bptr B 0)), (2, (bptr H 0)), (1, (bptr I 0))] rfl; clear BZ
  refine h_9 (G := Nat) (fun (q : Nat) a_ w_ => ∃ vk_ : Value, Fr 116 [] [(11, (iv (q : Int))), (10, (bptr O 0)), (9, (bptr L 0)), (8, (iv (m : Int))), (3, (bptr B 0)), (2, (bptr H 0)), (1, (bptr I 0))] a_ ∧ Sep NoB w w_ [(row vk_ 100 3 (((b.macs.getD m mac0).blocks.take q).length) (trips ((b.macs.getD m mac0).blocks.take q))), (blk O 103 [(iv ((b.macs.getD m mac0).scale)), vk_]), (blk L 61 [(iv ((b.macs.getD m mac0).scale)), (lk m)]), (slsR true ((b.macs.take m).length) lk_ 3 (blkN (b.macs.take m)) (blkC (b.macs.take m))), (row vm_ 103 2 ((b.macs.take m).length) (k_6 lk_ (b.macs.take m))), (d_2 true vt_ lr_ lb_ b.tabs), (blk B 37 [(iv b.scales), vt_, vm_]), (blk H 37 [(iv 0), (Value.slice none 0 0), (Value.slice none 0 0)]), (blk I 25 [(iv b.scales), vt, vm]), (d_2 false vt lr lb b.tabs), (d_4 false vm lk b.macs)] ∧ (q ≤ (b.macs.getD m mac0).blocks.length)) (fun q => (b.macs.getD m mac0).blocks.length - q) 0 ⟨(Value.slice none 0 0), Ba.as _ rfl, (Bz.f_2 (i := 0) rfl (by rfl) (by rfl)), (Nat.zero_le _)⟩ ?_
  clear Ba Bz DY
  rintro q DZ En ⟨vk_, AY, Q, hkq⟩
  have hlt_q : ((b.macs.getD m mac0).blocks.take q).length ≤ 12 := by simp only [List.length_take]; omega
  refine c_1 (m2 (s1 AY (a_0 rfl AY.e) fun Da AZ => ?_)); clear AY DZ
  refine s1 AZ (a_3 rfl m_2 AZ.e) fun Db Aa => ?_; clear AZ Da
  refine s1 Aa (a_4 rfl w_4 Aa.e (Q.bk 2 rfl) rfl) fun Dc Ab => ?_; clear Aa Db
  refine s1 Ab (d_3 rfl t_4 Ab.e ((a_8 (Q.ok 10 _ rfl)).blk (i := m) (by omega))) fun Dd n => ?_; clear Ab Dc
  refine s1 n (g_7 rfl n.e n.e) fun De P => ?_; clear n Dd
  refine n1 ?_
  by_cases CC : (q : Int) < ((b.macs.getD m mac0).blocks.length : Int)
  ·skip
   rw [decide_eq_true CC] at P
   refine c_7 P rfl (d_7 (b_5 (c_1 (d_1 ?_))))
   have Bb := P.as [(11, (iv (q : Int))), (10, (bptr O 0)), (9, (bptr L 0)), (8, (iv (m : Int))), (3, (bptr B 0)), (2, (bptr H 0)), (1, (bptr I 0))] rfl; clear P
   refine c_drawV mixed Bb Q 17 [[], [0], [], [2], [], [3, 4], [5], [6], [7], [], [9], [], [10, 11], [12], [13], [8, 14], [15]] [(yw (bptr O 1)), (yw vk_), (yw (bptr L 1)), (yw (lk m)), (yw (iv (q : Int))), (yw (eptr (lk m) (q * 3))), (yw (eptr (lk m) (q * 3 + 0))), (yw (Value.agg #[(iv ((((b.macs.getD m mac0).blocks).getD q (0, 0, 0)).1)), (iv ((((b.macs.getD m mac0).blocks).getD q (0, 0, 0)).2.1))])), (yw (Value.agg #[(iv ((((b.macs.getD m mac0).blocks).getD q (0, 0, 0)).1)), (iv ((((b.macs.getD m mac0).blocks).getD q (0, 0, 0)).2.1))])), (yw (bptr L 1)), (yw (lk m)), (yw (iv (q : Int))), (yw (eptr (lk m) (q * 3))), (yw (eptr (lk m) (q * 3 + 2))), (yw (iv ((((b.macs.getD m mac0).blocks).getD q (0, 0, 0)).2.2))), (yw (Value.agg #[(iv ((((b.macs.getD m mac0).blocks).getD q (0, 0, 0)).1)), (iv ((((b.macs.getD m mac0).blocks).getD q (0, 0, 0)).2.1)), (iv ((((b.macs.getD m mac0).blocks).getD q (0, 0, 0)).2.2))])), (fun (C : Nat → Value) (v_ : Value) (rs_ : List Res) => True ∧ rs_ = [(row v_ 100 3 1 [(iv ((((b.macs.getD m mac0).blocks).getD q (0, 0, 0)).1)), (iv ((((b.macs.getD m mac0).blocks).getD q (0, 0, 0)).2.1)), (iv ((((b.macs.getD m mac0).blocks).getD q (0, 0, 0)).2.2))])])] (by decide +kernel) (by decide +kernel) rfl rfl ⟨dw, dw, dw, dw, dw, dw, dw, dw, dw, dw, dw, dw, dw, dw, dw, dw, (fun _ _ _ _ _ h_ => h_), trivial⟩ ?_ ?_
   ·skip
    refine ⟨fun a w C hA hS hd => gv1 (a_3 rfl fd_103_1 hA.e), ?_⟩
    refine ⟨fun a w C hA hS hd => gv1 (a_4 rfl ty_101 (gu hd 0) (hS.bk 1 rfl) rfl), ?_⟩
    refine ⟨fun a w C hA hS hd => gv1 (a_3 rfl m_2 hA.e), ?_⟩
    refine ⟨fun a w C hA hS hd => gv1 (a_4 rfl w_4 (gu hd 2) (hS.bk 2 rfl) rfl), ?_⟩
    refine ⟨fun a w C hA hS hd => gv1 (a_0 rfl hA.e), ?_⟩
    refine ⟨fun a w C hA hS hd => gv1 (b_6 rfl t_4 z_7 (gu hd 3) (i := q) (gu hd 4) ((a_8 (hS.ok 10 _ rfl)).blk (i := m) (by omega)) (by decide) (by omega)), ?_⟩
    refine ⟨fun a w C hA hS hd => gv1 (d_0 rfl fd_63_0 (gu hd 5) ((a_8 (hS.ok 10 _ rfl)).blk (i := m) (by omega)) (by rw [(((a_8 (hS.ok 10 _ rfl)).blk (i := m) (by omega))).1]; omega)), ?_⟩
    refine ⟨fun a w C hA hS hd => gv1 (f_0 rfl ty_27 (gu hd 6) ((a_8 (hS.ok 10 _ rfl)).blk (i := m) (by omega)) (trips_sub0 (by omega)) rfl (by decide)), ?_⟩
    refine ⟨fun a w C hA hS hd => gx1 (a_6 rfl en_20 (ev1 (gu hd 7)) (to_ok _ _ _)), ?_⟩
    refine ⟨fun a w C hA hS hd => gv1 (a_3 rfl m_2 hA.e), ?_⟩
    refine ⟨fun a w C hA hS hd => gv1 (a_4 rfl w_4 (gu hd 9) (hS.bk 2 rfl) rfl), ?_⟩
    refine ⟨fun a w C hA hS hd => gv1 (a_0 rfl hA.e), ?_⟩
    refine ⟨fun a w C hA hS hd => gv1 (b_6 rfl t_4 z_7 (gu hd 10) (i := q) (gu hd 11) ((a_8 (hS.ok 10 _ rfl)).blk (i := m) (by omega)) (by decide) (by omega)), ?_⟩
    refine ⟨fun a w C hA hS hd => gv1 (d_0 rfl fd_63_1 (gu hd 12) ((a_8 (hS.ok 10 _ rfl)).blk (i := m) (by omega)) (by rw [(((a_8 (hS.ok 10 _ rfl)).blk (i := m) (by omega))).1]; omega)), ?_⟩
    refine ⟨fun a w C hA hS hd => gv1 (c_6 rfl ty_3 (gu hd 13) ((a_8 (hS.ok 10 _ rfl)).blk (i := m) (by omega)) (trips_at2 (by omega))), ?_⟩
    refine ⟨fun a w C hA hS hd => gv1 (e_5 rfl (pv2 (gu hd 8) (gu hd 14)) (r_9 _ _ _)), ?_⟩
    refine ⟨fun a w C hA hS hd => d_9 rfl (vblt rfl (pv1 (gu hd 15)) ac_4 ac_2 ze_100 (by decide) (cs := [(iv ((((b.macs.getD m mac0).blocks).getD q (0, 0, 0)).1)), (iv ((((b.macs.getD m mac0).blocks).getD q (0, 0, 0)).2.1)), (iv ((((b.macs.getD m mac0).blocks).getD q (0, 0, 0)).2.2))]) (bs_100_1_0iiia _ _ _) rfl (by decide) (fun _ => And.intro trivial rfl)), ?_⟩
    trivial
   intro CL D1 C rsf252 Bc E Az; clear Bb Q
   obtain ⟨CH, C0⟩ := E 16 (by decide)
   obtain ⟨Cx, CF⟩ := C0
   have A0 : Sep NoB w D1 [(row (C 16) 100 3 1 [(iv ((((b.macs.getD m mac0).blocks).getD q (0, 0, 0)).1)), (iv ((((b.macs.getD m mac0).blocks).getD q (0, 0, 0)).2.1)), (iv ((((b.macs.getD m mac0).blocks).getD q (0, 0, 0)).2.2))]), (row vk_ 100 3 (((b.macs.getD m mac0).blocks.take q).length) (trips ((b.macs.getD m mac0).blocks.take q))), (blk O 103 [(iv ((b.macs.getD m mac0).scale)), vk_]), (blk L 61 [(iv ((b.macs.getD m mac0).scale)), (lk m)]), (slsR true ((b.macs.take m).length) lk_ 3 (blkN (b.macs.take m)) (blkC (b.macs.take m))), (row vm_ 103 2 ((b.macs.take m).length) (k_6 lk_ (b.macs.take m))), (d_2 true vt_ lr_ lb_ b.tabs), (blk B 37 [(iv b.scales), vt_, vm_]), (blk H 37 [(iv 0), (Value.slice none 0 0), (Value.slice none 0 0)]), (blk I 25 [(iv b.scales), vt, vm]), (d_2 false vt lr lb b.tabs), (d_4 false vm lk b.macs)] := by rw [show catR rsf252 0 17 = ([(row (C 16) 100 3 1 [(iv ((((b.macs.getD m mac0).blocks).getD q (0, 0, 0)).1)), (iv ((((b.macs.getD m mac0).blocks).getD q (0, 0, 0)).2.1)), (iv ((((b.macs.getD m mac0).blocks).getD q (0, 0, 0)).2.2))])] : List Res) by (try simp only [catR, gr (E 0 (by decide)), gr (E 1 (by decide)), gr (E 2 (by decide)), gr (E 3 (by decide)), gr (E 4 (by decide)), gr (E 5 (by decide)), gr (E 6 (by decide)), gr (E 7 (by decide)), gr (E 8 (by decide)), gr (E 9 (by decide)), gr (E 10 (by decide)), gr (E 11 (by decide)), gr (E 12 (by decide)), gr (E 13 (by decide)), gr (E 14 (by decide)), gr (E 15 (by decide)), CF]); (try rfl)] at Az; exact Az
   have Bd := Bc.add (gs (E 1 (by decide))); clear Bc
   have o : Fr 116 [] [(106, (C 16)), (91, vk_), (11, (iv (q : Int))), (10, (bptr O 0)), (9, (bptr L 0)), (8, (iv (m : Int))), (3, (bptr B 0)), (2, (bptr H 0)), (1, (bptr I 0))] CL := Bd.add (i_0 CH rfl); clear Bd
   clear E Az CH
   clear CF
   clear Cx
   refine s2 o (h_6 A0 rfl ac_4 el_100 o.e o.e (i := 1) rfl (SlAt.b_9 (A0.c_0 0 rfl)) rfl (by simp only [maxLen]; omega) (by omega)) ?_
   intro Df A6 Eo B0 Ac
   have y := B0.f_2 (i := 1) rfl (n' := (((b.macs.getD m mac0).blocks.take q) ++ [(b.macs.getD m mac0).blocks.getD q (0, 0, 0)]).length) (xs' := (trips (((b.macs.getD m mac0).blocks.take q) ++ [(b.macs.getD m mac0).blocks.getD q (0, 0, 0)]))) (by simp) (by simp [trips]); clear B0 o A0 CL
   refine s1 Ac (a_3 rfl fd_103_1 Ac.e) fun Dg p => ?_; clear Ac Df
   refine s7 p (c_4 y rfl ty_101 p.e p.e (i := 2) rfl (vs := [A6]) (k_9 (SlAt.isSl (SlAt.b_9 (y.c_0 1 rfl)))) rfl (i_1 (SlAt.one (SlAt.b_9 (y.c_0 1 rfl))) q_6) (Nat.le_of_ble_eq_true rfl)) ?_
   intro _ D2 B1 Ad; clear p
   have B2 : Sep NoB w D2 [(row (C 16) 100 3 1 [(iv ((((b.macs.getD m mac0).blocks).getD q (0, 0, 0)).1)), (iv ((((b.macs.getD m mac0).blocks).getD q (0, 0, 0)).2.1)), (iv ((((b.macs.getD m mac0).blocks).getD q (0, 0, 0)).2.2))]), (row A6 100 3 ((((b.macs.getD m mac0).blocks.take q) ++ [(b.macs.getD m mac0).blocks.getD q (0, 0, 0)]).length) (trips (((b.macs.getD m mac0).blocks.take q) ++ [(b.macs.getD m mac0).blocks.getD q (0, 0, 0)]))), (blk O 103 [(iv ((b.macs.getD m mac0).scale)), A6]), (blk L 61 [(iv ((b.macs.getD m mac0).scale)), (lk m)]), (slsR true ((b.macs.take m).length) lk_ 3 (blkN (b.macs.take m)) (blkC (b.macs.take m))), (row vm_ 103 2 ((b.macs.take m).length) (k_6 lk_ (b.macs.take m))), (d_2 true vt_ lr_ lb_ b.tabs), (blk B 37 [(iv b.scales), vt_, vm_]), (blk H 37 [(iv 0), (Value.slice none 0 0), (Value.slice none 0 0)]), (blk I 25 [(iv b.scales), vt, vm]), (d_2 false vt lr lb b.tabs), (d_4 false vm lk b.macs)] := B1; clear B1 y
   refine e_6 (h_0 (b_5 (a_5 (s1 Ad (a_0 rfl Ad.e) fun Dh Ae => ?_)))); clear Ad Dg
   refine s1 Ae (h_4 rfl Ae.e (evc _ _) (by omega) (by omega)) fun Di Af => ?_; clear Ae Dh
   refine s1 Af (a_1 rfl Af.e) fun Ec Cp => ?_; clear Af Di
   refine e_6 ?_
   have Ct := B2.gkp (gpc 1 (gpc 2 (gpc 3 (gpc 4 (gpc 5 (gpc 6 (gpc 7 (gpc 8 (gpc 9 (gpc 10 (gpc 11 gpn))))))))))); clear B2
   exact b_5 ⟨q + 1, ⟨A6, Cp.as _ rfl, (Ct.f_2 (i := 0) rfl (by rw [s_8 (by omega)]) (by rw [s_8 (by omega)])), by omega⟩, by omega⟩
  skip
  rw [decide_eq_false CC] at P
  refine c_2 P rfl (h_8 (b_7 (b_7 (f_9 (b_5 ?_)))))
  have Ag := P.as [(10, (bptr O 0)), (8, (iv (m : Int))), (3, (bptr B 0)), (2, (bptr H 0)), (1, (bptr I 0))] rfl; clear P
  refine a_5 (s1 Ag (a_3 rfl w_9 Ag.e) fun Dj Ah => ?_); clear Ag De
  refine s1 Ah (a_4 rfl ty_35 Ah.e (Q.bk 6 rfl) rfl) fun Dk Ai => ?_; clear Ah Dj
  refine s1 Ai (b_8 rfl w_1 (Ai.ev rfl) (Q.bk 1 rfl) (l := [(iv ((b.macs.getD m mac0).scale)), vk_]) rfl rfl) fun Dl Aj => ?_; clear Ai Dk
  refine s2 Aj (f_1 Q rfl (pv1 Aj.e) ad_3 w_1 ze_103 (by decide) (cs := [(iv ((b.macs.getD m mac0).scale)), vk_]) (bs_103_1_0iva _ _)) ?_
  rintro Dm _ Ep ⟨Ds, rfl, z⟩ r; clear Aj Q Dl
  refine s2 r (h_6 z rfl ad_3 el_103 r.e r.e (i := 5) rfl (SlAt.of_blk (z.bk 0 rfl) rfl (Nat.le_of_ble_eq_true rfl)) (i_1 rfl (i_1 (SlAt.one (SlAt.b_9 (z.c_0 1 rfl))) q_6)) (by simp only [maxLen]; omega) (by omega)) ?_
  intro Dn A7 Eq B3 Ak
  have AA := B3.f_2 (i := 5) rfl (n' := ((b.macs.take m) ++ [(b.macs.getD m mac0)]).length) (xs' := (k_6 (putV (b.macs.take m).length lk_ vk_) ((b.macs.take m) ++ [(b.macs.getD m mac0)]))) (by simp) (macs_snoc (b.macs.getD m mac0) vk_); clear B3 r z Dm
  refine s1 Ak (a_3 rfl w_9 Ak.e) fun Do s => ?_; clear Ak Dn
  refine s7 s (c_4 AA rfl ty_35 s.e s.e (i := 7) rfl (vs := [A7]) (k_9 (SlAt.isSl (SlAt.b_9 (AA.c_0 5 rfl)))) rfl (i_1 (SlAt.one (SlAt.b_9 (AA.c_0 5 rfl))) q_6) (Nat.le_of_ble_eq_true rfl)) ?_
  intro _ D3 B4 Be; clear s
  have B5 : Sep NoB w D3 [(blk Ds 103 [(iv ((b.macs.getD m mac0).scale)), vk_]), (row vk_ 100 3 (((b.macs.getD m mac0).blocks.take q).length) (trips ((b.macs.getD m mac0).blocks.take q))), (blk O 103 [(iv ((b.macs.getD m mac0).scale)), vk_]), (blk L 61 [(iv ((b.macs.getD m mac0).scale)), (lk m)]), (slsR true ((b.macs.take m).length) lk_ 3 (blkN (b.macs.take m)) (blkC (b.macs.take m))), (row A7 103 2 (((b.macs.take m) ++ [(b.macs.getD m mac0)]).length) (k_6 (putV (b.macs.take m).length lk_ vk_) ((b.macs.take m) ++ [(b.macs.getD m mac0)]))), (d_2 true vt_ lr_ lb_ b.tabs), (blk B 37 [(iv b.scales), vt_, A7]), (blk H 37 [(iv 0), (Value.slice none 0 0), (Value.slice none 0 0)]), (blk I 25 [(iv b.scales), vt, vm]), (d_2 false vt lr lb b.tabs), (d_4 false vm lk b.macs)] := B4; clear B4 AA
  refine e_6 (h_0 (b_5 ?_))
  have Al := Be.as [(8, (iv (m : Int))), (3, (bptr B 0)), (2, (bptr H 0)), (1, (bptr I 0))] rfl; clear Be
  refine a_5 (s1 Al (a_0 rfl Al.e) fun Dp Am => ?_); clear Al Do
  refine s1 Am (h_4 rfl Am.e (evc _ _) (by omega) (by omega)) fun Dq An => ?_; clear Am Dp
  refine s1 An (a_1 rfl An.e) fun Ed Cq => ?_; clear An Dq
  refine e_6 ?_
  have B6 := B5.f_2 (i := 1) rfl (n' := (b.macs.getD m mac0).blocks.length) (xs' := trips (b.macs.getD m mac0).blocks) (by rw [List.take_of_length_le (by omega)]) (by rw [List.take_of_length_le (by omega)]); clear B5
  have B7 := B6.gkp (gpc 1 (gpc 4 (gpc 0 (gpc 2 (gpc 3 (gpc 5 (gpc 6 (gpc 7 (gpc 8 (gpc 9 (gpc 10 (gpc 11 gpn)))))))))))); clear B6
  have B8 := m_8 (k' := blkN (b.macs.take (m + 1))) (c' := blkC (b.macs.take (m + 1))) B7 (blkN_new (by omega)).1 (blkN_new (by omega)).2 blkN_old; clear B7
  have B9 := sep_sls_say (i := 0) (n' := (b.macs.take (m + 1)).length) (v' := (putV (b.macs.take m).length lk_ vk_)) (k' := blkN (b.macs.take (m + 1))) (c' := blkC (b.macs.take (m + 1))) B8 rfl (take_len1 (by omega)) (fun _ _ => ⟨rfl, rfl, rfl⟩); clear B8
  have Cu := B9.gkp (gpc 0 (gpc 4 (gpc 5 (gpc 6 (gpc 7 (gpc 8 (gpc 9 (gpc 10 gpn)))))))); clear B9
  exact b_5 ⟨m + 1, ⟨A7, (putV (b.macs.take m).length lk_ vk_), Cq.as _ rfl, (Cu.f_2 (i := 1) rfl (by rw [s_8 (by omega)]) (by rw [s_8 (by omega)])), by omega⟩, by omega⟩
 skip
 rw [decide_eq_false CB] at N
 refine c_2 N rfl (h_8 (b_7 (b_7 (f_9 (b_5 (c_1 ?_))))))
 have Ao := N.as [(3, (bptr B 0)), (2, (bptr H 0))] rfl; clear N
 refine a_5 (s1 Ao (b_8 rfl aa_3 (Ao.ev rfl) (J.bk 3 rfl) (l := [(iv b.scales), vt_, vm_]) rfl rfl) fun Ee t => ?_); clear Ao CK
 refine s7 t (c_4 J rfl aa_3 t.e t.e (i := 4) rfl (vs := [(iv b.scales), vt_, vm_]) rfl rfl (i_1 rfl (i_1 ((b_1 (J.ok 2 _ rfl)).tabs.one) (i_1 (SlAt.one (SlAt.b_9 (J.c_0 1 rfl))) q_6))) (Nat.le_of_ble_eq_true rfl)) ?_
 intro _ D4 CA Bf; clear t
 have A1 : Sep NoB w D4 [(slsR true ((b.macs.take m).length) lk_ 3 (blkN (b.macs.take m)) (blkC (b.macs.take m))), (row vm_ 103 2 ((b.macs.take m).length) (k_6 lk_ (b.macs.take m))), (d_2 true vt_ lr_ lb_ b.tabs), (blk B 37 [(iv b.scales), vt_, vm_]), (blk H 37 [(iv b.scales), vt_, vm_]), (blk I 25 [(iv b.scales), vt, vm]), (d_2 false vt lr lb b.tabs), (d_4 false vm lk b.macs)] := CA; clear CA J
 refine n1 (c_5 (b_0 Bf (.inl rfl) (a_2 Bf rfl (.cellA rfl aa_3 (A1.bk 4 rfl) (l := [(iv b.scales), vt_, vm_]) rfl rfl)) ?_))
 have Cv := A1.gkp (gpc 1 (gpc 0 (gpc 2 gpn))); clear A1
 have hmt : m = b.macs.length := by omega
 have hz := Cv
 rw [hmt, List.take_length] at hz
 exact ⟨_, _, _, _, _, rfl, (sep_macs_join hz).keep [1, 0] (by decide) _ rfl rfl⟩
end Go.Proofs.Ytohgladndklciaa

namespace Go.Hard
def e_1 : h_3 := ⟨3, [⟨0, 1, [(100, 200), (200, 300), (300, 500), (400, 600)], [2], 2⟩, ⟨1, 2, [(250, 90), (350, 50)], [], 0⟩], [⟨0, [(150, 154, 160), (240, 246, 249)]⟩, ⟨1, [(300, 300, 299)]⟩]⟩
open Go.RowKit Go.Eng in
theorem kept_tabsC (a b c d : Value) : i_5 (putV 1 (putV 0 (fun _ => Value.slice none 0 0) a) c) (putV 1 (putV 0 (fun _ => Value.slice none 0 0) b) d) e_1.tabs = [.int .i64 0, .int .i64 1, a, b, .int .i64 2, .int .i64 1, .int .i64 2, c, d, .int .i64 0] := rfl
open Go.RowKit Go.Eng in
theorem kept_macsC (a b : Value) : k_6 (putV 1 (putV 0 (fun _ => Value.slice none 0 0) a) b) e_1.macs = [.int .i64 0, a, .int .i64 1, b] := rfl
theorem kept_thin : p_6 e_1 := (thin_iff (n := 0)).1 (by decide) |>.1
theorem kept_read : o_7 e_1 [(0, 170)] = 0 := by decide
theorem kept_spans : j_0 e_1 [(0, 170)] = some [(161, 164), (259, 266), (83, 87)] := by
  unfold j_0
  rw [if_pos (by decide)]
  show s_9 3 _ (400000 + 1) _ = _
  rw [s_9, if_pos (by decide), if_neg (by decide)]
  show s_9 3 _ (399999 + 1) _ = _
  rw [s_9, if_pos (by decide), if_pos (by decide)]
  decide
end Go.Hard

namespace Go.Proofs.Ytohgladndklciaa
open Go.RowKit Go.Shelf Go.Eng Go.Hard
theorem bs_107_4_0iia_1iia_2iia_3iia (x0_0 : Int) (x0_1 : Int) (x1_0 : Int) (x1_1 : Int) (x2_0 : Int) (x2_1 : Int) (x3_0 : Int) (x3_1 : Int) : Instr.fill (fun i => some (i * 2, 2)) ((Array.range (4 * 2)).map ((Value.agg #[(iv 0), (iv 0)]).cells[· % (Value.agg #[(iv 0), (iv 0)]).cells.size]!)) [(0, .agg #[(.int .i64 x0_0), (.int .i64 x0_1)]), (1, .agg #[(.int .i64 x1_0), (.int .i64 x1_1)]), (2, .agg #[(.int .i64 x2_0), (.int .i64 x2_1)]), (3, .agg #[(.int .i64 x3_0), (.int .i64 x3_1)])] = some (([(.int .i64 x0_0), (.int .i64 x0_1), (.int .i64 x1_0), (.int .i64 x1_1), (.int .i64 x2_0), (.int .i64 x2_1), (.int .i64 x3_0), (.int .i64 x3_1)] : List Value).toArray) := by kernel_rfl
theorem bd_106_0i_1i_2s_3s_4i (x0_0 : Int) (x1_0 : Int) (x2_0 : Value) (hx2_0 : IsSl x2_0) (x3_0 : Value) (hx3_0 : IsSl x3_0) (x4_0 : Int) (w : World) : (Instr.build 106 #[(0, (.int .i64 x0_0)), (1, (.int .i64 x1_0)), (2, x2_0), (3, x3_0), (4, (.int .i64 x4_0))]).run Try.prog w = .ok (.agg #[(.int .i64 x0_0), (.int .i64 x1_0), x2_0, x3_0, (.int .i64 x4_0)]) w := by obtain ⟨Ax2_0, Bx2_0, Cx2_0, rfl⟩ := hx2_0; obtain ⟨Ax3_0, Bx3_0, Cx3_0, rfl⟩ := hx3_0; kernel_rfl
theorem bs_107_2_0iia_1iia (x0_0 : Int) (x0_1 : Int) (x1_0 : Int) (x1_1 : Int) : Instr.fill (fun i => some (i * 2, 2)) ((Array.range (2 * 2)).map ((Value.agg #[(iv 0), (iv 0)]).cells[· % (Value.agg #[(iv 0), (iv 0)]).cells.size]!)) [(0, .agg #[(.int .i64 x0_0), (.int .i64 x0_1)]), (1, .agg #[(.int .i64 x1_0), (.int .i64 x1_1)])] = some (([(.int .i64 x0_0), (.int .i64 x0_1), (.int .i64 x1_0), (.int .i64 x1_1)] : List Value).toArray) := by kernel_rfl
theorem bd_106_0i_1i_2s (x0_0 : Int) (x1_0 : Int) (x2_0 : Value) (hx2_0 : IsSl x2_0) (w : World) : (Instr.build 106 #[(0, (.int .i64 x0_0)), (1, (.int .i64 x1_0)), (2, x2_0)]).run Try.prog w = .ok (.agg #[(.int .i64 x0_0), (.int .i64 x1_0), x2_0, (Value.slice none 0 0), (iv 0)]) w := by obtain ⟨Ax2_0, Bx2_0, Cx2_0, rfl⟩ := hx2_0; kernel_rfl
theorem bs_106_2_0iivvia_1iivvia (x0_0 : Int) (x0_1 : Int) (x0_2 : Value) (x0_3 : Value) (x0_4 : Int) (x1_0 : Int) (x1_1 : Int) (x1_2 : Value) (x1_3 : Value) (x1_4 : Int) : Instr.fill (fun i => some (i * 5, 5)) ((Array.range (2 * 5)).map ((Value.agg #[(iv 0), (iv 0), (Value.slice none 0 0), (Value.slice none 0 0), (iv 0)]).cells[· % (Value.agg #[(iv 0), (iv 0), (Value.slice none 0 0), (Value.slice none 0 0), (iv 0)]).cells.size]!)) [(0, .agg #[(.int .i64 x0_0), (.int .i64 x0_1), x0_2, x0_3, (.int .i64 x0_4)]), (1, .agg #[(.int .i64 x1_0), (.int .i64 x1_1), x1_2, x1_3, (.int .i64 x1_4)])] = some (([(.int .i64 x0_0), (.int .i64 x0_1), x0_2, x0_3, (.int .i64 x0_4), (.int .i64 x1_0), (.int .i64 x1_1), x1_2, x1_3, (.int .i64 x1_4)] : List Value).toArray) := by kernel_rfl
theorem en_31 : ∀ args w, (callFunc 31 args).run Try.prog w = .ok (.enter 31 args) w := enters_of Try.func31 (by kernel_rfl) rfl
theorem bs_100_2_0iiia_1iiia (x0_0 : Int) (x0_1 : Int) (x0_2 : Int) (x1_0 : Int) (x1_1 : Int) (x1_2 : Int) : Instr.fill (fun i => some (i * 3, 3)) ((Array.range (2 * 3)).map ((Value.agg #[(iv 0), (iv 0), (iv 0)]).cells[· % (Value.agg #[(iv 0), (iv 0), (iv 0)]).cells.size]!)) [(0, .agg #[(.int .i64 x0_0), (.int .i64 x0_1), (.int .i64 x0_2)]), (1, .agg #[(.int .i64 x1_0), (.int .i64 x1_1), (.int .i64 x1_2)])] = some (([(.int .i64 x0_0), (.int .i64 x0_1), (.int .i64 x0_2), (.int .i64 x1_0), (.int .i64 x1_1), (.int .i64 x1_2)] : List Value).toArray) := by kernel_rfl
theorem bd_103_0i_1s (x0_0 : Int) (x1_0 : Value) (hx1_0 : IsSl x1_0) (w : World) : (Instr.build 103 #[(0, (.int .i64 x0_0)), (1, x1_0)]).run Try.prog w = .ok (.agg #[(.int .i64 x0_0), x1_0]) w := by obtain ⟨Ax1_0, Bx1_0, Cx1_0, rfl⟩ := hx1_0; kernel_rfl
theorem bs_103_2_0iva_1iva (x0_0 : Int) (x0_1 : Value) (x1_0 : Int) (x1_1 : Value) : Instr.fill (fun i => some (i * 2, 2)) ((Array.range (2 * 2)).map ((Value.agg #[(iv 0), (Value.slice none 0 0)]).cells[· % (Value.agg #[(iv 0), (Value.slice none 0 0)]).cells.size]!)) [(0, .agg #[(.int .i64 x0_0), x0_1]), (1, .agg #[(.int .i64 x1_0), x1_1])] = some (([(.int .i64 x0_0), x0_1, (.int .i64 x1_0), x1_1] : List Value).toArray) := by kernel_rfl
theorem bd_37_0i_1s_2s (x0_0 : Int) (x1_0 : Value) (hx1_0 : IsSl x1_0) (x2_0 : Value) (hx2_0 : IsSl x2_0) (w : World) : (Instr.build 37 #[(0, (.int .i64 x0_0)), (1, x1_0), (2, x2_0)]).run Try.prog w = .ok (.agg #[(.int .i64 x0_0), x1_0, x2_0]) w := by obtain ⟨Ax1_0, Bx1_0, Cx1_0, rfl⟩ := hx1_0; obtain ⟨Ax2_0, Bx2_0, Cx2_0, rfl⟩ := hx2_0; kernel_rfl
set_option maxHeartbeats 1000000 in
theorem kept_ok (w : World) :
  Calls Try.prog 46 #[] w (Ret fun v w' => ∃ vt' vm' lr' lb' lk', v = .agg #[.int .i64 e_1.scales, vt', vm'] ∧ Sep NoB w w' [d_2 true vt' lr' lb' e_1.tabs, d_4 true vm' lk' e_1.macs]) := by
 refine b_4 Try.func46 rfl fun a0 X => ?_
 replace X : Fr 25 [] [] a0 := X
 have AE : Sep NoB w w [] := Sep.start _ _
 refine m2 (s2 X (e_4 AE rfl ze_37 (cs := [(iv 0), (Value.slice none 0 0), (Value.slice none 0 0)]) rfl) ?_)
 rintro a1 _ w3 ⟨b4, rfl, AF⟩ AB; clear X AE a0
 refine n4 (s1 AB (e_5 rfl (pv2 (evc _ _) (evc _ _)) (o_8 _ _)) fun a6 AC => ?_); clear AB a1
 refine s1 AC (e_5 rfl (pv2 (evc _ _) (evc _ _)) (o_8 _ _)) fun a8 AD => ?_; clear AC a6
 refine s1 AD (e_5 rfl (pv2 (evc _ _) (evc _ _)) (o_8 _ _)) fun AW Y => ?_; clear AD a8
 refine s1 Y (e_5 rfl (pv2 (evc _ _) (evc _ _)) (o_8 _ _)) fun AX I => ?_; clear Y AW
 refine s2 I (f_1 AF rfl (pv4 I.e I.e I.e I.e) m_0 j_6 aa_0 (by decide) (cs := [(iv 100), (iv 200), (iv 200), (iv 300), (iv 300), (iv 500), (iv 400), (iv 600)]) (bs_107_4_0iia_1iia_2iia_3iia _ _ _ _ _ _ _ _)) ?_
 rintro AY _ BC ⟨C, rfl, m⟩ Z; clear I AF AX
 refine s2 Z (f_1 m rfl (pv1 (evc _ _)) r_8 ty_3 ze_3 (by decide) (cs := [(iv 2)]) (bs_3_1_0i _)) ?_
 rintro AZ _ BD ⟨D, rfl, o⟩ J; clear Z m AY
 refine s1 J (e_5 rfl (pv5 (evc _ _) (evc _ _) J.e J.e (evc _ _)) (bd_106_0i_1i_2s_3s_4i _ _ _ ⟨_, _, _, rfl⟩ _ ⟨_, _, _, rfl⟩ _)) fun Aa a => ?_; clear J AZ
 refine s1 a (e_5 rfl (pv2 (evc _ _) (evc _ _)) (o_8 _ _)) fun Ab b => ?_; clear a Aa
 refine s1 b (e_5 rfl (pv2 (evc _ _) (evc _ _)) (o_8 _ _)) fun Ac K => ?_; clear b Ab
 refine s2 K (f_1 o rfl (pv2 K.e K.e) m_0 j_6 aa_0 (by decide) (cs := [(iv 250), (iv 90), (iv 350), (iv 50)]) (bs_107_2_0iia_1iia _ _ _ _)) ?_
 rintro Ad _ BE ⟨E, rfl, p⟩ Q; clear K o Ac
 refine s1 Q (e_5 rfl (pv3 (evc _ _) (evc _ _) Q.e) (bd_106_0i_1i_2s _ _ _ ⟨_, _, _, rfl⟩)) fun Ae L => ?_; clear Q Ad
 refine s2 L (f_1 p rfl (pv2 L.e L.e) ab_8 n_4 ze_106 (by decide) (cs := [(iv 0), (iv 1), (Value.slice (some ⟨C, 0, none⟩) 4 4), (Value.slice (some ⟨D, 0, none⟩) 1 1), (iv 2), (iv 1), (iv 2), (Value.slice (some ⟨E, 0, none⟩) 2 2), (Value.slice none 0 0), (iv 0)]) (bs_106_2_0iivvia_1iivvia _ _ _ _ _ _ _ _ _ _)) ?_
 rintro Af _ BF ⟨F, rfl, q⟩ c; clear L p Ae
 refine s2 c (a_6 rfl en_31 (ev2 (evc _ _) (evc _ _)) (p_3 _ _ _)) ?_
 rintro Ag _ BG ⟨rfl, h⟩ R; have r := q.step h; clear h c q Af
 refine s1 R (e_5 rfl (pv2 R.e (evc _ _)) (r_9 _ _ _)) fun Ah d => ?_; clear R Ag
 refine s2 d (a_6 rfl en_31 (ev2 (evc _ _) (evc _ _)) (p_3 _ _ _)) ?_
 rintro Ai _ BH ⟨rfl, j⟩ S; have s := r.step j; clear j d r Ah
 refine s1 S (e_5 rfl (pv2 S.e (evc _ _)) (r_9 _ _ _)) fun Aj M => ?_; clear S Ai
 refine s2 M (f_1 s rfl (pv2 M.e M.e) ac_4 ac_2 ze_100 (by decide) (cs := [(iv 150), (iv 154), (iv 160), (iv 240), (iv 246), (iv 249)]) (bs_100_2_0iiia_1iiia _ _ _ _ _ _)) ?_
 rintro Ak _ BI ⟨A, rfl, t⟩ T; clear M s Aj
 refine s1 T (e_5 rfl (pv2 (evc _ _) T.e) (bd_103_0i_1s _ _ ⟨_, _, _, rfl⟩)) fun Al f => ?_; clear T Ak
 refine s2 f (a_6 rfl en_31 (ev2 (evc _ _) (evc _ _)) (p_3 _ _ _)) ?_
 rintro Am _ BJ ⟨rfl, k⟩ U; have u := t.step k; clear k f t Al
 refine s1 U (e_5 rfl (pv2 U.e (evc _ _)) (r_9 _ _ _)) fun An V => ?_; clear U Am
 refine s2 V (f_1 u rfl (pv1 V.e) ac_4 ac_2 ze_100 (by decide) (cs := [(iv 300), (iv 300), (iv 299)]) (bs_100_1_0iiia _ _ _)) ?_
 rintro Ao _ BK ⟨B, rfl, x⟩ W; clear V u An
 refine s1 W (e_5 rfl (pv2 (evc _ _) W.e) (bd_103_0i_1s _ _ ⟨_, _, _, rfl⟩)) fun Ap N => ?_; clear W Ao
 refine s2 N (f_1 x rfl (pv2 N.e N.e) ad_3 w_1 ze_103 (by decide) (cs := [(iv 0), (Value.slice (some ⟨A, 0, none⟩) 2 2), (iv 1), (Value.slice (some ⟨B, 0, none⟩) 1 1)]) (bs_103_2_0iva_1iva _ _ _ _)) ?_
 rintro Aq _ BL ⟨G, rfl, y⟩ O; clear N x Ap
 refine s1 O (e_5 rfl (pv3 (evc _ _) O.e O.e) (bd_37_0i_1s_2s _ _ ⟨_, _, _, rfl⟩ _ ⟨_, _, _, rfl⟩)) fun BB P => ?_; clear O Aq
 refine s7 P (c_4 y rfl aa_3 P.e P.e (i := 7) rfl (vs := [(iv 3), (Value.slice (some ⟨F, 0, none⟩) 2 2), (Value.slice (some ⟨G, 0, none⟩) 2 2)]) rfl rfl (i_1 rfl (i_1 rfl (i_1 rfl q_6))) (Nat.le_of_ble_eq_true rfl)) ?_
 intro _ H z g; clear P
 have AA : Sep NoB w H [(blk G 103 [(iv 0), (Value.slice (some ⟨A, 0, none⟩) 2 2), (iv 1), (Value.slice (some ⟨B, 0, none⟩) 1 1)]), (blk B 100 [(iv 300), (iv 300), (iv 299)]), (blk A 100 [(iv 150), (iv 154), (iv 160), (iv 240), (iv 246), (iv 249)]), (blk F 106 [(iv 0), (iv 1), (Value.slice (some ⟨C, 0, none⟩) 4 4), (Value.slice (some ⟨D, 0, none⟩) 1 1), (iv 2), (iv 1), (iv 2), (Value.slice (some ⟨E, 0, none⟩) 2 2), (Value.slice none 0 0), (iv 0)]), (blk E 107 [(iv 250), (iv 90), (iv 350), (iv 50)]), (blk D 3 [(iv 2)]), (blk C 107 [(iv 100), (iv 200), (iv 200), (iv 300), (iv 300), (iv 500), (iv 400), (iv 600)]), (blk b4 37 [(iv 3), (Value.slice (some ⟨F, 0, none⟩) 2 2), (Value.slice (some ⟨G, 0, none⟩) 2 2)])] := z; clear z y
 refine n1 (c_5 (b_0 g (.inl rfl) (a_2 g rfl (.cellA rfl aa_3 (AA.bk 7 rfl) (l := [(iv 3), (Value.slice (some ⟨F, 0, none⟩) 2 2), (Value.slice (some ⟨G, 0, none⟩) 2 2)]) rfl rfl)) ?_))
 have Ar := AA.o_9 (i := 6) (sz := 2) (n := 4) rfl rfl (by decide)
 have As := Ar.o_9 (i := 5) (sz := 1) (n := 1) rfl rfl (by decide)
 have At := As.o_9 (i := 4) (sz := 2) (n := 2) rfl rfl (by decide)
 have Au := At.o_9 (i := 3) (sz := 5) (n := 2) rfl rfl (by decide)
 have Av := Au.o_9 (i := 2) (sz := 3) (n := 2) rfl rfl (by decide)
 have Aw := Av.o_9 (i := 1) (sz := 3) (n := 1) rfl rfl (by decide)
 have Ax := Aw.o_9 (i := 0) (sz := 2) (n := 2) rfl rfl (by decide)
 have Ay : Sep NoB w H [(row (Value.slice (some ⟨C, 0, none⟩) 4 4) 107 2 4 [(iv 100), (iv 200), (iv 200), (iv 300), (iv 300), (iv 500), (iv 400), (iv 600)]), (row (Value.slice (some ⟨E, 0, none⟩) 2 2) 107 2 2 [(iv 250), (iv 90), (iv 350), (iv 50)]), (row (Value.slice (some ⟨D, 0, none⟩) 1 1) 3 1 1 [(iv 2)]), (row (Value.slice (some ⟨F, 0, none⟩) 2 2) 106 5 2 [(iv 0), (iv 1), (Value.slice (some ⟨C, 0, none⟩) 4 4), (Value.slice (some ⟨D, 0, none⟩) 1 1), (iv 2), (iv 1), (iv 2), (Value.slice (some ⟨E, 0, none⟩) 2 2), (Value.slice none 0 0), (iv 0)]), (row (Value.slice (some ⟨A, 0, none⟩) 2 2) 100 3 2 [(iv 150), (iv 154), (iv 160), (iv 240), (iv 246), (iv 249)]), (row (Value.slice (some ⟨B, 0, none⟩) 1 1) 100 3 1 [(iv 300), (iv 300), (iv 299)]), (row (Value.slice (some ⟨G, 0, none⟩) 2 2) 103 2 2 [(iv 0), (Value.slice (some ⟨A, 0, none⟩) 2 2), (iv 1), (Value.slice (some ⟨B, 0, none⟩) 1 1)])] := Ax.keep [6, 4, 5, 3, 2, 1, 0] (by decide) _ rfl rfl
 have Az : Sep NoB w H [(slsR true 0 (fun _ => Value.slice none 0 0) 2 (m_4 e_1.tabs) (m_3 e_1.tabs)), (row (Value.slice (some ⟨C, 0, none⟩) 4 4) 107 2 4 [(iv 100), (iv 200), (iv 200), (iv 300), (iv 300), (iv 500), (iv 400), (iv 600)]), (row (Value.slice (some ⟨E, 0, none⟩) 2 2) 107 2 2 [(iv 250), (iv 90), (iv 350), (iv 50)]), (row (Value.slice (some ⟨D, 0, none⟩) 1 1) 3 1 1 [(iv 2)]), (row (Value.slice (some ⟨F, 0, none⟩) 2 2) 106 5 2 [(iv 0), (iv 1), (Value.slice (some ⟨C, 0, none⟩) 4 4), (Value.slice (some ⟨D, 0, none⟩) 1 1), (iv 2), (iv 1), (iv 2), (Value.slice (some ⟨E, 0, none⟩) 2 2), (Value.slice none 0 0), (iv 0)]), (row (Value.slice (some ⟨A, 0, none⟩) 2 2) 100 3 2 [(iv 150), (iv 154), (iv 160), (iv 240), (iv 246), (iv 249)]), (row (Value.slice (some ⟨B, 0, none⟩) 1 1) 100 3 1 [(iv 300), (iv 300), (iv 299)]), (row (Value.slice (some ⟨G, 0, none⟩) 2 2) 103 2 2 [(iv 0), (Value.slice (some ⟨A, 0, none⟩) 2 2), (iv 1), (Value.slice (some ⟨B, 0, none⟩) 1 1)])] := r_6 Ay (fun _ => Value.slice none 0 0) 2 (m_4 e_1.tabs) (m_3 e_1.tabs)
 have A0 : Sep NoB w H [(row (Value.slice (some ⟨C, 0, none⟩) 4 4) 107 2 4 [(iv 100), (iv 200), (iv 200), (iv 300), (iv 300), (iv 500), (iv 400), (iv 600)]), (slsR true 0 (fun _ => Value.slice none 0 0) 2 (m_4 e_1.tabs) (m_3 e_1.tabs)), (row (Value.slice (some ⟨E, 0, none⟩) 2 2) 107 2 2 [(iv 250), (iv 90), (iv 350), (iv 50)]), (row (Value.slice (some ⟨D, 0, none⟩) 1 1) 3 1 1 [(iv 2)]), (row (Value.slice (some ⟨F, 0, none⟩) 2 2) 106 5 2 [(iv 0), (iv 1), (Value.slice (some ⟨C, 0, none⟩) 4 4), (Value.slice (some ⟨D, 0, none⟩) 1 1), (iv 2), (iv 1), (iv 2), (Value.slice (some ⟨E, 0, none⟩) 2 2), (Value.slice none 0 0), (iv 0)]), (row (Value.slice (some ⟨A, 0, none⟩) 2 2) 100 3 2 [(iv 150), (iv 154), (iv 160), (iv 240), (iv 246), (iv 249)]), (row (Value.slice (some ⟨B, 0, none⟩) 1 1) 100 3 1 [(iv 300), (iv 300), (iv 299)]), (row (Value.slice (some ⟨G, 0, none⟩) 2 2) 103 2 2 [(iv 0), (Value.slice (some ⟨A, 0, none⟩) 2 2), (iv 1), (Value.slice (some ⟨B, 0, none⟩) 1 1)])] := Az.keep [1, 0, 2, 3, 4, 5, 6, 7] (by decide) _ rfl rfl
 have A1 : Sep NoB w H [(slsR true 1 (putV 0 (fun _ => Value.slice none 0 0) (Value.slice (some ⟨C, 0, none⟩) 4 4)) 2 (m_4 e_1.tabs) (m_3 e_1.tabs)), (row (Value.slice (some ⟨E, 0, none⟩) 2 2) 107 2 2 [(iv 250), (iv 90), (iv 350), (iv 50)]), (row (Value.slice (some ⟨D, 0, none⟩) 1 1) 3 1 1 [(iv 2)]), (row (Value.slice (some ⟨F, 0, none⟩) 2 2) 106 5 2 [(iv 0), (iv 1), (Value.slice (some ⟨C, 0, none⟩) 4 4), (Value.slice (some ⟨D, 0, none⟩) 1 1), (iv 2), (iv 1), (iv 2), (Value.slice (some ⟨E, 0, none⟩) 2 2), (Value.slice none 0 0), (iv 0)]), (row (Value.slice (some ⟨A, 0, none⟩) 2 2) 100 3 2 [(iv 150), (iv 154), (iv 160), (iv 240), (iv 246), (iv 249)]), (row (Value.slice (some ⟨B, 0, none⟩) 1 1) 100 3 1 [(iv 300), (iv 300), (iv 299)]), (row (Value.slice (some ⟨G, 0, none⟩) 2 2) 103 2 2 [(iv 0), (Value.slice (some ⟨A, 0, none⟩) 2 2), (iv 1), (Value.slice (some ⟨B, 0, none⟩) 1 1)])] := m_8 (k' := m_4 e_1.tabs) (c' := m_3 e_1.tabs) A0 rfl rfl (fun i hi => absurd hi (Nat.not_lt_zero _))
 have A2 : Sep NoB w H [(row (Value.slice (some ⟨E, 0, none⟩) 2 2) 107 2 2 [(iv 250), (iv 90), (iv 350), (iv 50)]), (slsR true 1 (putV 0 (fun _ => Value.slice none 0 0) (Value.slice (some ⟨C, 0, none⟩) 4 4)) 2 (m_4 e_1.tabs) (m_3 e_1.tabs)), (row (Value.slice (some ⟨D, 0, none⟩) 1 1) 3 1 1 [(iv 2)]), (row (Value.slice (some ⟨F, 0, none⟩) 2 2) 106 5 2 [(iv 0), (iv 1), (Value.slice (some ⟨C, 0, none⟩) 4 4), (Value.slice (some ⟨D, 0, none⟩) 1 1), (iv 2), (iv 1), (iv 2), (Value.slice (some ⟨E, 0, none⟩) 2 2), (Value.slice none 0 0), (iv 0)]), (row (Value.slice (some ⟨A, 0, none⟩) 2 2) 100 3 2 [(iv 150), (iv 154), (iv 160), (iv 240), (iv 246), (iv 249)]), (row (Value.slice (some ⟨B, 0, none⟩) 1 1) 100 3 1 [(iv 300), (iv 300), (iv 299)]), (row (Value.slice (some ⟨G, 0, none⟩) 2 2) 103 2 2 [(iv 0), (Value.slice (some ⟨A, 0, none⟩) 2 2), (iv 1), (Value.slice (some ⟨B, 0, none⟩) 1 1)])] := A1.keep [1, 0, 2, 3, 4, 5, 6] (by decide) _ rfl rfl
 have A3 : Sep NoB w H [(slsR true 2 (putV 1 (putV 0 (fun _ => Value.slice none 0 0) (Value.slice (some ⟨C, 0, none⟩) 4 4)) (Value.slice (some ⟨E, 0, none⟩) 2 2)) 2 (m_4 e_1.tabs) (m_3 e_1.tabs)), (row (Value.slice (some ⟨D, 0, none⟩) 1 1) 3 1 1 [(iv 2)]), (row (Value.slice (some ⟨F, 0, none⟩) 2 2) 106 5 2 [(iv 0), (iv 1), (Value.slice (some ⟨C, 0, none⟩) 4 4), (Value.slice (some ⟨D, 0, none⟩) 1 1), (iv 2), (iv 1), (iv 2), (Value.slice (some ⟨E, 0, none⟩) 2 2), (Value.slice none 0 0), (iv 0)]), (row (Value.slice (some ⟨A, 0, none⟩) 2 2) 100 3 2 [(iv 150), (iv 154), (iv 160), (iv 240), (iv 246), (iv 249)]), (row (Value.slice (some ⟨B, 0, none⟩) 1 1) 100 3 1 [(iv 300), (iv 300), (iv 299)]), (row (Value.slice (some ⟨G, 0, none⟩) 2 2) 103 2 2 [(iv 0), (Value.slice (some ⟨A, 0, none⟩) 2 2), (iv 1), (Value.slice (some ⟨B, 0, none⟩) 1 1)])] := m_8 (k' := m_4 e_1.tabs) (c' := m_3 e_1.tabs) A2 rfl rfl (fun _ _ => ⟨rfl, rfl⟩)
 have A4 : Sep NoB w H [(row (Value.slice none 0 0) 3 1 0 []), (slsR true 2 (putV 1 (putV 0 (fun _ => Value.slice none 0 0) (Value.slice (some ⟨C, 0, none⟩) 4 4)) (Value.slice (some ⟨E, 0, none⟩) 2 2)) 2 (m_4 e_1.tabs) (m_3 e_1.tabs)), (row (Value.slice (some ⟨D, 0, none⟩) 1 1) 3 1 1 [(iv 2)]), (row (Value.slice (some ⟨F, 0, none⟩) 2 2) 106 5 2 [(iv 0), (iv 1), (Value.slice (some ⟨C, 0, none⟩) 4 4), (Value.slice (some ⟨D, 0, none⟩) 1 1), (iv 2), (iv 1), (iv 2), (Value.slice (some ⟨E, 0, none⟩) 2 2), (Value.slice none 0 0), (iv 0)]), (row (Value.slice (some ⟨A, 0, none⟩) 2 2) 100 3 2 [(iv 150), (iv 154), (iv 160), (iv 240), (iv 246), (iv 249)]), (row (Value.slice (some ⟨B, 0, none⟩) 1 1) 100 3 1 [(iv 300), (iv 300), (iv 299)]), (row (Value.slice (some ⟨G, 0, none⟩) 2 2) 103 2 2 [(iv 0), (Value.slice (some ⟨A, 0, none⟩) 2 2), (iv 1), (Value.slice (some ⟨B, 0, none⟩) 1 1)])] := A3.t_8 3 1
 have A5 : Sep NoB w H [(slsR true 0 (fun _ => Value.slice none 0 0) 1 (brkN e_1.tabs) (brkC e_1.tabs)), (row (Value.slice none 0 0) 3 1 0 []), (slsR true 2 (putV 1 (putV 0 (fun _ => Value.slice none 0 0) (Value.slice (some ⟨C, 0, none⟩) 4 4)) (Value.slice (some ⟨E, 0, none⟩) 2 2)) 2 (m_4 e_1.tabs) (m_3 e_1.tabs)), (row (Value.slice (some ⟨D, 0, none⟩) 1 1) 3 1 1 [(iv 2)]), (row (Value.slice (some ⟨F, 0, none⟩) 2 2) 106 5 2 [(iv 0), (iv 1), (Value.slice (some ⟨C, 0, none⟩) 4 4), (Value.slice (some ⟨D, 0, none⟩) 1 1), (iv 2), (iv 1), (iv 2), (Value.slice (some ⟨E, 0, none⟩) 2 2), (Value.slice none 0 0), (iv 0)]), (row (Value.slice (some ⟨A, 0, none⟩) 2 2) 100 3 2 [(iv 150), (iv 154), (iv 160), (iv 240), (iv 246), (iv 249)]), (row (Value.slice (some ⟨B, 0, none⟩) 1 1) 100 3 1 [(iv 300), (iv 300), (iv 299)]), (row (Value.slice (some ⟨G, 0, none⟩) 2 2) 103 2 2 [(iv 0), (Value.slice (some ⟨A, 0, none⟩) 2 2), (iv 1), (Value.slice (some ⟨B, 0, none⟩) 1 1)])] := r_6 A4 (fun _ => Value.slice none 0 0) 1 (brkN e_1.tabs) (brkC e_1.tabs)
 have A6 : Sep NoB w H [(row (Value.slice (some ⟨D, 0, none⟩) 1 1) 3 1 1 [(iv 2)]), (slsR true 0 (fun _ => Value.slice none 0 0) 1 (brkN e_1.tabs) (brkC e_1.tabs)), (row (Value.slice none 0 0) 3 1 0 []), (slsR true 2 (putV 1 (putV 0 (fun _ => Value.slice none 0 0) (Value.slice (some ⟨C, 0, none⟩) 4 4)) (Value.slice (some ⟨E, 0, none⟩) 2 2)) 2 (m_4 e_1.tabs) (m_3 e_1.tabs)), (row (Value.slice (some ⟨F, 0, none⟩) 2 2) 106 5 2 [(iv 0), (iv 1), (Value.slice (some ⟨C, 0, none⟩) 4 4), (Value.slice (some ⟨D, 0, none⟩) 1 1), (iv 2), (iv 1), (iv 2), (Value.slice (some ⟨E, 0, none⟩) 2 2), (Value.slice none 0 0), (iv 0)]), (row (Value.slice (some ⟨A, 0, none⟩) 2 2) 100 3 2 [(iv 150), (iv 154), (iv 160), (iv 240), (iv 246), (iv 249)]), (row (Value.slice (some ⟨B, 0, none⟩) 1 1) 100 3 1 [(iv 300), (iv 300), (iv 299)]), (row (Value.slice (some ⟨G, 0, none⟩) 2 2) 103 2 2 [(iv 0), (Value.slice (some ⟨A, 0, none⟩) 2 2), (iv 1), (Value.slice (some ⟨B, 0, none⟩) 1 1)])] := A5.keep [3, 0, 1, 2, 4, 5, 6, 7] (by decide) _ rfl rfl
 have AG : Sep NoB w H [(slsR true 1 (putV 0 (fun _ => Value.slice none 0 0) (Value.slice (some ⟨D, 0, none⟩) 1 1)) 1 (brkN e_1.tabs) (brkC e_1.tabs)), (row (Value.slice none 0 0) 3 1 0 []), (slsR true 2 (putV 1 (putV 0 (fun _ => Value.slice none 0 0) (Value.slice (some ⟨C, 0, none⟩) 4 4)) (Value.slice (some ⟨E, 0, none⟩) 2 2)) 2 (m_4 e_1.tabs) (m_3 e_1.tabs)), (row (Value.slice (some ⟨F, 0, none⟩) 2 2) 106 5 2 [(iv 0), (iv 1), (Value.slice (some ⟨C, 0, none⟩) 4 4), (Value.slice (some ⟨D, 0, none⟩) 1 1), (iv 2), (iv 1), (iv 2), (Value.slice (some ⟨E, 0, none⟩) 2 2), (Value.slice none 0 0), (iv 0)]), (row (Value.slice (some ⟨A, 0, none⟩) 2 2) 100 3 2 [(iv 150), (iv 154), (iv 160), (iv 240), (iv 246), (iv 249)]), (row (Value.slice (some ⟨B, 0, none⟩) 1 1) 100 3 1 [(iv 300), (iv 300), (iv 299)]), (row (Value.slice (some ⟨G, 0, none⟩) 2 2) 103 2 2 [(iv 0), (Value.slice (some ⟨A, 0, none⟩) 2 2), (iv 1), (Value.slice (some ⟨B, 0, none⟩) 1 1)])] := m_8 (k' := brkN e_1.tabs) (c' := brkC e_1.tabs) A6 rfl rfl (fun i hi => absurd hi (Nat.not_lt_zero _))
 have AH : Sep NoB w H [(row (Value.slice none 0 0) 3 1 0 []), (slsR true 1 (putV 0 (fun _ => Value.slice none 0 0) (Value.slice (some ⟨D, 0, none⟩) 1 1)) 1 (brkN e_1.tabs) (brkC e_1.tabs)), (slsR true 2 (putV 1 (putV 0 (fun _ => Value.slice none 0 0) (Value.slice (some ⟨C, 0, none⟩) 4 4)) (Value.slice (some ⟨E, 0, none⟩) 2 2)) 2 (m_4 e_1.tabs) (m_3 e_1.tabs)), (row (Value.slice (some ⟨F, 0, none⟩) 2 2) 106 5 2 [(iv 0), (iv 1), (Value.slice (some ⟨C, 0, none⟩) 4 4), (Value.slice (some ⟨D, 0, none⟩) 1 1), (iv 2), (iv 1), (iv 2), (Value.slice (some ⟨E, 0, none⟩) 2 2), (Value.slice none 0 0), (iv 0)]), (row (Value.slice (some ⟨A, 0, none⟩) 2 2) 100 3 2 [(iv 150), (iv 154), (iv 160), (iv 240), (iv 246), (iv 249)]), (row (Value.slice (some ⟨B, 0, none⟩) 1 1) 100 3 1 [(iv 300), (iv 300), (iv 299)]), (row (Value.slice (some ⟨G, 0, none⟩) 2 2) 103 2 2 [(iv 0), (Value.slice (some ⟨A, 0, none⟩) 2 2), (iv 1), (Value.slice (some ⟨B, 0, none⟩) 1 1)])] := AG.keep [1, 0, 2, 3, 4, 5, 6] (by decide) _ rfl rfl
 have AI : Sep NoB w H [(slsR true 2 (putV 1 (putV 0 (fun _ => Value.slice none 0 0) (Value.slice (some ⟨D, 0, none⟩) 1 1)) (Value.slice none 0 0)) 1 (brkN e_1.tabs) (brkC e_1.tabs)), (slsR true 2 (putV 1 (putV 0 (fun _ => Value.slice none 0 0) (Value.slice (some ⟨C, 0, none⟩) 4 4)) (Value.slice (some ⟨E, 0, none⟩) 2 2)) 2 (m_4 e_1.tabs) (m_3 e_1.tabs)), (row (Value.slice (some ⟨F, 0, none⟩) 2 2) 106 5 2 [(iv 0), (iv 1), (Value.slice (some ⟨C, 0, none⟩) 4 4), (Value.slice (some ⟨D, 0, none⟩) 1 1), (iv 2), (iv 1), (iv 2), (Value.slice (some ⟨E, 0, none⟩) 2 2), (Value.slice none 0 0), (iv 0)]), (row (Value.slice (some ⟨A, 0, none⟩) 2 2) 100 3 2 [(iv 150), (iv 154), (iv 160), (iv 240), (iv 246), (iv 249)]), (row (Value.slice (some ⟨B, 0, none⟩) 1 1) 100 3 1 [(iv 300), (iv 300), (iv 299)]), (row (Value.slice (some ⟨G, 0, none⟩) 2 2) 103 2 2 [(iv 0), (Value.slice (some ⟨A, 0, none⟩) 2 2), (iv 1), (Value.slice (some ⟨B, 0, none⟩) 1 1)])] := m_8 (k' := brkN e_1.tabs) (c' := brkC e_1.tabs) AH rfl rfl (fun _ _ => ⟨rfl, rfl⟩)
 have AJ : Sep NoB w H [(row (Value.slice (some ⟨F, 0, none⟩) 2 2) 106 5 2 [(iv 0), (iv 1), (Value.slice (some ⟨C, 0, none⟩) 4 4), (Value.slice (some ⟨D, 0, none⟩) 1 1), (iv 2), (iv 1), (iv 2), (Value.slice (some ⟨E, 0, none⟩) 2 2), (Value.slice none 0 0), (iv 0)]), (slsR true 2 (putV 1 (putV 0 (fun _ => Value.slice none 0 0) (Value.slice (some ⟨C, 0, none⟩) 4 4)) (Value.slice (some ⟨E, 0, none⟩) 2 2)) 2 (m_4 e_1.tabs) (m_3 e_1.tabs)), (slsR true 2 (putV 1 (putV 0 (fun _ => Value.slice none 0 0) (Value.slice (some ⟨D, 0, none⟩) 1 1)) (Value.slice none 0 0)) 1 (brkN e_1.tabs) (brkC e_1.tabs)), (row (Value.slice (some ⟨A, 0, none⟩) 2 2) 100 3 2 [(iv 150), (iv 154), (iv 160), (iv 240), (iv 246), (iv 249)]), (row (Value.slice (some ⟨B, 0, none⟩) 1 1) 100 3 1 [(iv 300), (iv 300), (iv 299)]), (row (Value.slice (some ⟨G, 0, none⟩) 2 2) 103 2 2 [(iv 0), (Value.slice (some ⟨A, 0, none⟩) 2 2), (iv 1), (Value.slice (some ⟨B, 0, none⟩) 1 1)])] := AI.keep [2, 1, 0, 3, 4, 5] (by decide) _ rfl rfl
 have AK : Sep NoB w H [(row (Value.slice (some ⟨F, 0, none⟩) 2 2) 106 5 e_1.tabs.length (i_5 (putV 1 (putV 0 (fun _ => Value.slice none 0 0) (Value.slice (some ⟨C, 0, none⟩) 4 4)) (Value.slice (some ⟨E, 0, none⟩) 2 2)) (putV 1 (putV 0 (fun _ => Value.slice none 0 0) (Value.slice (some ⟨D, 0, none⟩) 1 1)) (Value.slice none 0 0)) e_1.tabs)), (slsR true 2 (putV 1 (putV 0 (fun _ => Value.slice none 0 0) (Value.slice (some ⟨C, 0, none⟩) 4 4)) (Value.slice (some ⟨E, 0, none⟩) 2 2)) 2 (m_4 e_1.tabs) (m_3 e_1.tabs)), (slsR true 2 (putV 1 (putV 0 (fun _ => Value.slice none 0 0) (Value.slice (some ⟨D, 0, none⟩) 1 1)) (Value.slice none 0 0)) 1 (brkN e_1.tabs) (brkC e_1.tabs)), (row (Value.slice (some ⟨A, 0, none⟩) 2 2) 100 3 2 [(iv 150), (iv 154), (iv 160), (iv 240), (iv 246), (iv 249)]), (row (Value.slice (some ⟨B, 0, none⟩) 1 1) 100 3 1 [(iv 300), (iv 300), (iv 299)]), (row (Value.slice (some ⟨G, 0, none⟩) 2 2) 103 2 2 [(iv 0), (Value.slice (some ⟨A, 0, none⟩) 2 2), (iv 1), (Value.slice (some ⟨B, 0, none⟩) 1 1)])] := AJ.f_2 (i := 0) rfl rfl (kept_tabsC _ _ _ _).symm
 have AL : Sep NoB w H [(d_2 true (Value.slice (some ⟨F, 0, none⟩) 2 2) (putV 1 (putV 0 (fun _ => Value.slice none 0 0) (Value.slice (some ⟨C, 0, none⟩) 4 4)) (Value.slice (some ⟨E, 0, none⟩) 2 2)) (putV 1 (putV 0 (fun _ => Value.slice none 0 0) (Value.slice (some ⟨D, 0, none⟩) 1 1)) (Value.slice none 0 0)) e_1.tabs), (row (Value.slice (some ⟨A, 0, none⟩) 2 2) 100 3 2 [(iv 150), (iv 154), (iv 160), (iv 240), (iv 246), (iv 249)]), (row (Value.slice (some ⟨B, 0, none⟩) 1 1) 100 3 1 [(iv 300), (iv 300), (iv 299)]), (row (Value.slice (some ⟨G, 0, none⟩) 2 2) 103 2 2 [(iv 0), (Value.slice (some ⟨A, 0, none⟩) 2 2), (iv 1), (Value.slice (some ⟨B, 0, none⟩) 1 1)])] := sep_tabs_join AK
 have AM : Sep NoB w H [(slsR true 0 (fun _ => Value.slice none 0 0) 3 (blkN e_1.macs) (blkC e_1.macs)), (d_2 true (Value.slice (some ⟨F, 0, none⟩) 2 2) (putV 1 (putV 0 (fun _ => Value.slice none 0 0) (Value.slice (some ⟨C, 0, none⟩) 4 4)) (Value.slice (some ⟨E, 0, none⟩) 2 2)) (putV 1 (putV 0 (fun _ => Value.slice none 0 0) (Value.slice (some ⟨D, 0, none⟩) 1 1)) (Value.slice none 0 0)) e_1.tabs), (row (Value.slice (some ⟨A, 0, none⟩) 2 2) 100 3 2 [(iv 150), (iv 154), (iv 160), (iv 240), (iv 246), (iv 249)]), (row (Value.slice (some ⟨B, 0, none⟩) 1 1) 100 3 1 [(iv 300), (iv 300), (iv 299)]), (row (Value.slice (some ⟨G, 0, none⟩) 2 2) 103 2 2 [(iv 0), (Value.slice (some ⟨A, 0, none⟩) 2 2), (iv 1), (Value.slice (some ⟨B, 0, none⟩) 1 1)])] := r_6 AL (fun _ => Value.slice none 0 0) 3 (blkN e_1.macs) (blkC e_1.macs)
 have AN : Sep NoB w H [(row (Value.slice (some ⟨A, 0, none⟩) 2 2) 100 3 2 [(iv 150), (iv 154), (iv 160), (iv 240), (iv 246), (iv 249)]), (slsR true 0 (fun _ => Value.slice none 0 0) 3 (blkN e_1.macs) (blkC e_1.macs)), (d_2 true (Value.slice (some ⟨F, 0, none⟩) 2 2) (putV 1 (putV 0 (fun _ => Value.slice none 0 0) (Value.slice (some ⟨C, 0, none⟩) 4 4)) (Value.slice (some ⟨E, 0, none⟩) 2 2)) (putV 1 (putV 0 (fun _ => Value.slice none 0 0) (Value.slice (some ⟨D, 0, none⟩) 1 1)) (Value.slice none 0 0)) e_1.tabs), (row (Value.slice (some ⟨B, 0, none⟩) 1 1) 100 3 1 [(iv 300), (iv 300), (iv 299)]), (row (Value.slice (some ⟨G, 0, none⟩) 2 2) 103 2 2 [(iv 0), (Value.slice (some ⟨A, 0, none⟩) 2 2), (iv 1), (Value.slice (some ⟨B, 0, none⟩) 1 1)])] := AM.keep [2, 0, 1, 3, 4] (by decide) _ rfl rfl
 have AO : Sep NoB w H [(slsR true 1 (putV 0 (fun _ => Value.slice none 0 0) (Value.slice (some ⟨A, 0, none⟩) 2 2)) 3 (blkN e_1.macs) (blkC e_1.macs)), (d_2 true (Value.slice (some ⟨F, 0, none⟩) 2 2) (putV 1 (putV 0 (fun _ => Value.slice none 0 0) (Value.slice (some ⟨C, 0, none⟩) 4 4)) (Value.slice (some ⟨E, 0, none⟩) 2 2)) (putV 1 (putV 0 (fun _ => Value.slice none 0 0) (Value.slice (some ⟨D, 0, none⟩) 1 1)) (Value.slice none 0 0)) e_1.tabs), (row (Value.slice (some ⟨B, 0, none⟩) 1 1) 100 3 1 [(iv 300), (iv 300), (iv 299)]), (row (Value.slice (some ⟨G, 0, none⟩) 2 2) 103 2 2 [(iv 0), (Value.slice (some ⟨A, 0, none⟩) 2 2), (iv 1), (Value.slice (some ⟨B, 0, none⟩) 1 1)])] := m_8 (k' := blkN e_1.macs) (c' := blkC e_1.macs) AN rfl rfl (fun i hi => absurd hi (Nat.not_lt_zero _))
 have AP : Sep NoB w H [(row (Value.slice (some ⟨B, 0, none⟩) 1 1) 100 3 1 [(iv 300), (iv 300), (iv 299)]), (slsR true 1 (putV 0 (fun _ => Value.slice none 0 0) (Value.slice (some ⟨A, 0, none⟩) 2 2)) 3 (blkN e_1.macs) (blkC e_1.macs)), (d_2 true (Value.slice (some ⟨F, 0, none⟩) 2 2) (putV 1 (putV 0 (fun _ => Value.slice none 0 0) (Value.slice (some ⟨C, 0, none⟩) 4 4)) (Value.slice (some ⟨E, 0, none⟩) 2 2)) (putV 1 (putV 0 (fun _ => Value.slice none 0 0) (Value.slice (some ⟨D, 0, none⟩) 1 1)) (Value.slice none 0 0)) e_1.tabs), (row (Value.slice (some ⟨G, 0, none⟩) 2 2) 103 2 2 [(iv 0), (Value.slice (some ⟨A, 0, none⟩) 2 2), (iv 1), (Value.slice (some ⟨B, 0, none⟩) 1 1)])] := AO.keep [2, 0, 1, 3] (by decide) _ rfl rfl
 have AQ : Sep NoB w H [(slsR true 2 (putV 1 (putV 0 (fun _ => Value.slice none 0 0) (Value.slice (some ⟨A, 0, none⟩) 2 2)) (Value.slice (some ⟨B, 0, none⟩) 1 1)) 3 (blkN e_1.macs) (blkC e_1.macs)), (d_2 true (Value.slice (some ⟨F, 0, none⟩) 2 2) (putV 1 (putV 0 (fun _ => Value.slice none 0 0) (Value.slice (some ⟨C, 0, none⟩) 4 4)) (Value.slice (some ⟨E, 0, none⟩) 2 2)) (putV 1 (putV 0 (fun _ => Value.slice none 0 0) (Value.slice (some ⟨D, 0, none⟩) 1 1)) (Value.slice none 0 0)) e_1.tabs), (row (Value.slice (some ⟨G, 0, none⟩) 2 2) 103 2 2 [(iv 0), (Value.slice (some ⟨A, 0, none⟩) 2 2), (iv 1), (Value.slice (some ⟨B, 0, none⟩) 1 1)])] := m_8 (k' := blkN e_1.macs) (c' := blkC e_1.macs) AP rfl rfl (fun _ _ => ⟨rfl, rfl⟩)
 have AR : Sep NoB w H [(row (Value.slice (some ⟨G, 0, none⟩) 2 2) 103 2 2 [(iv 0), (Value.slice (some ⟨A, 0, none⟩) 2 2), (iv 1), (Value.slice (some ⟨B, 0, none⟩) 1 1)]), (slsR true 2 (putV 1 (putV 0 (fun _ => Value.slice none 0 0) (Value.slice (some ⟨A, 0, none⟩) 2 2)) (Value.slice (some ⟨B, 0, none⟩) 1 1)) 3 (blkN e_1.macs) (blkC e_1.macs)), (d_2 true (Value.slice (some ⟨F, 0, none⟩) 2 2) (putV 1 (putV 0 (fun _ => Value.slice none 0 0) (Value.slice (some ⟨C, 0, none⟩) 4 4)) (Value.slice (some ⟨E, 0, none⟩) 2 2)) (putV 1 (putV 0 (fun _ => Value.slice none 0 0) (Value.slice (some ⟨D, 0, none⟩) 1 1)) (Value.slice none 0 0)) e_1.tabs)] := AQ.keep [2, 0, 1] (by decide) _ rfl rfl
 have AS : Sep NoB w H [(row (Value.slice (some ⟨G, 0, none⟩) 2 2) 103 2 e_1.macs.length (k_6 (putV 1 (putV 0 (fun _ => Value.slice none 0 0) (Value.slice (some ⟨A, 0, none⟩) 2 2)) (Value.slice (some ⟨B, 0, none⟩) 1 1)) e_1.macs)), (slsR true 2 (putV 1 (putV 0 (fun _ => Value.slice none 0 0) (Value.slice (some ⟨A, 0, none⟩) 2 2)) (Value.slice (some ⟨B, 0, none⟩) 1 1)) 3 (blkN e_1.macs) (blkC e_1.macs)), (d_2 true (Value.slice (some ⟨F, 0, none⟩) 2 2) (putV 1 (putV 0 (fun _ => Value.slice none 0 0) (Value.slice (some ⟨C, 0, none⟩) 4 4)) (Value.slice (some ⟨E, 0, none⟩) 2 2)) (putV 1 (putV 0 (fun _ => Value.slice none 0 0) (Value.slice (some ⟨D, 0, none⟩) 1 1)) (Value.slice none 0 0)) e_1.tabs)] := AR.f_2 (i := 0) rfl rfl (kept_macsC _ _).symm
 have AT : Sep NoB w H [(d_4 true (Value.slice (some ⟨G, 0, none⟩) 2 2) (putV 1 (putV 0 (fun _ => Value.slice none 0 0) (Value.slice (some ⟨A, 0, none⟩) 2 2)) (Value.slice (some ⟨B, 0, none⟩) 1 1)) e_1.macs), (d_2 true (Value.slice (some ⟨F, 0, none⟩) 2 2) (putV 1 (putV 0 (fun _ => Value.slice none 0 0) (Value.slice (some ⟨C, 0, none⟩) 4 4)) (Value.slice (some ⟨E, 0, none⟩) 2 2)) (putV 1 (putV 0 (fun _ => Value.slice none 0 0) (Value.slice (some ⟨D, 0, none⟩) 1 1)) (Value.slice none 0 0)) e_1.tabs)] := sep_macs_join AS
 have AU : Sep NoB w H [(d_2 true (Value.slice (some ⟨F, 0, none⟩) 2 2) (putV 1 (putV 0 (fun _ => Value.slice none 0 0) (Value.slice (some ⟨C, 0, none⟩) 4 4)) (Value.slice (some ⟨E, 0, none⟩) 2 2)) (putV 1 (putV 0 (fun _ => Value.slice none 0 0) (Value.slice (some ⟨D, 0, none⟩) 1 1)) (Value.slice none 0 0)) e_1.tabs), (d_4 true (Value.slice (some ⟨G, 0, none⟩) 2 2) (putV 1 (putV 0 (fun _ => Value.slice none 0 0) (Value.slice (some ⟨A, 0, none⟩) 2 2)) (Value.slice (some ⟨B, 0, none⟩) 1 1)) e_1.macs)] := AT.keep [1, 0] (by decide) _ rfl rfl
 exact ⟨_, _, _, _, _, rfl, AU⟩
end Go.Proofs.Ytohgladndklciaa

namespace Go.Proofs.Ytohgladndklciaa
open Go.RowKit Go.Shelf Go.Eng Go.Hard
theorem en_46 : ∀ args w, (callFunc 46 args).run Try.prog w = .ok (.enter 46 args) w := enters_of Try.func46 (by kernel_rfl) rfl
theorem en_33 : ∀ args w, (callFunc 33 args).run Try.prog w = .ok (.enter 33 args) w := enters_of Try.func33 (by kernel_rfl) rfl
theorem en_18 : ∀ args w, (callFunc 18 args).run Try.prog w = .ok (.enter 18 args) w := enters_of Try.func18 (by kernel_rfl) rfl
theorem m_1 : ∀ args w, (callFunc 25 args).run Try.prog w = .ok (.enter 25 args) w := enters_of Try.func25 (by kernel_rfl) rfl
theorem j_2 (w : World) :
  Calls Try.prog 17 #[] w (Ret fun v w' => v = .bool true ∧ Ext NoB w w') := by
 refine b_4 Try.func17 rfl fun a0 Z => ?_
 replace Z : Fr 71 [] [] a0 := Z
 have AT : Sep NoB w w [] := Sep.start _ _
 refine m2 (s1 Z (a_1 rfl (evc _ _)) fun a1 AS => ?_); clear Z a0
 refine n4 (s2 AS (a_6 rfl en_46 ev0 (kept_ok _)) ?_)
 rintro a3 _ w5 ⟨vt6, vm7, lr8, lb9, lk10, rfl, AN⟩ s; have L := AT.h_1 AN rfl; clear AN AS AT a1
 refine s2 s (a_6 rfl en_33 (ev2 s.e (evc _ _)) (Bias_ok e_1 vt6 vm7 lr8 lb9 lk10 _ (b_1 (L.ok 0 _ rfl)) (a_8 (L.ok 1 _ rfl)) kept_thin 0)) ?_
 rintro AZ _ BH ⟨rfl, z⟩ O; have AC := L.step z; clear z s L a3
 refine s1 O (a_0 rfl O.e) fun Aa P => ?_; clear O AZ
 refine s1 P (b_2 rfl P.e rfl) fun Ab Q => ?_; clear P Aa
 refine s1 Q (b_2 rfl Q.e rfl) fun Ac o => ?_; clear Q Ab
 refine s2 o (e_4 AC rfl ab_3 (cs := [(iv 0), (iv 0)]) rfl) ?_
 rintro Ad _ BI ⟨B, rfl, AD⟩ H; clear o AC Ac
 refine s7 H (c_4 AD rfl g_1 H.e H.e (i := 0) rfl (vs := [(iv ((aa_2 e_1 0).1)), (iv ((aa_2 e_1 0).2))]) rfl rfl rfl (Nat.le_of_ble_eq_true rfl)) ?_
 intro _ A4 AE R; clear H
 have AF : Sep NoB w A4 [(blk B 30 [(iv ((aa_2 e_1 0).1)), (iv ((aa_2 e_1 0).2))]), (d_2 true vt6 lr8 lb9 e_1.tabs), (d_4 true vm7 lk10 e_1.macs)] := AE; clear AE AD
 refine s1 R (a_1 rfl R.e) fun Ae p => ?_; clear R Ad
 refine n2 ?_
 have q := p.as [(2, (iv (aa_1 e_1 0))), (1, (bptr B 0))] rfl; clear p
 refine a_5 (s2 q (a_6 rfl en_46 ev0 (kept_ok _)) ?_)
 rintro Af _ BJ ⟨vt39, vm40, lr41, lb42, lk43, rfl, AO⟩ r; have AG := AF.h_1 AO rfl; clear AO q AF Ae
 refine s2 r (a_6 rfl en_31 (ev2 (evc _ _) (evc _ _)) (p_3 _ _ _)) ?_
 rintro Ag _ BK ⟨rfl, AA⟩ I; have M := AG.step AA; clear AA r AG Af
 refine s2 I (a_6 rfl en_18 (ev3 I.e (evc _ _) I.e) (Convert_ok e_1 vt39 vm40 lr41 lb42 lk43 _ (b_1 (M.ok 0 _ rfl)) (a_8 (M.ok 1 _ rfl)) kept_thin 0 150 180)) ?_
 rintro Ah _ BL ⟨rfl, AB⟩ S; have AH := M.step AB; clear AB I M Ag
 refine s1 S (a_0 rfl S.e) fun Ai T => ?_; clear S Ah
 refine s1 T (b_2 rfl T.e rfl) fun Aj U => ?_; clear T Ai
 refine s1 U (b_2 rfl U.e rfl) fun Ak t => ?_; clear U Aj
 refine s2 t (e_4 AH rfl ab_3 (cs := [(iv 0), (iv 0)]) rfl) ?_
 rintro Al _ BM ⟨N, rfl, AI⟩ J; clear t AH Ak
 refine s7 J (c_4 AI rfl g_1 J.e J.e (i := 0) rfl (vs := [(iv ((ab_2 e_1 0 (150, 180)).1)), (iv ((ab_2 e_1 0 (150, 180)).2))]) rfl rfl rfl (Nat.le_of_ble_eq_true rfl)) ?_
 intro _ A5 AJ V; clear J
 have AK : Sep NoB w A5 [(blk N 30 [(iv ((ab_2 e_1 0 (150, 180)).1)), (iv ((ab_2 e_1 0 (150, 180)).2))]), (d_2 true vt39 lr41 lb42 e_1.tabs), (d_4 true vm40 lk43 e_1.macs), (blk B 30 [(iv ((aa_2 e_1 0).1)), (iv ((aa_2 e_1 0).2))]), (d_2 true vt6 lr8 lb9 e_1.tabs), (d_4 true vm7 lk10 e_1.macs)] := AJ; clear AJ AI
 refine s1 V (a_1 rfl V.e) fun Am u => ?_; clear V Al
 refine n2 ?_
 have x := u.as [(4, (iv (aa_6 e_1 0 (150, 180)))), (3, (bptr N 0)), (2, (iv (aa_1 e_1 0))), (1, (bptr B 0))] rfl; clear u
 refine a_5 (s2 x (a_6 rfl en_46 ev0 (kept_ok _)) ?_)
 rintro An _ BN ⟨vt77, vm78, lr79, lb80, lk81, rfl, AP⟩ y; have AL := AK.h_1 AP rfl; clear AP x AK Am
 refine s1 y (e_5 rfl (pv2 (evc _ _) (evc _ _)) (bd_98_0i_1i _ _)) fun Ao W => ?_; clear y An
 refine s2 W (f_1 AL rfl (pv1 W.e) un_53 ty_98 ze_98 (by decide) (cs := [(iv 0), (iv 170)]) (bs_98_1_0iia _ _)) ?_
 rintro Ap _ BO ⟨At, rfl, C⟩ K; clear W AL Ao
 refine s2 K (a_6 rfl m_1 (ev2 K.e K.e) (j_1 e_1 vt77 vm78 lr79 lb80 lk81 _ (b_1 (C.ok 1 _ rfl)) (a_8 (C.ok 2 _ rfl)) kept_thin ([(0, 170)]) _ (SlAt.of_blk (C.bk 0 rfl) rfl (Nat.le_of_ble_eq_true rfl)) (by decide) ([(161, 164), (259, 266), (83, 87)]) kept_read kept_spans)) ?_
 rintro Aq _ A6 ⟨A, rfl, AQ⟩ X
 have AM : Sep NoB w A6 [(row A 30 2 ([(161, 164), (259, 266), (83, 87)].length) (pairs ([(161, 164), (259, 266), (83, 87)]))), (blk At 98 [(iv 0), (iv 170)]), (d_2 true vt77 lr79 lb80 e_1.tabs), (d_4 true vm78 lk81 e_1.macs), (blk N 30 [(iv ((ab_2 e_1 0 (150, 180)).1)), (iv ((ab_2 e_1 0 (150, 180)).2))]), (d_2 true vt39 lr41 lb42 e_1.tabs), (d_4 true vm40 lk43 e_1.macs), (blk B 30 [(iv ((aa_2 e_1 0).1)), (iv ((aa_2 e_1 0).2))]), (d_2 true vt6 lr8 lb9 e_1.tabs), (d_4 true vm7 lk10 e_1.macs)] := C.h_1 AQ rfl; clear AQ K C Ap
 refine s1 X (a_0 rfl X.e) fun Ar Y => ?_; clear X Aq
 refine s1 Y (b_2 rfl Y.e rfl) fun As D => ?_; clear Y Ar
 refine s1 D (b_2 rfl D.e rfl) fun AU E => ?_; clear D As
 refine s1 E (a_1 rfl E.e) fun AV F => ?_; clear E AU
 refine s1 F (a_1 rfl F.e) fun A8 b => ?_; clear F AV
 refine n2 ?_
 have c := b.as [(6, (iv 0)), (5, A), (4, (iv (aa_6 e_1 0 (150, 180)))), (3, (bptr N 0)), (2, (iv (aa_1 e_1 0))), (1, (bptr B 0))] rfl; clear b
 have d := c.as [(6, (iv 0)), (5, A), (4, (iv (aa_6 e_1 0 (150, 180)))), (3, (bptr N 0)), (2, (iv (aa_1 e_1 0))), (1, (bptr B 0))] rfl; clear c
 refine i_9 mixed d AM 46 [[], [0], [1], [2], [2], [2, 3, 4], [2, 5], [6], [7], [7, 8], [7, 9], [10], [11], [11], [11, 12, 13], [11, 14], [15], [16], [16, 17], [16, 18], [19], [20], [20, 21], [20, 22], [20, 23], [24], [25], [25, 26], [25, 27], [25], [25, 28, 29], [25, 30], [31], [32], [32, 33], [32, 34], [32], [32, 35, 36], [32, 37], [38], [39], [39, 40], [39, 41], [39], [39, 42, 43], [39, 44]] [(Yd.val (iv (aa_1 e_1 0))), (Yd.val (Value.bool true)), (Yd.val (Value.bool true)), (Yd.val (Value.agg #[(iv ((aa_2 e_1 0).1)), (iv ((aa_2 e_1 0).2))])), (Yd.val (Value.agg #[(iv 6), (iv 9)])), (Yd.val (Value.bool true)), (Yd.val (Value.bool true)), (Yd.val (Value.bool true)), (Yd.val (iv (aa_6 e_1 0 (150, 180)))), (Yd.val (Value.bool true)), (Yd.val (Value.bool true)), (Yd.val (Value.bool true)), (Yd.val (Value.agg #[(iv ((ab_2 e_1 0 (150, 180)).1)), (iv ((ab_2 e_1 0 (150, 180)).2))])), (Yd.val (Value.agg #[(iv 248), (iv 282)])), (Yd.val (Value.bool true)), (Yd.val (Value.bool true)), (Yd.val (Value.bool true)), (Yd.val (iv 0)), (Yd.val (Value.bool true)), (Yd.val (Value.bool true)), (Yd.val (Value.bool true)), (Yd.val A), (Yd.val (iv ([(161, 164), (259, 266), (83, 87)].length : Int))), (Yd.val (Value.bool true)), (Yd.val (Value.bool true)), (Yd.val (Value.bool true)), (Yd.val A), (Yd.val (eptr A (0 * 2))), (Yd.val (Value.agg #[(iv ((([(161, 164), (259, 266), (83, 87)]).getD 0 (0, 0)).1)), (iv ((([(161, 164), (259, 266), (83, 87)]).getD 0 (0, 0)).2))])), (Yd.val (Value.agg #[(iv 161), (iv 164)])), (Yd.val (Value.bool true)), (Yd.val (Value.bool true)), (Yd.val (Value.bool true)), (Yd.val A), (Yd.val (eptr A (1 * 2))), (Yd.val (Value.agg #[(iv ((([(161, 164), (259, 266), (83, 87)]).getD 1 (0, 0)).1)), (iv ((([(161, 164), (259, 266), (83, 87)]).getD 1 (0, 0)).2))])), (Yd.val (Value.agg #[(iv 259), (iv 266)])), (Yd.val (Value.bool true)), (Yd.val (Value.bool true)), (Yd.val (Value.bool true)), (Yd.val A), (Yd.val (eptr A (2 * 2))), (Yd.val (Value.agg #[(iv ((([(161, 164), (259, 266), (83, 87)]).getD 2 (0, 0)).1)), (iv ((([(161, 164), (259, 266), (83, 87)]).getD 2 (0, 0)).2))])), (Yd.val (Value.agg #[(iv 83), (iv 87)])), (Yd.val (Value.bool true)), (Yd.val (Value.bool true))] (by decide +kernel) rfl rfl ?_ ?_
 ·skip
  refine dq (fun a w hA hS hd => a_0 rfl hA.e) ?_
  refine ⟨fun a w hA hS hd => by have e0 := hx hd 0; exact d_9 rfl (dv (e_9 rfl (c_8 e0) (evc _ _)) hS (by show Value.bool _ = _; simp only [decide_eq_true (show (aa_1 e_1 0) = 0 from (by decide)), decide_true, decide_false, Bool.not_true, Bool.not_false])), ?_⟩
  refine dq (fun a w hA hS hd => a_0 rfl (hq hd 1)) ?_
  refine dy 2 (fun a w hA hS hd => b_8 rfl g_1 (hA.ev rfl) (hS.bk 7 rfl) (l := [(iv ((aa_2 e_1 0).1)), (iv ((aa_2 e_1 0).2))]) rfl rfl) ?_
  refine ⟨fun a w hA hS hd => by have e2 := hx hd 2; exact j_4 rfl rfl e2 (dx (a_6 rfl en_31 (ev2 (evc _ _) (evc _ _)) (p_3 _ _ _)) hS (fun _ => rfl)), ?_⟩
  refine ⟨fun a w hA hS hd => by have e2 := hx hd 2; have e3 := hx hd 3; have e4 := hx hd 4; exact j_4 rfl rfl e2 (dv (op_eqlP tw_30 rfl (c_8 e3) (c_8 e4)) hS (by show Value.bool _ = _; simp only [(show (decide ((((aa_2 e_1 0).1) : Int) = 6) && decide ((((aa_2 e_1 0).2) : Int) = 9)) = true from (by decide)), decide_true, decide_false, Bool.not_true, Bool.not_false])), ?_⟩
  refine dq (fun a w hA hS hd => a_7 rfl (hq hd 2) (hq hd 5)) ?_
  refine dq (fun a w hA hS hd => a_0 rfl (hq hd 6)) ?_
  refine dy 7 (fun a w hA hS hd => a_0 rfl hA.e) ?_
  refine ⟨fun a w hA hS hd => by have e7 := hx hd 7; have e8 := hx hd 8; exact j_4 rfl rfl e7 (dv (e_9 rfl (c_8 e8) (evc _ _)) hS (by show Value.bool _ = _; simp only [decide_eq_true (show (aa_6 e_1 0 (150, 180)) = 0 from (by decide)), decide_true, decide_false, Bool.not_true, Bool.not_false])), ?_⟩
  refine dq (fun a w hA hS hd => a_7 rfl (hq hd 7) (hq hd 9)) ?_
  refine dq (fun a w hA hS hd => a_0 rfl (hq hd 10)) ?_
  refine dy 11 (fun a w hA hS hd => b_8 rfl g_1 (hA.ev rfl) (hS.bk 4 rfl) (l := [(iv ((ab_2 e_1 0 (150, 180)).1)), (iv ((ab_2 e_1 0 (150, 180)).2))]) rfl rfl) ?_
  refine ⟨fun a w hA hS hd => by have j := hx hd 11; exact j_4 rfl rfl j (dx (a_6 rfl en_31 (ev2 (evc _ _) (evc _ _)) (p_3 _ _ _)) hS (fun _ => rfl)), ?_⟩
  refine ⟨fun a w hA hS hd => by have j := hx hd 11; have Au := hx hd 12; have Av := hx hd 13; exact j_4 rfl rfl j (dv (op_eqlP tw_30 rfl (c_8 Au) (c_8 Av)) hS (by show Value.bool _ = _; simp only [(show (decide ((((ab_2 e_1 0 (150, 180)).1) : Int) = 248) && decide ((((ab_2 e_1 0 (150, 180)).2) : Int) = 282)) = true from (by decide)), decide_true, decide_false, Bool.not_true, Bool.not_false])), ?_⟩
  refine dq (fun a w hA hS hd => a_7 rfl (hq hd 11) (hq hd 14)) ?_
  refine dq (fun a w hA hS hd => a_0 rfl (hq hd 15)) ?_
  refine dy 16 (fun a w hA hS hd => a_0 rfl hA.e) ?_
  refine dy 16 (fun a w hA hS hd => e_9 rfl (hq hd 17) (evc _ _)) ?_
  refine dq (fun a w hA hS hd => a_7 rfl (hq hd 16) (hq hd 18)) ?_
  refine dq (fun a w hA hS hd => a_0 rfl (hq hd 19)) ?_
  refine dy 20 (fun a w hA hS hd => a_0 rfl hA.e) ?_
  refine dy 20 (fun a w hA hS hd => d_3 rfl t_3 (hq hd 21) (SlAt.b_9 (hS.c_0 0 rfl))) ?_
  refine ⟨fun a w hA hS hd => by have Aw := hx hd 20; have Ax := hx hd 22; exact j_4 rfl rfl Aw (dv (e_9 rfl (c_8 Ax) (evc _ _)) hS (by show Value.bool _ = _; simp only [decide_eq_true (show ([(161, 164), (259, 266), (83, 87)].length : Int) = 3 from (by decide)), decide_true, decide_false, Bool.not_true, Bool.not_false])), ?_⟩
  refine dq (fun a w hA hS hd => a_7 rfl (hq hd 20) (hq hd 23)) ?_
  refine dq (fun a w hA hS hd => a_0 rfl (hq hd 24)) ?_
  refine dy 25 (fun a w hA hS hd => a_0 rfl hA.e) ?_
  refine dy 25 (fun a w hA hS hd => b_6 rfl t_3 g_1 (hq hd 26) (i := 0) (show _ = Value.int .i64 ((0 : Nat) : Int) from (evc _ _)) (SlAt.b_9 (hS.c_0 0 rfl)) (by decide) (by decide)) ?_
  refine dy 25 (fun a w hA hS hd => f_0 rfl g_1 (hq hd 27) (SlAt.b_9 (hS.c_0 0 rfl)) (k_5 (by decide)) rfl (by decide)) ?_
  refine ⟨fun a w hA hS hd => by have k := hx hd 25; exact j_4 rfl rfl k (dx (a_6 rfl en_31 (ev2 (evc _ _) (evc _ _)) (p_3 _ _ _)) hS (fun _ => rfl)), ?_⟩
  refine ⟨fun a w hA hS hd => by have k := hx hd 25; have Ay := hx hd 28; have Az := hx hd 29; exact j_4 rfl rfl k (dv (op_eqlP tw_30 rfl (c_8 Ay) (c_8 Az)) hS (by show Value.bool _ = _; simp only [(show (decide ((((([(161, 164), (259, 266), (83, 87)]).getD 0 (0, 0)).1) : Int) = 161) && decide ((((([(161, 164), (259, 266), (83, 87)]).getD 0 (0, 0)).2) : Int) = 164)) = true from (by decide)), decide_true, decide_false, Bool.not_true, Bool.not_false])), ?_⟩
  refine dq (fun a w hA hS hd => a_7 rfl (hq hd 25) (hq hd 30)) ?_
  refine dq (fun a w hA hS hd => a_0 rfl (hq hd 31)) ?_
  refine dy 32 (fun a w hA hS hd => a_0 rfl hA.e) ?_
  refine dy 32 (fun a w hA hS hd => b_6 rfl t_3 g_1 (hq hd 33) (i := 1) (show _ = Value.int .i64 ((1 : Nat) : Int) from (evc _ _)) (SlAt.b_9 (hS.c_0 0 rfl)) (by decide) (by decide)) ?_
  refine dy 32 (fun a w hA hS hd => f_0 rfl g_1 (hq hd 34) (SlAt.b_9 (hS.c_0 0 rfl)) (k_5 (by decide)) rfl (by decide)) ?_
  refine ⟨fun a w hA hS hd => by have m := hx hd 32; exact j_4 rfl rfl m (dx (a_6 rfl en_31 (ev2 (evc _ _) (evc _ _)) (p_3 _ _ _)) hS (fun _ => rfl)), ?_⟩
  refine ⟨fun a w hA hS hd => by have m := hx hd 32; have A0 := hx hd 35; have A1 := hx hd 36; exact j_4 rfl rfl m (dv (op_eqlP tw_30 rfl (c_8 A0) (c_8 A1)) hS (by show Value.bool _ = _; simp only [(show (decide ((((([(161, 164), (259, 266), (83, 87)]).getD 1 (0, 0)).1) : Int) = 259) && decide ((((([(161, 164), (259, 266), (83, 87)]).getD 1 (0, 0)).2) : Int) = 266)) = true from (by decide)), decide_true, decide_false, Bool.not_true, Bool.not_false])), ?_⟩
  refine dq (fun a w hA hS hd => a_7 rfl (hq hd 32) (hq hd 37)) ?_
  refine dq (fun a w hA hS hd => a_0 rfl (hq hd 38)) ?_
  refine dy 39 (fun a w hA hS hd => a_0 rfl hA.e) ?_
  refine dy 39 (fun a w hA hS hd => b_6 rfl t_3 g_1 (hq hd 40) (i := 2) (show _ = Value.int .i64 ((2 : Nat) : Int) from (evc _ _)) (SlAt.b_9 (hS.c_0 0 rfl)) (by decide) (by decide)) ?_
  refine dy 39 (fun a w hA hS hd => f_0 rfl g_1 (hq hd 41) (SlAt.b_9 (hS.c_0 0 rfl)) (k_5 (by decide)) rfl (by decide)) ?_
  refine ⟨fun a w hA hS hd => by have n := hx hd 39; exact j_4 rfl rfl n (dx (a_6 rfl en_31 (ev2 (evc _ _) (evc _ _)) (p_3 _ _ _)) hS (fun _ => rfl)), ?_⟩
  refine ⟨fun a w hA hS hd => by have n := hx hd 39; have A2 := hx hd 42; have A3 := hx hd 43; exact j_4 rfl rfl n (dv (op_eqlP tw_30 rfl (c_8 A2) (c_8 A3)) hS (by show Value.bool _ = _; simp only [(show (decide ((((([(161, 164), (259, 266), (83, 87)]).getD 2 (0, 0)).1) : Int) = 83) && decide ((((([(161, 164), (259, 266), (83, 87)]).getD 2 (0, 0)).2) : Int) = 87)) = true from (by decide)), decide_true, decide_false, Bool.not_true, Bool.not_false])), ?_⟩
  refine dq (fun a w hA hS hd => a_7 rfl (hq hd 39) (hq hd 44)) ?_
  trivial
 intro AW BG f AR h; clear d AM
 have G := f.add (hz h 45); clear f
 clear h
 refine s1 G (a_1 rfl G.e) fun A9 g => ?_; clear G AW
 exact n1 (c_5 (b_0 g (.inl rfl) (a_2 g rfl (.tmp rfl)) (⟨rfl, AR.ext⟩)))
end Go.Proofs.Ytohgladndklciaa

namespace Go.Proofs.Ytohgladndklciaa
open Go.RowKit Go.Shelf Go.Eng Go.Hard
theorem en_16 : ∀ args w, (callFunc 16 args).run Try.prog w = .ok (.enter 16 args) w := enters_of Try.func16 (by kernel_rfl) rfl
theorem v_5 : ∀ args w, (callFunc 17 args).run Try.prog w = .ok (.enter 17 args) w := enters_of Try.func17 (by kernel_rfl) rfl
theorem m_6 : ∀ args w, (callFunc 19 args).run Try.prog w = .ok (.enter 19 args) w := enters_of Try.func19 (by kernel_rfl) rfl
theorem m_7 : ∀ args w, (callFunc 26 args).run Try.prog w = .ok (.enter 26 args) w := enters_of Try.func26 (by kernel_rfl) rfl
theorem en_27 : ∀ args w, (callFunc 27 args).run Try.prog w = .ok (.enter 27 args) w := enters_of Try.func27 (by kernel_rfl) rfl
theorem en_29 : ∀ args w, (callFunc 29 args).run Try.prog w = .ok (.enter 29 args) w := enters_of Try.func29 (by kernel_rfl) rfl
theorem un_5 : Try.prog.underlying 5 = some (.int .u8) := by kernel_rfl
theorem un_3 : Try.prog.underlying 3 = some (.int .i64) := by kernel_rfl
theorem ze_67 : (Try.prog.info? 67).bind (·.zero) = some (Value.agg #[(iv 0), (iv 0)]) := by kernel_rfl
theorem el_67 : elK Try.prog 67 = some ((Value.agg #[(iv 0), (iv 0)]), 2, 16) := by kernel_rfl
theorem ze_25 : (Try.prog.info? 25).bind (·.zero) = some (Value.agg #[(iv 0), (Value.slice none 0 0), (Value.slice none 0 0)]) := by kernel_rfl
theorem bs_67_0_  : Instr.fill (fun i => some (i * 2, 2)) ((Array.range (0 * 2)).map ((Value.agg #[(iv 0), (iv 0)]).cells[· % (Value.agg #[(iv 0), (iv 0)]).cells.size]!)) [] = some (([] : List Value).toArray) := by kernel_rfl
theorem w_2 : ∀ args w, (callFunc 30 args).run Try.prog w = .ok (.enter 30 args) w := enters_of Try.func30 (by kernel_rfl) rfl
theorem bs_46_0_  : Instr.fill (fun i => some (i * 5, 5)) ((Array.range (0 * 5)).map ((Value.agg #[(iv 0), (iv 0), (Value.slice none 0 0), (Value.slice none 0 0), (iv 0)]).cells[· % (Value.agg #[(iv 0), (iv 0), (Value.slice none 0 0), (Value.slice none 0 0), (iv 0)]).cells.size]!)) [] = some (([] : List Value).toArray) := by kernel_rfl
theorem el_46 : elK Try.prog 46 = some ((Value.agg #[(iv 0), (iv 0), (Value.slice none 0 0), (Value.slice none 0 0), (iv 0)]), 5, 72) := by kernel_rfl
theorem bs_61_0_  : Instr.fill (fun i => some (i * 2, 2)) ((Array.range (0 * 2)).map ((Value.agg #[(iv 0), (Value.slice none 0 0)]).cells[· % (Value.agg #[(iv 0), (Value.slice none 0 0)]).cells.size]!)) [] = some (([] : List Value).toArray) := by kernel_rfl
theorem el_61 : elK Try.prog 61 = some ((Value.agg #[(iv 0), (Value.slice none 0 0)]), 2, 32) := by kernel_rfl
theorem u_3 (x0_0 : Int) (x0_1 : Int) (x0_2 : Int) : Instr.fill (fun i => some (i * 3, 3)) ((Array.range (1 * 3)).map ((Value.agg #[(iv 0), (iv 0), (iv 0)]).cells[· % (Value.agg #[(iv 0), (iv 0), (iv 0)]).cells.size]!)) [(0, .agg #[(.int .i64 x0_0), (.int .i64 x0_1), (.int .i64 x0_2)])] = some (([(.int .i64 x0_0), (.int .i64 x0_1), (.int .i64 x0_2)] : List Value).toArray) := by kernel_rfl
theorem el_63 : elK Try.prog 63 = some ((Value.agg #[(iv 0), (iv 0), (iv 0)]), 3, 24) := by kernel_rfl
end Go.Proofs.Ytohgladndklciaa

namespace Go.Hard
def ab_6 (b : h_3) (l : List (Int × Int)) : Bool := ac_7 b l.length && decide (o_7 b l = 0)
theorem ready_is {b : h_3} {l : List (Int × Int)} (h : ab_6 b l = true) : p_6 b ∧ l.length ≤ 12 ∧ o_7 b l = 0 := by
  unfold ab_6 at h
  rw [Bool.and_eq_true, decide_eq_true_eq, thin_iff] at h
  exact ⟨h.1.1, h.1.2, h.2⟩
def narB (s : h_2) (e : Int) (t : h_2) (f : Int) : Bool :=
  if e = 0 then decide (f = 0) && decide (s.length = t.length) && allI s.length (fun i => decide ((t.getD i (0, 0)).1 ≤ (s.getD i (0, 0)).1) && decide ((s.getD i (0, 0)).2 ≤ (t.getD i (0, 0)).2) && decide ((s.getD i (0, 0)).1 ≤ (s.getD i (0, 0)).2))
  else (decide (e = 9) || decide (e = 11)) && decide ((s.length : Int) = 0)
section
variable {s t : h_2} {e f : Int} {k : Nat}
theorem nar_a (h : ¬ e = 0) (h2 : e = 9 ∨ e = 11) : narB s e t f = decide ((s.length : Int) = 0) := by
  unfold narB; rw [if_neg h]; rcases h2 with h2 | h2 <;> simp [h2]
theorem nar_b (h : ¬ e = 0) (h1 : ¬ e = 9) (h2 : ¬ e = 11) : narB s e t f = false := by
  unfold narB; rw [if_neg h]; simp [h1, h2]
theorem nar_c (h : e = 0) (h2 : ¬ f = 0 ∨ ¬ (s.length : Int) = (t.length : Int)) : narB s e t f = false := by
  unfold narB; rw [if_pos h]
  rcases h2 with h2 | h2
  · simp [h2]
  · rw [decide_eq_false (show ¬ s.length = t.length by omega)]; simp
theorem nar_d (h : e = 0) (hk : k < s.length) (h2 : (s.getD k (0, 0)).1 < (t.getD k (0, 0)).1 ∨ (t.getD k (0, 0)).2 < (s.getD k (0, 0)).2 ∨ (s.getD k (0, 0)).2 < (s.getD k (0, 0)).1) : narB s e t f = false := by
  unfold narB; rw [if_pos h, allI_no hk (by simp only [Bool.and_eq_false_iff, decide_eq_false_iff_not]; omega), Bool.and_false]
theorem nar_y (h : e = 0) (h1 : f = 0) (h2 : s.length = t.length) (h3 : ∀ i, i < s.length → (t.getD i (0, 0)).1 ≤ (s.getD i (0, 0)).1 ∧ (s.getD i (0, 0)).2 ≤ (t.getD i (0, 0)).2 ∧ (s.getD i (0, 0)).1 ≤ (s.getD i (0, 0)).2) : narB s e t f = true := by
  unfold narB; rw [if_pos h, decide_eq_true h1, decide_eq_true h2, i_4.2 fun i hi => by simp only [Bool.and_eq_true, decide_eq_true_eq]; exact ⟨⟨(h3 i hi).1, (h3 i hi).2.1⟩, (h3 i hi).2.2⟩]; rfl
end
theorem rem_nat {n : Int} {m : Nat} (h0 : 0 ≤ n) (hm : 0 < m) : ∃ b : Nat, n.tmod (m : Int) = (b : Int) ∧ b < m := by
  have h1 := Int.tmod_nonneg (m : Int) h0
  have h2 := Int.tmod_lt_of_pos n (show (0 : Int) < (m : Int) by omega)
  exact ⟨(n.tmod (m : Int)).toNat, by omega, by omega⟩
theorem ab_1 {b : h_3} {l : List (Int × Int)} {t : h_2} (hb : o_6 b) (hl : t_5 b l) (h : j_0 b l = some t) : t.length = b.scales.toNat ∧ t.length ≤ 4 := by
  have := spans_is hb hl
  rw [h] at this
  have h4 := hb.four
  exact ⟨this.1, by rw [this.1]; exact h4⟩
section
variable {b : h_3} {l : List (Int × Int)} {k j : Nat}
variable {i : Nat}
end
end Go.Hard

namespace Go.Proofs.Ytohgladndklciaa
open Go.RowKit Go.Shelf Go.Eng Go.Hard
theorem ready_ok (b : h_3) (vt vm : Value) (lr lb lk : Nat → Value) (w : World) (hT : l_1 w vt lr lb b.tabs) (hM : n_0 w vm lk b.macs) (l : List (Int × Int)) (xl : Value) (hxl : SlAt w xl 2 l.length (pairs l)) :
  Calls Try.prog 29 #[(Value.agg #[(iv b.scales), vt, vm]), xl] w (Ret fun v w' => v = .bool (ab_6 b l) ∧ Ext NoB w w') := by
 refine b_4 Try.func29 rfl fun c H => ?_
 replace H : Fr 14 [] [(0, (Value.agg #[(iv b.scales), vt, vm])), (1, xl)] c := H
 have Z : Sep NoB w w [(d_2 false vt lr lb b.tabs), (d_4 false vm lk b.macs), (sl xl 2 l.length (pairs l))] := f_4 ⟨rfl, hT, rfl, hM, rfl, hxl, trivial⟩
 refine m2 (s2 H (f_5 Z rfl H.e (cs := [(iv b.scales), vt, vm]) rfl) ?_)
 rintro r _ w3 ⟨b4, rfl, C⟩ Y; clear H Z c
 refine s1 Y (a_1 rfl (evc _ _)) fun s T => ?_; clear Y r
 refine n4 (s1 T (b_8 rfl k_7 (T.ev rfl) (C.bk 0 rfl) (l := [(iv b.scales), vt, vm]) rfl rfl) fun t U => ?_); clear T s
 refine s1 U (a_0 rfl U.e) fun d D => ?_; clear U t
 refine s2 D (a_6 rfl en_16 (ev2 D.e D.e) (thin_ok b vt vm lr lb lk _ (b_1 (C.ok 1 _ rfl)) (a_8 (C.ok 2 _ rfl)) l _ (C.sk 3 rfl))) ?_
 rintro f _ y ⟨rfl, V⟩ I; have B := C.step V; clear V D C d
 refine s1 I (a_0 rfl I.e) fun X A => ?_; clear I f
 rcases Bool.eq_false_or_eq_true ((ac_7 b l.length)) with G | G
 ·skip
  rw [G] at A
  have hthl := thin_iff.1 G; have hth := hthl.1
  refine s5 A (b_8 rfl k_7 (A.ev rfl) (B.bk 0 rfl) (l := [(iv b.scales), vt, vm]) rfl rfl) fun g J => ?_; clear A X
  refine s5 J (a_0 rfl J.e) fun h E => ?_; clear J g
  refine s6 E (a_6 rfl en_27 (ev2 E.e E.e) (fault_ok b vt vm lr lb lk _ (b_1 (B.ok 1 _ rfl)) (a_8 (B.ok 2 _ rfl)) hth l _ (B.sk 3 rfl) (by omega))) ?_
  rintro i _ z ⟨rfl, W⟩ K; have a := B.step W; clear W E B h
  refine s5 K (e_9 rfl K.e (evc _ _)) fun j F => ?_; clear K i
  refine s1 F (a_7 rfl F.e F.e) fun k L => ?_; clear F j
  refine s1 L (a_1 rfl L.e) fun u O => ?_; clear L k
  refine n1 (c_5 (b_0 O (.inl rfl) (a_2 O rfl (.tmp rfl)) ?_))
  exact ⟨congrArg Value.bool (by unfold ab_6; simp [*]), a.ext⟩
 skip
 rw [G] at A
 refine s3 A fun m P => ?_; clear A X
 refine s3 P fun n Q => ?_; clear P m
 refine s3 Q fun o R => ?_; clear Q n
 refine s3 R fun p M => ?_; clear R o
 refine s1 M (c_3 rfl M.e (evc _ _)) fun q N => ?_; clear M p
 refine s1 N (a_1 rfl N.e) fun x S => ?_; clear N q
 refine n1 (c_5 (b_0 S (.inl rfl) (a_2 S rfl (.tmp rfl)) ?_))
 exact ⟨congrArg Value.bool (by unfold ab_6; simp [*]), B.ext⟩
theorem g_0 (sa : h_2) (xa : Value) (ea : Int) (sc : h_2) (xc : Value) (ec : Int) (w : World) (hxa : SlAt w xa 2 sa.length (pairs sa)) (hxc : SlAt w xc 2 sc.length (pairs sc)) (hal : sa.length ≤ 1000000) :
  Calls Try.prog 30 #[xa, (iv ea), xc, (iv ec)] w (Ret fun v w' => v = .bool (narB sa ea sc ec) ∧ Ext NoB w w') := by
 refine b_4 Try.func30 rfl fun a0 AJ => ?_
 replace AJ : Fr 75 [] [(0, xa), (1, (iv ea)), (2, xc), (3, (iv ec))] a0 := AJ
 have F : Sep NoB w w [(sl xa 2 sa.length (pairs sa)), (sl xc 2 sc.length (pairs sc))] := f_4 ⟨rfl, hxa, rfl, hxc, trivial⟩
 refine m2 (s1 AJ (a_1 rfl (evc _ _)) fun a1 Al => ?_); clear AJ a0
 refine n2 (m2 (s1 Al (a_0 rfl Al.e) fun a3 Ap => ?_)); clear Al a1
 refine s1 Ap (l_5 rfl Ap.e (evc _ _)) fun a5 I => ?_; clear Ap a3
 refine n1 ?_
 by_cases BJ : ea = 0
 ·skip
  rw [decide_eq_true BJ] at I
  refine c_2 I rfl (d_7 (b_5 (c_1 (m2 (s1 I (a_0 rfl I.e) fun a8 A6 => ?_))))); clear I a5
  refine s1 A6 (l_5 rfl A6.e (evc _ _)) fun Bq x => ?_; clear A6 a8
  refine s1 x (a_0 rfl x.e) fun BG J => ?_; clear x Bq
  by_cases BA : ec = 0
  ·skip
   rw [decide_eq_true BA] at J
   refine s5 J (a_0 rfl J.e) fun Br y => ?_; clear J BG
   refine s5 y (d_3 rfl t_3 y.e (F.sk 0 rfl)) fun Bs z => ?_; clear y Br
   refine s5 z (a_0 rfl z.e) fun Bt AA => ?_; clear z Bs
   refine s5 AA (d_3 rfl t_3 AA.e (F.sk 1 rfl)) fun Bu l => ?_; clear AA Bt
   refine s5 l (l_5 rfl l.e l.e) fun Bv m => ?_; clear l Bu
   refine s1 m (c_3 rfl m.e m.e) fun BH D => ?_; clear m Bv
   refine n1 ?_
   by_cases BB : (sa.length : Int) = (sc.length : Int)
   ·skip
    rw [decide_eq_true BB] at D
    refine c_2 D rfl (d_7 (b_5 (c_1 (c_1 ?_))))
    have Am := D.as [(0, xa), (2, xc)] rfl; clear D
    refine a_5 (s1 Am (a_1 rfl (evc _ _)) fun Bw An => ?_); clear Am BH
    refine n1 (d_1 ?_)
    have Ao := An.as [(9, (iv 0)), (0, xa), (2, xc)] rfl; clear An
    refine h_9 (G := Nat) (fun (k : Nat) a_ w_ => Fr 75 [] [(9, (iv (k : Int))), (0, xa), (2, xc)] a_ ∧ Sep NoB w w_ [(sl xa 2 sa.length (pairs sa)), (sl xc 2 sc.length (pairs sc))] ∧ (k ≤ sa.length) ∧ (sa.length = sc.length) ∧ (∀ i, i < k → (sc.getD i (0, 0)).1 ≤ (sa.getD i (0, 0)).1 ∧ (sa.getD i (0, 0)).2 ≤ (sc.getD i (0, 0)).2 ∧ (sa.getD i (0, 0)).1 ≤ (sa.getD i (0, 0)).2)) (fun k => sa.length - k) 0 ⟨Ao.as _ rfl, F, by omega, by omega, (fun _ h => absurd h (Nat.not_lt_zero _))⟩ ?_
    clear Ao F Bw
    rintro k Bx CO ⟨AB, H, hkk, hln, hq_⟩
    refine c_1 (m2 (s1 AB (a_0 rfl AB.e) fun By AC => ?_)); clear AB Bx
    refine s1 AC (a_0 rfl AC.e) fun Bz AD => ?_; clear AC By
    refine s1 AD (d_3 rfl t_3 AD.e (H.sk 0 rfl)) fun B0 n => ?_; clear AD Bz
    refine s1 n (g_7 rfl n.e n.e) fun B1 E => ?_; clear n B0
    refine n1 ?_
    by_cases BC : (k : Int) < (sa.length : Int)
    ·skip
     rw [decide_eq_true BC] at E
     refine c_7 E rfl (d_7 (b_5 (c_1 (d_1 (c_1 ?_)))))
     have o := E.as [(9, (iv (k : Int))), (0, xa), (2, xc)] rfl; clear E
     by_cases AI : ((sa.getD k (0, 0)).1) < ((sc.getD k (0, 0)).1)
     ·skip
      have Aq := o.as [(9, (iv (k : Int))), (0, xa), (2, xc)] rfl; clear o
      refine i_9 mixed Aq H 35 [[], [], [0, 1], [2], [3], [], [], [5, 6], [7], [8], [4, 9], [10], [11], [11], [11, 12, 13], [11, 14], [11, 15], [11], [11], [11, 17, 18], [11, 19], [11, 20], [11, 16, 21], [11, 22], [23], [24], [24], [24, 25, 26], [24, 27], [24, 28], [24], [24], [24, 30, 31], [24, 32], [24, 33]] [(Yd.val xa), (Yd.val (iv (k : Int))), (Yd.val (eptr xa (k * 2))), (Yd.val (eptr xa (k * 2 + 0))), (Yd.val (iv ((sa.getD k (0, 0)).1))), (Yd.val xc), (Yd.val (iv (k : Int))), (Yd.val (eptr xc (k * 2))), (Yd.val (eptr xc (k * 2 + 0))), (Yd.val (iv ((sc.getD k (0, 0)).1))), (Yd.val (Value.bool true)), (Yd.val (Value.bool true)), (Yd.val undef), (Yd.val undef), (Yd.val undef), (Yd.val undef), (Yd.val undef), (Yd.val undef), (Yd.val undef), (Yd.val undef), (Yd.val undef), (Yd.val undef), (Yd.val undef), (Yd.val (Value.bool true)), (Yd.val (Value.bool true)), (Yd.val undef), (Yd.val undef), (Yd.val undef), (Yd.val undef), (Yd.val undef), (Yd.val undef), (Yd.val undef), (Yd.val undef), (Yd.val undef), (Yd.val undef)] (by decide +kernel) rfl rfl ?_ ?_
      ·skip
       refine dq (fun a w hA hS hd => a_0 rfl hA.e) ?_
       refine dq (fun a w hA hS hd => a_0 rfl hA.e) ?_
       refine dq (fun a w hA hS hd => b_6 rfl t_3 g_1 (hq hd 0) (i := k) (hq hd 1) (hS.sk 0 rfl) (by decide) (by omega)) ?_
       refine dq (fun a w hA hS hd => d_0 rfl n_2 (hq hd 2) (hS.sk 0 rfl) (by rw [((hS.sk 0 rfl)).1]; omega)) ?_
       refine dq (fun a w hA hS hd => c_6 rfl ty_3 (hq hd 3) (hS.sk 0 rfl) (g_8 (by omega))) ?_
       refine dq (fun a w hA hS hd => a_0 rfl hA.e) ?_
       refine dq (fun a w hA hS hd => a_0 rfl hA.e) ?_
       refine dq (fun a w hA hS hd => b_6 rfl t_3 g_1 (hq hd 5) (i := k) (hq hd 6) (hS.sk 1 rfl) (by decide) (by omega)) ?_
       refine dq (fun a w hA hS hd => d_0 rfl n_2 (hq hd 7) (hS.sk 1 rfl) (by rw [((hS.sk 1 rfl)).1]; omega)) ?_
       refine dq (fun a w hA hS hd => c_6 rfl ty_3 (hq hd 8) (hS.sk 1 rfl) (g_8 (by omega))) ?_
       refine ⟨fun a w hA hS hd => by have e4 := hx hd 4; have e9 := hx hd 9; exact d_9 rfl (dv (g_7 rfl (c_8 e4) (c_8 e9)) hS (by show Value.bool _ = _; simp only [decide_eq_true AI, decide_true, decide_false, Bool.not_true, Bool.not_false])), ?_⟩
       refine dq (fun a w hA hS hd => a_0 rfl (hq hd 10)) ?_
       refine dn 11 (dn 11 (dn 11 (dn 11 (dn 11 (dn 11 (dn 11 (dn 11 (dn 11 (dn 11 (dn 11 (dq (fun a w hA hS hd => a_7 rfl (hq hd 11) (evc _ _)) ?_)))))))))))
       refine dq (fun a w hA hS hd => a_0 rfl (hq hd 23)) ?_
       refine dn 24 (dn 24 (dn 24 (dn 24 (dn 24 (dn 24 (dn 24 (dn 24 (dn 24 (dn 24 ?_)))))))))
       trivial
      intro B3 CP Ar Bn s; clear Aq H
      have As := Ar.add (hz s 24); clear Ar
      have At := As.add (hz s 29); clear As
      have Au := At.add (hz s 34); clear At
      clear s
      refine s3 Au fun B4 AE => ?_; clear Au B3
      refine s1 AE (a_7 rfl AE.e (evc _ _)) fun B5 AF => ?_; clear AE B4
      refine n1 (c_7 AF rfl (c_1 ?_))
      have Av := AF.as [] rfl; clear AF
      refine a_5 (s1 Av (a_1 rfl (evc _ _)) fun CM Aw => ?_); clear Av B5
      exact n1 (c_5 (c_9 (a_9 (a_9 (c_9 (a_9 (b_0 Aw (.inl rfl) (a_2 Aw rfl (.tmp rfl)) (⟨congrArg Value.bool (Eq.symm (by first | exact nar_b (by assumption) (by assumption) (by assumption) | exact nar_c (by assumption) (by first | exact .inl (by assumption) | exact .inr (by assumption)) | exact nar_d (k := k) (by assumption) (by omega) (by omega))), Bn.ext⟩))))))))
     skip
     have p := o.as [(9, (iv (k : Int))), (0, xa), (2, xc)] rfl; clear o
     by_cases BD : ((sc.getD k (0, 0)).2) < ((sa.getD k (0, 0)).2)
     ·skip
      have Ax := p.as [(9, (iv (k : Int))), (0, xa), (2, xc)] rfl; clear p
      refine i_9 mixed Ax H 35 [[], [], [0, 1], [2], [3], [], [], [5, 6], [7], [8], [4, 9], [10], [11], [11], [11, 12, 13], [11, 14], [11, 15], [11], [11], [11, 17, 18], [11, 19], [11, 20], [11, 16, 21], [11, 22], [23], [24], [24], [24, 25, 26], [24, 27], [24, 28], [24], [24], [24, 30, 31], [24, 32], [24, 33]] [(Yd.val xa), (Yd.val (iv (k : Int))), (Yd.val (eptr xa (k * 2))), (Yd.val (eptr xa (k * 2 + 0))), (Yd.val (iv ((sa.getD k (0, 0)).1))), (Yd.val xc), (Yd.val (iv (k : Int))), (Yd.val (eptr xc (k * 2))), (Yd.val (eptr xc (k * 2 + 0))), (Yd.val (iv ((sc.getD k (0, 0)).1))), (Yd.val (Value.bool false)), (Yd.val (Value.bool false)), (Yd.val xa), (Yd.val (iv (k : Int))), (Yd.val (eptr xa (k * 2))), (Yd.val (eptr xa (k * 2 + 1))), (Yd.val (iv ((sa.getD k (0, 0)).2))), (Yd.val xc), (Yd.val (iv (k : Int))), (Yd.val (eptr xc (k * 2))), (Yd.val (eptr xc (k * 2 + 1))), (Yd.val (iv ((sc.getD k (0, 0)).2))), (Yd.val (Value.bool true)), (Yd.val (Value.bool true)), (Yd.val (Value.bool true)), (Yd.val undef), (Yd.val undef), (Yd.val undef), (Yd.val undef), (Yd.val undef), (Yd.val undef), (Yd.val undef), (Yd.val undef), (Yd.val undef), (Yd.val undef)] (by decide +kernel) rfl rfl ?_ ?_
      ·skip
       refine dq (fun a w hA hS hd => a_0 rfl hA.e) ?_
       refine dq (fun a w hA hS hd => a_0 rfl hA.e) ?_
       refine dq (fun a w hA hS hd => b_6 rfl t_3 g_1 (hq hd 0) (i := k) (hq hd 1) (hS.sk 0 rfl) (by decide) (by omega)) ?_
       refine dq (fun a w hA hS hd => d_0 rfl n_2 (hq hd 2) (hS.sk 0 rfl) (by rw [((hS.sk 0 rfl)).1]; omega)) ?_
       refine dq (fun a w hA hS hd => c_6 rfl ty_3 (hq hd 3) (hS.sk 0 rfl) (g_8 (by omega))) ?_
       refine dq (fun a w hA hS hd => a_0 rfl hA.e) ?_
       refine dq (fun a w hA hS hd => a_0 rfl hA.e) ?_
       refine dq (fun a w hA hS hd => b_6 rfl t_3 g_1 (hq hd 5) (i := k) (hq hd 6) (hS.sk 1 rfl) (by decide) (by omega)) ?_
       refine dq (fun a w hA hS hd => d_0 rfl n_2 (hq hd 7) (hS.sk 1 rfl) (by rw [((hS.sk 1 rfl)).1]; omega)) ?_
       refine dq (fun a w hA hS hd => c_6 rfl ty_3 (hq hd 8) (hS.sk 1 rfl) (g_8 (by omega))) ?_
       refine ⟨fun a w hA hS hd => by have e4 := hx hd 4; have e9 := hx hd 9; exact d_9 rfl (dv (g_7 rfl (c_8 e4) (c_8 e9)) hS (by show Value.bool _ = _; simp only [decide_eq_false AI, decide_true, decide_false, Bool.not_true, Bool.not_false])), ?_⟩
       refine dq (fun a w hA hS hd => a_0 rfl (hq hd 10)) ?_
       refine dy 11 (fun a w hA hS hd => a_0 rfl hA.e) ?_
       refine dy 11 (fun a w hA hS hd => a_0 rfl hA.e) ?_
       refine dy 11 (fun a w hA hS hd => b_6 rfl t_3 g_1 (hq hd 12) (i := k) (hq hd 13) (hS.sk 0 rfl) (by decide) (by omega)) ?_
       refine dy 11 (fun a w hA hS hd => d_0 rfl o_2 (hq hd 14) (hS.sk 0 rfl) (by rw [((hS.sk 0 rfl)).1]; omega)) ?_
       refine dy 11 (fun a w hA hS hd => c_6 rfl ty_3 (hq hd 15) (hS.sk 0 rfl) (i_8 (by omega))) ?_
       refine dy 11 (fun a w hA hS hd => a_0 rfl hA.e) ?_
       refine dy 11 (fun a w hA hS hd => a_0 rfl hA.e) ?_
       refine dy 11 (fun a w hA hS hd => b_6 rfl t_3 g_1 (hq hd 17) (i := k) (hq hd 18) (hS.sk 1 rfl) (by decide) (by omega)) ?_
       refine dy 11 (fun a w hA hS hd => d_0 rfl o_2 (hq hd 19) (hS.sk 1 rfl) (by rw [((hS.sk 1 rfl)).1]; omega)) ?_
       refine dy 11 (fun a w hA hS hd => c_6 rfl ty_3 (hq hd 20) (hS.sk 1 rfl) (i_8 (by omega))) ?_
       refine ⟨fun a w hA hS hd => by have Ag := hx hd 11; have Ah := hx hd 16; have Ai := hx hd 21; exact j_4 rfl rfl Ag (dv (k_0 rfl (c_8 Ah) (c_8 Ai)) hS (by show Value.bool _ = _; simp only [decide_eq_true BD, decide_true, decide_false, Bool.not_true, Bool.not_false])), ?_⟩
       refine dq (fun a w hA hS hd => c_3 rfl (hq hd 11) (hq hd 22)) ?_
       refine dq (fun a w hA hS hd => a_0 rfl (hq hd 23)) ?_
       refine dn 24 (dn 24 (dn 24 (dn 24 (dn 24 (dn 24 (dn 24 (dn 24 (dn 24 (dn 24 ?_)))))))))
       trivial
      intro B6 CQ Ay Bo t; clear Ax H
      have Az := Ay.add (hz t 24); clear Ay
      have A0 := Az.add (hz t 29); clear Az
      have A1 := A0.add (hz t 34); clear A0
      clear t
      refine s3 A1 fun B7 AG => ?_; clear A1 B6
      refine s1 AG (a_7 rfl AG.e (evc _ _)) fun B8 AH => ?_; clear AG B7
      refine n1 (c_7 AH rfl (c_1 ?_))
      have A2 := AH.as [] rfl; clear AH
      refine a_5 (s1 A2 (a_1 rfl (evc _ _)) fun CN A3 => ?_); clear A2 B8
      exact n1 (c_5 (c_9 (a_9 (a_9 (c_9 (a_9 (b_0 A3 (.inl rfl) (a_2 A3 rfl (.tmp rfl)) (⟨congrArg Value.bool (Eq.symm (by first | exact nar_b (by assumption) (by assumption) (by assumption) | exact nar_c (by assumption) (by first | exact .inl (by assumption) | exact .inr (by assumption)) | exact nar_d (k := k) (by assumption) (by omega) (by omega))), Bo.ext⟩))))))))
     skip
     have A4 := p.as [(9, (iv (k : Int))), (0, xa), (2, xc)] rfl; clear p
     refine i_9 mixed A4 H 35 [[], [], [0, 1], [2], [3], [], [], [5, 6], [7], [8], [4, 9], [10], [11], [11], [11, 12, 13], [11, 14], [11, 15], [11], [11], [11, 17, 18], [11, 19], [11, 20], [11, 16, 21], [11, 22], [23], [24], [24], [24, 25, 26], [24, 27], [24, 28], [24], [24], [24, 30, 31], [24, 32], [24, 33]] [(Yd.val xa), (Yd.val (iv (k : Int))), (Yd.val (eptr xa (k * 2))), (Yd.val (eptr xa (k * 2 + 0))), (Yd.val (iv ((sa.getD k (0, 0)).1))), (Yd.val xc), (Yd.val (iv (k : Int))), (Yd.val (eptr xc (k * 2))), (Yd.val (eptr xc (k * 2 + 0))), (Yd.val (iv ((sc.getD k (0, 0)).1))), (Yd.val (Value.bool false)), (Yd.val (Value.bool false)), (Yd.val xa), (Yd.val (iv (k : Int))), (Yd.val (eptr xa (k * 2))), (Yd.val (eptr xa (k * 2 + 1))), (Yd.val (iv ((sa.getD k (0, 0)).2))), (Yd.val xc), (Yd.val (iv (k : Int))), (Yd.val (eptr xc (k * 2))), (Yd.val (eptr xc (k * 2 + 1))), (Yd.val (iv ((sc.getD k (0, 0)).2))), (Yd.val (Value.bool false)), (Yd.val (Value.bool false)), (Yd.val (Value.bool false)), (Yd.val xa), (Yd.val (iv (k : Int))), (Yd.val (eptr xa (k * 2))), (Yd.val (eptr xa (k * 2 + 0))), (Yd.val (iv ((sa.getD k (0, 0)).1))), (Yd.val xa), (Yd.val (iv (k : Int))), (Yd.val (eptr xa (k * 2))), (Yd.val (eptr xa (k * 2 + 1))), (Yd.val (iv ((sa.getD k (0, 0)).2)))] (by decide +kernel) rfl rfl ?_ ?_
     ·skip
      refine dq (fun a w hA hS hd => a_0 rfl hA.e) ?_
      refine dq (fun a w hA hS hd => a_0 rfl hA.e) ?_
      refine dq (fun a w hA hS hd => b_6 rfl t_3 g_1 (hq hd 0) (i := k) (hq hd 1) (hS.sk 0 rfl) (by decide) (by omega)) ?_
      refine dq (fun a w hA hS hd => d_0 rfl n_2 (hq hd 2) (hS.sk 0 rfl) (by rw [((hS.sk 0 rfl)).1]; omega)) ?_
      refine dq (fun a w hA hS hd => c_6 rfl ty_3 (hq hd 3) (hS.sk 0 rfl) (g_8 (by omega))) ?_
      refine dq (fun a w hA hS hd => a_0 rfl hA.e) ?_
      refine dq (fun a w hA hS hd => a_0 rfl hA.e) ?_
      refine dq (fun a w hA hS hd => b_6 rfl t_3 g_1 (hq hd 5) (i := k) (hq hd 6) (hS.sk 1 rfl) (by decide) (by omega)) ?_
      refine dq (fun a w hA hS hd => d_0 rfl n_2 (hq hd 7) (hS.sk 1 rfl) (by rw [((hS.sk 1 rfl)).1]; omega)) ?_
      refine dq (fun a w hA hS hd => c_6 rfl ty_3 (hq hd 8) (hS.sk 1 rfl) (g_8 (by omega))) ?_
      refine ⟨fun a w hA hS hd => by have e4 := hx hd 4; have e9 := hx hd 9; exact d_9 rfl (dv (g_7 rfl (c_8 e4) (c_8 e9)) hS (by show Value.bool _ = _; simp only [decide_eq_false AI, decide_true, decide_false, Bool.not_true, Bool.not_false])), ?_⟩
      refine dq (fun a w hA hS hd => a_0 rfl (hq hd 10)) ?_
      refine dy 11 (fun a w hA hS hd => a_0 rfl hA.e) ?_
      refine dy 11 (fun a w hA hS hd => a_0 rfl hA.e) ?_
      refine dy 11 (fun a w hA hS hd => b_6 rfl t_3 g_1 (hq hd 12) (i := k) (hq hd 13) (hS.sk 0 rfl) (by decide) (by omega)) ?_
      refine dy 11 (fun a w hA hS hd => d_0 rfl o_2 (hq hd 14) (hS.sk 0 rfl) (by rw [((hS.sk 0 rfl)).1]; omega)) ?_
      refine dy 11 (fun a w hA hS hd => c_6 rfl ty_3 (hq hd 15) (hS.sk 0 rfl) (i_8 (by omega))) ?_
      refine dy 11 (fun a w hA hS hd => a_0 rfl hA.e) ?_
      refine dy 11 (fun a w hA hS hd => a_0 rfl hA.e) ?_
      refine dy 11 (fun a w hA hS hd => b_6 rfl t_3 g_1 (hq hd 17) (i := k) (hq hd 18) (hS.sk 1 rfl) (by decide) (by omega)) ?_
      refine dy 11 (fun a w hA hS hd => d_0 rfl o_2 (hq hd 19) (hS.sk 1 rfl) (by rw [((hS.sk 1 rfl)).1]; omega)) ?_
      refine dy 11 (fun a w hA hS hd => c_6 rfl ty_3 (hq hd 20) (hS.sk 1 rfl) (i_8 (by omega))) ?_
      refine ⟨fun a w hA hS hd => by have Ag := hx hd 11; have Ah := hx hd 16; have Ai := hx hd 21; exact j_4 rfl rfl Ag (dv (k_0 rfl (c_8 Ah) (c_8 Ai)) hS (by show Value.bool _ = _; simp only [decide_eq_false BD, decide_true, decide_false, Bool.not_true, Bool.not_false])), ?_⟩
      refine dq (fun a w hA hS hd => c_3 rfl (hq hd 11) (hq hd 22)) ?_
      refine dq (fun a w hA hS hd => a_0 rfl (hq hd 23)) ?_
      refine dy 24 (fun a w hA hS hd => a_0 rfl hA.e) ?_
      refine dy 24 (fun a w hA hS hd => a_0 rfl hA.e) ?_
      refine dy 24 (fun a w hA hS hd => b_6 rfl t_3 g_1 (hq hd 25) (i := k) (hq hd 26) (hS.sk 0 rfl) (by decide) (by omega)) ?_
      refine dy 24 (fun a w hA hS hd => d_0 rfl n_2 (hq hd 27) (hS.sk 0 rfl) (by rw [((hS.sk 0 rfl)).1]; omega)) ?_
      refine dy 24 (fun a w hA hS hd => c_6 rfl ty_3 (hq hd 28) (hS.sk 0 rfl) (g_8 (by omega))) ?_
      refine dy 24 (fun a w hA hS hd => a_0 rfl hA.e) ?_
      refine dy 24 (fun a w hA hS hd => a_0 rfl hA.e) ?_
      refine dy 24 (fun a w hA hS hd => b_6 rfl t_3 g_1 (hq hd 30) (i := k) (hq hd 31) (hS.sk 0 rfl) (by decide) (by omega)) ?_
      refine dy 24 (fun a w hA hS hd => d_0 rfl o_2 (hq hd 32) (hS.sk 0 rfl) (by rw [((hS.sk 0 rfl)).1]; omega)) ?_
      refine dy 24 (fun a w hA hS hd => c_6 rfl ty_3 (hq hd 33) (hS.sk 0 rfl) (i_8 (by omega))) ?_
      trivial
     intro B9 CR A5 A9 u; clear A4 H
     have A7 := A5.add (hz u 24); clear A5
     have A8 := A7.add (hz u 29); clear A7
     have q := A8.add (hz u 34); clear A8
     clear u
     refine s5 q (k_0 rfl q.e q.e) fun CA r => ?_; clear q B9
     refine s1 r (c_3 rfl r.e r.e) fun BI C => ?_; clear r CA
     refine n1 ?_
     by_cases BE : ((sa.getD k (0, 0)).2) < ((sa.getD k (0, 0)).1)
     ·skip
      rw [decide_eq_true BE] at C
      refine c_7 C rfl (c_1 ?_)
      have AK := C.as [] rfl; clear C
      refine a_5 (s1 AK (a_1 rfl (evc _ _)) fun CC AL => ?_); clear AK BI
      exact n1 (c_5 (c_9 (a_9 (a_9 (c_9 (a_9 (b_0 AL (.inl rfl) (a_2 AL rfl (.tmp rfl)) (⟨congrArg Value.bool (Eq.symm (by first | exact nar_b (by assumption) (by assumption) (by assumption) | exact nar_c (by assumption) (by first | exact .inl (by assumption) | exact .inr (by assumption)) | exact nar_d (k := k) (by assumption) (by omega) (by omega))), A9.ext⟩))))))))
     skip
     rw [decide_eq_false BE] at C
     refine c_2 C rfl (d_7 (h_0 (b_5 (a_5 (s1 C (a_0 rfl C.e) fun BK N => ?_))))); clear C BI
     refine s1 N (h_4 rfl N.e (evc _ _) (by omega) (by omega)) fun BL O => ?_; clear N BK
     refine s1 O (a_1 rfl O.e) fun CD BF => ?_; clear O BL
     refine e_6 ?_
     exact b_5 ⟨k + 1, ⟨BF.as _ rfl, A9, by omega, hln, (fun i hi => by rcases Nat.lt_succ_iff_lt_or_eq.1 hi with h | h; exact hq_ i h; subst h; omega)⟩, by omega⟩
    skip
    rw [decide_eq_false BC] at E
    refine c_2 E rfl (h_8 (b_7 (b_7 (f_9 (b_5 (c_1 ?_))))))
    have AM := E.as [] rfl; clear E
    refine a_5 (s1 AM (a_1 rfl (evc _ _)) fun CE AN => ?_); clear AM B1
    exact n1 (c_5 (b_0 AN (.inl rfl) (a_2 AN rfl (.tmp rfl)) (⟨congrArg Value.bool (Eq.symm (nar_y (by assumption) (by omega) (by omega) (fun i hi => hq_ i (by omega)))), H.ext⟩)))
   skip
   rw [decide_eq_false BB] at D
   refine c_7 D rfl (c_1 ?_)
   have AO := D.as [] rfl; clear D
   refine a_5 (s1 AO (a_1 rfl (evc _ _)) fun CF AP => ?_); clear AO BH
   exact n1 (c_5 (a_9 (b_0 AP (.inl rfl) (a_2 AP rfl (.tmp rfl)) (⟨congrArg Value.bool (Eq.symm (by first | exact nar_b (by assumption) (by assumption) (by assumption) | exact nar_c (by assumption) (by first | exact .inl (by assumption) | exact .inr (by assumption)) | exact nar_d (k := k) (by assumption) (by omega) (by omega))), F.ext⟩))))
  skip
  rw [decide_eq_false BA] at J
  refine s3 J fun BM AQ => ?_; clear J BG
  refine s3 AQ fun BN AR => ?_; clear AQ BM
  refine s3 AR fun BO AS => ?_; clear AR BN
  refine s3 AS fun BP AT => ?_; clear AS BO
  refine s3 AT fun BQ P => ?_; clear AT BP
  refine s1 P (a_7 rfl P.e (evc _ _)) fun BR Q => ?_; clear P BQ
  refine n1 (c_7 Q rfl (c_1 ?_))
  have AU := Q.as [] rfl; clear Q
  refine a_5 (s1 AU (a_1 rfl (evc _ _)) fun CG AV => ?_); clear AU BR
  exact n1 (c_5 (a_9 (b_0 AV (.inl rfl) (a_2 AV rfl (.tmp rfl)) (⟨congrArg Value.bool (Eq.symm (by first | exact nar_b (by assumption) (by assumption) (by assumption) | exact nar_c (by assumption) (by first | exact .inl (by assumption) | exact .inr (by assumption)) | exact nar_d (k := k) (by assumption) (by omega) (by omega))), F.ext⟩))))
 skip
 rw [decide_eq_false BJ] at I
 refine c_7 I rfl (m2 (s1 I (a_0 rfl I.e) fun BS R => ?_)); clear I a5
 refine s1 R (e_9 rfl R.e (evc _ _)) fun BT S => ?_; clear R BS
 refine s1 S (a_0 rfl S.e) fun Ae A => ?_; clear S BT
 by_cases Ac : ea = 9
 ·skip
  rw [decide_eq_true Ac] at A
  refine s3 A fun BU AW => ?_; clear A Ae
  refine s3 AW fun BV T => ?_; clear AW BU
  refine s1 T (a_7 rfl T.e (evc _ _)) fun BW U => ?_; clear T BV
  refine s1 U (a_0 rfl U.e) fun BX V => ?_; clear U BW
  refine s5 V (a_0 rfl V.e) fun BY W => ?_; clear V BX
  refine s5 W (d_3 rfl t_3 W.e (F.sk 0 rfl)) fun BZ X => ?_; clear W BY
  refine s5 X (e_9 rfl X.e (evc _ _)) fun Ba K => ?_; clear X BZ
  refine s1 K (a_7 rfl K.e K.e) fun Bb Y => ?_; clear K Ba
  refine s1 Y (a_1 rfl Y.e) fun CH AX => ?_; clear Y Bb
  exact n1 (c_5 (a_9 (b_0 AX (.inl rfl) (a_2 AX rfl (.tmp rfl)) (⟨congrArg Value.bool (Eq.symm (nar_a (by assumption) (by first | exact .inl (by assumption) | exact .inr (by assumption)))), F.ext⟩))))
 skip
 rw [decide_eq_false Ac] at A
 refine s5 A (a_0 rfl A.e) fun Bc Z => ?_; clear A Ae
 refine s5 Z (e_9 rfl Z.e (evc _ _)) fun Bd L => ?_; clear Z Bc
 refine s1 L (c_3 rfl L.e L.e) fun Be b => ?_; clear L Bd
 refine s1 b (a_0 rfl b.e) fun Af B => ?_; clear b Be
 by_cases Ad : ea = 11
 ·skip
  rw [decide_eq_true Ad] at B
  refine s5 B (a_0 rfl B.e) fun Bf c => ?_; clear B Af
  refine s5 c (d_3 rfl t_3 c.e (F.sk 0 rfl)) fun Bg d => ?_; clear c Bf
  refine s5 d (e_9 rfl d.e (evc _ _)) fun Bh M => ?_; clear d Bg
  refine s1 M (a_7 rfl M.e M.e) fun Bi f => ?_; clear M Bh
  refine s1 f (a_1 rfl f.e) fun CI AY => ?_; clear f Bi
  exact n1 (c_5 (a_9 (b_0 AY (.inl rfl) (a_2 AY rfl (.tmp rfl)) (⟨congrArg Value.bool (Eq.symm (nar_a (by assumption) (by first | exact .inl (by assumption) | exact .inr (by assumption)))), F.ext⟩))))
 skip
 rw [decide_eq_false Ad] at B
 refine s3 B fun Bj AZ => ?_; clear B Af
 refine s3 AZ fun Bk Aa => ?_; clear AZ Bj
 refine s3 Aa fun Bl g => ?_; clear Aa Bk
 refine s1 g (c_3 rfl g.e (evc _ _)) fun Bm j => ?_; clear g Bl
 refine s1 j (a_1 rfl j.e) fun CJ Ab => ?_; clear j Bm
 exact n1 (c_5 (a_9 (b_0 Ab (.inl rfl) (a_2 Ab rfl (.tmp rfl)) (⟨congrArg Value.bool (Eq.symm (by first | exact nar_b (by assumption) (by assumption) (by assumption) | exact nar_c (by assumption) (by first | exact .inl (by assumption) | exact .inr (by assumption)) | exact nar_d (k := k) (by assumption) (by omega) (by omega))), F.ext⟩))))
end Go.Proofs.Ytohgladndklciaa

namespace Go.Hard
section
variable {b : h_3} {l : List (Int × Int)} {z : List Int} {t : TabD} {k : Nat}
end
end Go.Hard

namespace Go.Hard
section
variable {n m next k : Nat} {p : List Int → Bool} {s : List Int} {l : List (Int × Int)} {b : h_3}
theorem read_V (hc : f_6 b = 0) (hl : t_5 b l) : o_7 b l = 0 := by
  have hlen := hl.len
  refine read_0 hc (by omega) (fun i hi => readB_y (j_3.2 ?_) (j_3.2 (hl.read i hi))) hl.off
  have := hl.mac i hi
  omega
def Below0 (s : List Int) (k : Nat) : Prop := ∀ y ∈ s, (0 : Int) ≤ y ∧ y < (k : Int)
theorem Below0.nil : Below0 [] k := fun _ h => by cases h
end
end Go.Hard

namespace Go.Hard
theorem r_0 (b : h_3) (l : List (Int × Int)) : j_0 b l = none ∨ ∃ t, j_0 b l = some t := by
  cases h : j_0 b l with
  | none => exact .inl rfl
  | some t => exact .inr ⟨t, rfl⟩
theorem bias_iff (bl : List (Int × Int × Int)) : ∀ k, k ≤ bl.length → ∀ c : Int, ((k_1 bl k).1 ≤ c ↔ -100000 ≤ c ∧ ∀ i, i < k → (bl.getD i (0, 0, 0)).2.2 - (bl.getD i (0, 0, 0)).2.1 ≤ c) ∧ (c ≤ (k_1 bl k).2 ↔ c ≤ 100000 ∧ ∀ i, i < k → c ≤ (bl.getD i (0, 0, 0)).2.2 - (bl.getD i (0, 0, 0)).1)
  | 0, _, c => by
    unfold k_1
    exact ⟨⟨fun h => ⟨h, fun _ h => absurd h (Nat.not_lt_zero _)⟩, fun h => h.1⟩, ⟨fun h => ⟨h, fun _ h => absurd h (Nat.not_lt_zero _)⟩, fun h => h.1⟩⟩
  | k + 1, hk, c => by
    have ih := bias_iff bl k (by omega) c
    rw [k_1]; dsimp only [cutR]
    constructor
    · rw [Int.max_le, ih.1]
      constructor
      · rintro ⟨⟨h1, h2⟩, h3⟩
        refine ⟨h1, fun i hi => ?_⟩
        rcases Nat.lt_succ_iff_lt_or_eq.1 hi with hi | rfl
        · exact h2 i hi
        · exact h3
      · exact fun h => ⟨⟨h.1, fun i hi => h.2 i (by omega)⟩, h.2 k (by omega)⟩
    · rw [Int.le_min, ih.2]
      constructor
      · rintro ⟨⟨h1, h2⟩, h3⟩
        refine ⟨h1, fun i hi => ?_⟩
        rcases Nat.lt_succ_iff_lt_or_eq.1 hi with hi | rfl
        · exact h2 i hi
        · exact h3
      · exact fun h => ⟨⟨h.1, fun i hi => h.2 i (by omega)⟩, h.2 k (by omega)⟩
theorem bias_all (m : MacD) (c : Int) : ((e_2 m).1 ≤ c ↔ -100000 ≤ c ∧ ∀ x ∈ m.blocks, x.2.2 - x.2.1 ≤ c) ∧ (c ≤ (e_2 m).2 ↔ c ≤ 100000 ∧ ∀ x ∈ m.blocks, c ≤ x.2.2 - x.1) := by
  have h := bias_iff m.blocks m.blocks.length (Nat.le_refl _) c
  have e : ∀ P : Int × Int × Int → Prop, (∀ i, i < m.blocks.length → P (m.blocks.getD i (0, 0, 0))) ↔ ∀ x ∈ m.blocks, P x := fun P =>
    ⟨fun h x hx => by
      obtain ⟨i, hi, e⟩ := List.getElem_of_mem hx
      have := h i hi
      simpa only [List.getD, List.getElem?_eq_getElem hi, Option.getD_some, e] using this, fun h i hi => h _ (i_7 hi)⟩
  unfold e_2
  rw [h.1, h.2, e (fun x => x.2.2 - x.2.1 ≤ c), e (fun x => c ≤ x.2.2 - x.1)]
  exact ⟨Iff.rfl, Iff.rfl⟩
theorem bias_narrow {m m' : MacD} (h : ∀ x ∈ m.blocks, ∃ y ∈ m'.blocks, x.2.2 - x.2.1 ≤ y.2.2 - y.2.1 ∧ y.2.2 - y.1 ≤ x.2.2 - x.1) : (e_2 m).1 ≤ (e_2 m').1 ∧ (e_2 m').2 ≤ (e_2 m).2 := by
  have h1 := ((bias_all m' (e_2 m').1).1.1 (Int.le_refl _))
  have h2 := ((bias_all m' (e_2 m').2).2.1 (Int.le_refl _))
  refine ⟨(bias_all m _).1.2 ⟨h1.1, fun x hx => ?_⟩, (bias_all m _).2.2 ⟨h2.1, fun x hx => ?_⟩⟩ <;> obtain ⟨y, hy, e1, e2⟩ := h x hx
  · have := h1.2 y hy; omega
  · have := h2.2 y hy; omega
theorem bias_same {m m' : MacD} (h : ∀ x, x ∈ m.blocks ↔ x ∈ m'.blocks) : e_2 m = e_2 m' := by
  have a := bias_narrow (m := m) (m' := m') fun x hx => ⟨x, (h x).1 hx, Int.le_refl _, Int.le_refl _⟩
  have b := bias_narrow (m := m') (m' := m) fun x hx => ⟨x, (h x).2 hx, Int.le_refl _, Int.le_refl _⟩
  exact Prod.ext (by omega) (by omega)
def InR (b : h_3) (s : h_2) (x : Int × Int) : Prop := x.2 - (e_2 (b.macs.getD x.1.toNat mac0)).2 ≤ (at' s (b.macs.getD x.1.toNat mac0).scale.toNat).1 ∧ (at' s (b.macs.getD x.1.toNat mac0).scale.toNat).2 ≤ x.2 - (e_2 (b.macs.getD x.1.toNat mac0)).1
section
variable {b b' : h_3} {l l' : List (Int × Int)} {s : h_2}
theorem sol_iff (hb : o_6 b) (hl : t_5 b l) : Sol b.scales.toNat b.tabs (w_0 b l) s ↔ Sub b.scales.toNat s e_7 ∧ Full b.scales.toNat s ∧ (∀ t ∈ b.tabs, aa_5 t s) ∧ ∀ x ∈ l, InR b s x := by
  have e : (∀ j, j < l.length → (rangeOf b l j).1 ≤ (at' s (p_2 b l j)).1 ∧ (at' s (p_2 b l j)).2 ≤ (rangeOf b l j).2) ↔ ∀ x ∈ l, InR b s x :=
    ⟨fun h x hx => by
      obtain ⟨i, hi, e⟩ := List.getElem_of_mem hx
      have := h i hi
      unfold rangeOf p_2 at this
      simp only [List.getD, List.getElem?_eq_getElem hi, Option.getD_some, e] at this
      exact this, fun h i hi => h _ (i_7 hi)⟩
  have h := start_iff hb hl rfl (s := e_7) hb.four (s' := s) l.length (Nat.le_refl _)
  rw [e] at h
  constructor
  · rintro ⟨h1, h2, h3⟩
    exact ⟨(h.1 h1).1, h2, h3, (h.1 h1).2⟩
  · rintro ⟨h1, h2, h3, h4⟩
    exact ⟨h.2 ⟨h1, h4⟩, h2, h3⟩
theorem spans_same (hb : o_6 b) (hl : t_5 b l) (hb' : o_6 b') (hl' : t_5 b' l') (hn : b'.scales = b.scales) (ht : ∀ t, t ∈ b'.tabs ↔ t ∈ b.tabs) (hx : ∀ s, (∀ x ∈ l', InR b' s x) ↔ ∀ x ∈ l, InR b s x) : j_0 b' l' = j_0 b l := by
  have h1 := spans_is hb hl
  have h2 := spans_is hb' hl'
  rw [show b'.scales.toNat = b.scales.toNat by rw [hn]] at h2
  refine (h1.same h2 fun s => ?_).symm
  have e := sol_iff (s := s) hb' hl'
  rw [show b'.scales.toNat = b.scales.toNat by rw [hn]] at e
  rw [e, sol_iff hb hl, hx s]
  simp only [ht]
theorem spans_full (hb : o_6 b) (hl : t_5 b l) {t : h_2} (h : j_0 b l = some t) (i : Nat) (hi : i < t.length) : (t.getD i (0, 0)).1 ≤ (t.getD i (0, 0)).2 := by
  have hw := spans_is hb hl
  rw [h] at hw
  exact hw.2.1.full i (by have := hw.1; omega)
theorem q_7 (hb : o_6 b) (hl : t_5 b l) {t : h_2} (h : j_0 b l = some t) : narB t 0 t 0 = true := nar_y rfl rfl rfl fun i hi => ⟨Int.le_refl _, Int.le_refl _, spans_full hb hl h i hi⟩
end
end Go.Hard

namespace Go.Hard
open Go.RowKit Go.Eng
section
variable {X : Nat → Prop} {w0 w : World} {L : List Res}
theorem sep_fact2 {r : Res} (h : Sep X w0 w L) (ho : r.own = false) (hr : r.p w) (hn : ∀ b, r.S b → ∃ (i : Nat) (s : Res), L[i]? = some s ∧ s.own = false ∧ s.S b) : Sep X w0 w (r :: L) :=
  h.fact ho hr fun b hb i s hi hs hbs => by
    obtain ⟨j, t, hj, ht, hbt⟩ := hn b hb
    have hij : i ≠ j := fun e => by subst e; rw [hi] at hj; cases hj; rw [hs] at ht; cases ht
    exact h.apart i j s t hij hi hj hs b hbs hbt
def RoSl (w : World) (L : List Res) (u : Value) (sz n : Nat) (cs : List Value) : Prop := SlAt w u sz n cs ∧ ∀ b, slFoot u cs b → ∃ (i : Nat) (s : Res), L[i]? = some s ∧ s.own = false ∧ s.S b
theorem roSl_sl {i : Nat} {u : Value} {sz n : Nat} {cs : List Value} (h : Sep X w0 w L) (hi : L[i]? = some (sl u sz n cs)) : RoSl w L u sz n cs := ⟨h.sk i hi, fun _ hb => ⟨i, _, hi, rfl, hb⟩⟩
theorem roSl_row {i q : Nat} {vt : Value} {lr lb : Nat → Value} {ts : List TabD} (h : Sep X w0 w L) (hi : L[i]? = some (d_2 false vt lr lb ts)) (hq : q < ts.length) : RoSl w L (lr q) 2 (m_4 ts q) (m_3 ts q) :=
  ⟨(b_1 (h.ok i _ hi)).rows q hq, fun _ hb => ⟨i, _, hi, rfl, .inr (.inl ⟨q, hq, hb⟩)⟩⟩
theorem roSl_brk {i q : Nat} {vt : Value} {lr lb : Nat → Value} {ts : List TabD} (h : Sep X w0 w L) (hi : L[i]? = some (d_2 false vt lr lb ts)) (hq : q < ts.length) : RoSl w L (lb q) 1 (brkN ts q) (brkC ts q) :=
  ⟨(b_1 (h.ok i _ hi)).brks q hq, fun _ hb => ⟨i, _, hi, rfl, .inr (.inr ⟨q, hq, hb⟩)⟩⟩
theorem roSl_blk {i q : Nat} {vm : Value} {lk : Nat → Value} {ms : List MacD} (h : Sep X w0 w L) (hi : L[i]? = some (d_4 false vm lk ms)) (hq : q < ms.length) : RoSl w L (lk q) 3 (blkN ms q) (blkC ms q) :=
  ⟨(a_8 (h.ok i _ hi)).blks q hq, fun _ hb => ⟨i, _, hi, rfl, .inr ⟨q, hq, hb⟩⟩⟩
theorem sep_tabs_ro {v : Value} {e : Nat} {lr lb : Nat → Value} {ts : List TabD} (h : Sep X w0 w (row v e 5 ts.length (i_5 lr lb ts) :: L)) (hr : ∀ j, j < ts.length → RoSl w L (lr j) 2 (m_4 ts j) (m_3 ts j)) (hb : ∀ j, j < ts.length → RoSl w L (lb j) 1 (brkN ts j) (brkC ts j)) : Sep X w0 w (d_2 false v lr lb ts :: L) := by
  have h1 : Sep X w0 w (sl v 5 ts.length (i_5 lr lb ts) :: L) := v_2 h (i := 0) rfl
  have h2 := sep_fact2 (r := d_2 false v lr lb ts) h1 rfl ⟨h1.sk 0 rfl, fun j hj => (hr j hj).1, fun j hj => (hb j hj).1⟩ (fun b hbb => by
    rcases hbb with hbb | ⟨j, hj, hbb⟩ | ⟨j, hj, hbb⟩
    · exact ⟨0, _, rfl, rfl, hbb⟩
    · obtain ⟨i, s, e1, e2, e3⟩ := (hr j hj).2 b hbb; exact ⟨i + 1, s, e1, e2, e3⟩
    · obtain ⟨i, s, e1, e2, e3⟩ := (hb j hj).2 b hbb; exact ⟨i + 1, s, e1, e2, e3⟩)
  have hp := List.pairwise_cons.1 h2.pw
  exact Sep.of_pw h2.ext (fun r hr => h2.mem (by rcases List.mem_cons.1 hr with rfl | hr <;> simp [*])) (fun r hr ho b hb => h2.mineM (by rcases List.mem_cons.1 hr with rfl | hr <;> simp [*]) ho b hb) (List.pairwise_cons.2 ⟨fun r hr => hp.1 r (List.mem_cons_of_mem _ hr), (List.pairwise_cons.1 hp.2).2⟩)
theorem sep_macs_ro {v : Value} {e : Nat} {lk : Nat → Value} {ms : List MacD} (h : Sep X w0 w (row v e 2 ms.length (k_6 lk ms) :: L)) (hk : ∀ j, j < ms.length → RoSl w L (lk j) 3 (blkN ms j) (blkC ms j)) : Sep X w0 w (d_4 false v lk ms :: L) := by
  have h1 : Sep X w0 w (sl v 2 ms.length (k_6 lk ms) :: L) := v_2 h (i := 0) rfl
  have h2 := sep_fact2 (r := d_4 false v lk ms) h1 rfl ⟨h1.sk 0 rfl, fun j hj => (hk j hj).1⟩ (fun b hbb => by
    rcases hbb with hbb | ⟨j, hj, hbb⟩
    · exact ⟨0, _, rfl, rfl, hbb⟩
    · obtain ⟨i, s, e1, e2, e3⟩ := (hk j hj).2 b hbb; exact ⟨i + 1, s, e1, e2, e3⟩)
  have hp := List.pairwise_cons.1 h2.pw
  exact Sep.of_pw h2.ext (fun r hr => h2.mem (by rcases List.mem_cons.1 hr with rfl | hr <;> simp [*])) (fun r hr ho b hb => h2.mineM (by rcases List.mem_cons.1 hr with rfl | hr <;> simp [*]) ho b hb) (List.pairwise_cons.2 ⟨fun r hr => hp.1 r (List.mem_cons_of_mem _ hr), (List.pairwise_cons.1 hp.2).2⟩)
end
def shV (k : Nat) (f : Nat → Value) : Nat → Value := fun i => f (k + i)
def apV (n : Nat) (f g : Nat → Value) : Nat → Value := fun i => if i < n then f i else g (i - n)
theorem apV_lo {n i : Nat} (f g : Nat → Value) (h : i < n) : apV n f g i = f i := if_pos h
theorem apV_hi {n i : Nat} (f g : Nat → Value) (h : ¬ i < n) : apV n f g i = g (i - n) := if_neg h
theorem getD_drop {α : Type} {l : List α} {d : α} {k i : Nat} : (l.drop k).getD i d = l.getD (k + i) d := by simp [List.getD]
theorem getD_app2 {α : Type} {l m : List α} {d : α} {i : Nat} : (l ++ m).getD i d = if i < l.length then l.getD i d else m.getD (i - l.length) d := by
  split
  · rename_i h; simp [List.getD, List.getElem?_append_left h]
  · rename_i h; simp [List.getD, List.getElem?_append_right (by omega : l.length ≤ i)]
section
variable {lr lb lk : Nat → Value} {ts : List TabD} {ms : List MacD} {k : Nat}
theorem tabs_cutLo (h : k ≤ ts.length) : ((i_5 lr lb ts).drop (k * 5)).take ((ts.length - k) * 5) = i_5 (shV k lr) (shV k lb) (ts.drop k) := by
  have hl := p_0 (tabC_len lr lb ts) ts.length
  unfold i_5
  rw [List.take_of_length_le (by rw [List.length_drop, hl, Nat.sub_mul]; exact Nat.le_refl _), flatI_drop (tabC_len lr lb ts) k h, List.length_drop]
  exact l_4 fun i hi => by unfold tabC shV; rw [getD_drop]
theorem tabs_cutHi (h : k ≤ ts.length) : ((i_5 lr lb ts).drop (0 * 5)).take ((k - 0) * 5) = i_5 lr lb (ts.take k) := by
  rw [Nat.zero_mul, List.drop_zero, Nat.sub_zero]
  unfold i_5
  rw [flatI_take (tabC_len lr lb ts) k h, List.length_take, Nat.min_eq_left h]
  exact l_4 fun i hi => by unfold tabC; rw [take_at hi]
theorem flatI_app (n : Nat) (f g : Nat → List Value) : ∀ m, r_4 n f ++ r_4 m g = r_4 (n + m) (fun i => if i < n then f i else g (i - n))
  | 0 => by
    rw [flatI_zero, List.append_nil]
    exact l_4 fun i hi => (if_pos hi).symm
  | m + 1 => by
    rw [i_2, ← List.append_assoc, flatI_app n f g m, ← Nat.add_assoc, i_2, if_neg (by omega), Nat.add_sub_cancel_left]
theorem tabs_append {lr' lb' : Nat → Value} {ts' : List TabD} : i_5 lr lb ts ++ i_5 lr' lb' ts' = i_5 (apV ts.length lr lr') (apV ts.length lb lb') (ts ++ ts') := by
  unfold i_5
  rw [flatI_app, List.length_append]
  refine l_4 fun i hi => ?_
  unfold tabC
  rw [getD_app2]
  by_cases h : i < ts.length
  · rw [if_pos h, if_pos h, apV_lo _ _ h, apV_lo _ _ h]
  · rw [if_neg h, if_neg h, apV_hi _ _ h, apV_hi _ _ h]
theorem tabs_oneR (h : ∀ i, i < ts.length → (lr i).oneCell' = true ∧ (lb i).oneCell' = true) : (i_5 lr lb ts).all (·.oneCell') = true := flatI_one fun i hi => by
  simp only [tabC, List.all_cons, List.all_nil, (h i hi).1, (h i hi).2]; rfl
theorem tabs_oneS {w : World} {v : Value} (k : Nat) (h : l_1 w v lr lb ts) : (i_5 (shV k lr) (shV k lb) (ts.drop k)).all (·.oneCell') = true := tabs_oneR fun i hi => by
  rw [List.length_drop] at hi
  exact ⟨(h.rows (k + i) (by omega)).one, (h.brks (k + i) (by omega)).one⟩
theorem tabs_oneT {w : World} {v : Value} (k : Nat) (h : l_1 w v lr lb ts) : (i_5 lr lb (ts.take k)).all (·.oneCell') = true := tabs_oneR fun i hi => by
  rw [List.length_take] at hi
  exact ⟨(h.rows i (by omega)).one, (h.brks i (by omega)).one⟩
theorem macs_setB {u : Value} {bl : List (Int × Int × Int)} (h : k < ms.length) : (k_6 lk ms).set (k * 2 + 1) u = k_6 (putV k lk u) (ms.set k ⟨(ms.getD k mac0).scale, bl⟩) := by
  unfold k_6
  rw [flatI_set (macC_len lk ms) h (by decide), List.length_set]
  refine l_4 fun i hi => ?_
  unfold macC putV
  by_cases e : i = k
  · subst e
    rw [if_pos rfl, if_pos rfl]; simp [List.getD, h]
  · rw [if_neg e, if_neg e]; simp [List.getD, List.getElem?_set_ne (fun e' => e e'.symm)]
end
theorem macs_len (lk : Nat → Value) (ms : List MacD) : (k_6 lk ms).length = ms.length * 2 := p_0 (macC_len lk ms) _
theorem pairs_lo {xs : List (Int × Int)} {k : Nat} (h : k ≤ xs.length) : ((pairs xs).drop (k * 2)).take ((xs.length - k) * 2) = pairs (xs.drop k) := by
  have e : pairs xs = pairs (xs.take k) ++ pairs (xs.drop k) := by rw [← pairs_append, List.take_append_drop]
  have hl : (pairs (xs.take k)).length = k * 2 := by rw [b_3, List.length_take, Nat.min_eq_left h]
  rw [e, List.drop_append_of_le_length (by rw [hl]; exact Nat.le_refl _), List.drop_of_length_le (by rw [hl]; exact Nat.le_refl _), List.nil_append, List.take_of_length_le (by rw [b_3, List.length_drop]; exact Nat.le_refl _)]
theorem pairs_hi {xs : List (Int × Int)} {k : Nat} (h : k ≤ xs.length) : ((pairs xs).drop (0 * 2)).take ((k - 0) * 2) = pairs (xs.take k) := by
  have e : pairs xs = pairs (xs.take k) ++ pairs (xs.drop k) := by rw [← pairs_append, List.take_append_drop]
  have hl : (pairs (xs.take k)).length = k * 2 := by rw [b_3, List.length_take, Nat.min_eq_left h]
  rw [Nat.zero_mul, List.drop_zero, Nat.sub_zero, e, List.take_append_of_le_length (by rw [hl]; exact Nat.le_refl _), List.take_of_length_le (by rw [hl]; exact Nat.le_refl _)]
section
variable {X : Nat → Prop} {w0 w : World} {L : List Res}
theorem rot_ro {i k : Nat} {vt : Value} {lr lb : Nat → Value} {ts : List TabD} (h : Sep X w0 w L) (hi : L[i]? = some (d_2 false vt lr lb ts)) (hk : k ≤ ts.length) :
    (∀ j, j < (ts.drop k ++ ts.take k).length → RoSl w L (apV (ts.drop k).length (shV k lr) lr j) 2 (m_4 (ts.drop k ++ ts.take k) j) (m_3 (ts.drop k ++ ts.take k) j)) ∧ ∀ j, j < (ts.drop k ++ ts.take k).length → RoSl w L (apV (ts.drop k).length (shV k lb) lb j) 1 (brkN (ts.drop k ++ ts.take k) j) (brkC (ts.drop k ++ ts.take k) j) := by
  have key : ∀ j, j < (ts.drop k ++ ts.take k).length → ∃ q, q < ts.length ∧ (∀ f : Nat → Value, apV (ts.drop k).length (shV k f) f j = f q) ∧ (ts.drop k ++ ts.take k).getD j tab0 = ts.getD q tab0 := fun j hj => by
    rw [List.length_append, List.length_drop, List.length_take] at hj
    rw [getD_app2, List.length_drop]
    by_cases hc : j < ts.length - k
    · exact ⟨k + j, by omega, fun f => by rw [apV_lo _ _ hc]; rfl, by rw [if_pos hc, getD_drop]⟩
    · exact ⟨j - (ts.length - k), by omega, fun f => by rw [apV_hi _ _ hc], by rw [if_neg hc, take_at (by omega)]⟩
  constructor
  · intro j hj
    obtain ⟨q, hq, e1, e2⟩ := key j hj
    rw [e1, show m_4 (ts.drop k ++ ts.take k) j = m_4 ts q by unfold m_4; rw [e2], show m_3 (ts.drop k ++ ts.take k) j = m_3 ts q by unfold m_3; rw [e2]]
    exact roSl_row h hi hq
  · intro j hj
    obtain ⟨q, hq, e1, e2⟩ := key j hj
    rw [e1, show brkN (ts.drop k ++ ts.take k) j = brkN ts q by unfold brkN; rw [e2], show brkC (ts.drop k ++ ts.take k) j = brkC ts q by unfold brkC; rw [e2]]
    exact roSl_brk h hi hq
theorem setB_ro {i j k : Nat} {vm u : Value} {lk : Nat → Value} {ms : List MacD} {m : MacD} (h : Sep X w0 w L) (hi : L[i]? = some (d_4 false vm lk ms)) (hj : L[j]? = some (sl u 3 m.blocks.length (trips m.blocks))) (hk : k < ms.length) :
    ∀ q, q < (ms.set k m).length → RoSl w L (putV k lk u q) 3 (blkN (ms.set k m) q) (blkC (ms.set k m) q) := fun q hq => by
  rw [List.length_set] at hq
  unfold putV
  by_cases e : q = k
  · subst e
    rw [if_pos rfl, show blkN (ms.set q m) q = m.blocks.length by unfold blkN; simp [List.getD, hk], show blkC (ms.set q m) q = trips m.blocks by unfold blkC; simp [List.getD, hk]]
    exact roSl_sl h hj
  · rw [if_neg e, show blkN (ms.set k m) q = blkN ms q by unfold blkN; simp [List.getD, List.getElem?_set_ne (fun e' => e e'.symm)], show blkC (ms.set k m) q = blkC ms q by unfold blkC; simp [List.getD, List.getElem?_set_ne (fun e' => e e'.symm)]]
    exact roSl_blk h hi hq
end
def rotT (b : h_3) (k : Nat) : h_3 := { b with tabs := b.tabs.drop k ++ b.tabs.take k }
theorem aa_9 {α : Type} {l : List α} {k : Nat} {x : α} : x ∈ l.drop k ++ l.take k ↔ x ∈ l := by
  have : x ∈ l ↔ x ∈ l.take k ++ l.drop k := by rw [List.take_append_drop]
  rw [this, List.mem_append, List.mem_append]; exact Or.comm
theorem rot_len {α : Type} {l : List α} {k : Nat} (h : k ≤ l.length) : (l.drop k ++ l.take k).length = l.length := by
  rw [List.length_append, List.length_drop, List.length_take]; omega
section
variable {b : h_3} {l : List (Int × Int)} {k : Nat}
theorem rotT_V (hb : o_6 b) (hk : k ≤ b.tabs.length) : o_6 (rotT b k) :=
  ⟨hb.scales, by rw [rotT, rot_len hk]; exact hb.tlen, hb.mlen, fun t ht => hb.rows t (aa_9.1 ht), hb.blks, fun t ht => hb.tabs t (aa_9.1 ht), hb.macs⟩
theorem thin_mem (h : p_6 b) : (∀ t ∈ b.tabs, t.rows.length ≤ 12 ∧ t.brk.length ≤ 12) ∧ ∀ m ∈ b.macs, m.blocks.length ≤ 8 := by
  constructor
  · intro t ht
    obtain ⟨i, hi, e⟩ := List.getElem_of_mem ht
    have := h.tab i
    simpa only [List.getD, List.getElem?_eq_getElem hi, Option.getD_some, e] using this
  · intro t ht
    obtain ⟨i, hi, e⟩ := List.getElem_of_mem ht
    have := h.mac i
    simpa only [List.getD, List.getElem?_eq_getElem hi, Option.getD_some, e] using this
theorem thin_of (h1 : b.tabs.length ≤ 9) (h2 : b.macs.length ≤ 9) (h3 : ∀ t ∈ b.tabs, t.rows.length ≤ 12 ∧ t.brk.length ≤ 12) (h4 : ∀ m ∈ b.macs, m.blocks.length ≤ 8) : p_6 b := by
  refine ⟨h1, h2, fun i => ?_, fun i => ?_⟩
  · by_cases hi : i < b.tabs.length
    · exact h3 _ (i_7 hi)
    · rw [getD_out (by omega)]; exact ⟨Nat.zero_le _, Nat.zero_le _⟩
  · by_cases hi : i < b.macs.length
    · exact h4 _ (i_7 hi)
    · rw [getD_out (by omega)]; exact Nat.zero_le _
theorem rotT_thin (h : p_6 b) (hk : k ≤ b.tabs.length) : p_6 (rotT b k) :=
  thin_of (by rw [rotT, rot_len hk]; exact h.tl) h.ml (fun t ht => (thin_mem h).1 t (aa_9.1 ht)) (thin_mem h).2
theorem check_V {b : h_3} (hb : o_6 b) (h : ∀ t ∈ b.tabs, tabB b.scales t = true) (h2 : ∀ m ∈ b.macs, macB b.scales m = true) : f_6 b = 0 :=
  r_3 ⟨hb.tlen, hb.mlen, fun i hi => hb.rows _ (i_7 hi), fun i hi => hb.blks _ (i_7 hi)⟩ (j_3.2 hb.scales) (fun i hi => h _ (i_7 hi)) fun i hi => h2 _ (i_7 hi)
theorem check_tabs (hc : f_6 b = 0) : (∀ t ∈ b.tabs, tabB b.scales t = true) ∧ ∀ m ∈ b.macs, macB b.scales m = true := by
  have hb := m_5 hc
  have g : f_8 b := ⟨hb.tlen, hb.mlen, fun i hi => hb.rows _ (i_7 hi), fun i hi => hb.blks _ (i_7 hi)⟩
  rw [q_2 g] at hc
  split at hc
  · cases hc
  · rename_i hn
    simp only [not_or, Bool.not_eq_false] at hn
    exact ⟨(q_5 (p := tabB b.scales) (d := tab0)).1 hn.2.1, (q_5 (p := macB b.scales) (d := mac0)).1 hn.2.2⟩
end
def putM (b : h_3) (k : Nat) (bl : List (Int × Int × Int)) : h_3 := { b with macs := b.macs.set k ⟨(b.macs.getD k mac0).scale, bl⟩ }
section
variable {b : h_3} {l : List (Int × Int)} {k : Nat} {bl : List (Int × Int × Int)}
theorem putM_at (hk : k < b.macs.length) (i : Nat) : (putM b k bl).macs.getD i mac0 = if i = k then ⟨(b.macs.getD k mac0).scale, bl⟩ else b.macs.getD i mac0 := by
  unfold putM
  by_cases e : i = k
  · subst e; rw [if_pos rfl]; simp [List.getD, hk]
  · rw [if_neg e]; simp [List.getD, List.getElem?_set_ne (fun e' => e e'.symm)]
theorem putM_mem (hk : k < b.macs.length) {m : MacD} (h : m ∈ (putM b k bl).macs) : m ∈ b.macs ∨ m = ⟨(b.macs.getD k mac0).scale, bl⟩ := List.mem_or_eq_of_mem_set h
theorem putM_len : (putM b k bl).macs.length = b.macs.length := List.length_set ..
theorem mac_mem (hk : k < b.macs.length) : b.macs.getD k mac0 ∈ b.macs := i_7 hk
theorem putM_check (hc : f_6 b = 0) (hk : k < b.macs.length) (h1 : macB b.scales ⟨(b.macs.getD k mac0).scale, bl⟩ = true) (h5 : bl.length ≤ 5) : f_6 (putM b k bl) = 0 := by
  have hb := m_5 hc
  have ht := check_tabs hc
  refine r_3 (b := putM b k bl) ⟨hb.tlen, by rw [putM_len]; exact hb.mlen, fun i hi => hb.rows _ (i_7 hi), fun i hi => ?_⟩ (j_3.2 hb.scales) (fun i hi => ht.1 _ (i_7 hi)) fun i hi => ?_
  · rcases putM_mem hk (i_7 (d := mac0) hi) with h | h
    · exact hb.blks _ h
    · rw [h]; exact h5
  · rcases putM_mem hk (i_7 (d := mac0) hi) with h | h
    · exact ht.2 _ h
    · rw [h]; exact h1
theorem rev_macB (hc : f_6 b = 0) (hk : k < b.macs.length) : macB b.scales ⟨(b.macs.getD k mac0).scale, (b.macs.getD k mac0).blocks.reverse⟩ = true := by
  have h := (check_tabs hc).2 _ (mac_mem hk)
  unfold macB at h ⊢
  rw [Bool.and_eq_true] at h ⊢
  refine ⟨h.1, (q_5 (p := blkB) (d := (0, 0, 0))).2 fun x hx => (q_5 (p := blkB) (d := (0, 0, 0))).1 h.2 x (List.mem_reverse.1 hx)⟩
theorem rev_bias : e_2 ⟨(b.macs.getD k mac0).scale, (b.macs.getD k mac0).blocks.reverse⟩ = e_2 (b.macs.getD k mac0) := bias_same fun x => List.mem_reverse
theorem revM_like (hk : k < b.macs.length) (i : Nat) : ((putM b k (b.macs.getD k mac0).blocks.reverse).macs.getD i mac0).scale = (b.macs.getD i mac0).scale ∧ e_2 ((putM b k (b.macs.getD k mac0).blocks.reverse).macs.getD i mac0) = e_2 (b.macs.getD i mac0) := by
  rw [putM_at hk]
  split
  · rename_i e; subst e; exact ⟨rfl, rev_bias⟩
  · exact ⟨rfl, rfl⟩
theorem InR_like {b' : h_3} (h : ∀ i, (b'.macs.getD i mac0).scale = (b.macs.getD i mac0).scale ∧ e_2 (b'.macs.getD i mac0) = e_2 (b.macs.getD i mac0)) (s : h_2) (x : Int × Int) : InR b' s x ↔ InR b s x := by
  unfold InR; rw [(h x.1.toNat).1, (h x.1.toNat).2]
theorem revM_read (hb : o_6 b) (hl : t_5 b l) (hk : k < b.macs.length) : t_5 (putM b k (b.macs.getD k mac0).blocks.reverse) l :=
  ⟨hl.len, fun i hi => by rw [putM_len]; exact hl.mac i hi, hl.read, fun i hi => by
    have := hl.off i hi
    unfold offB at this ⊢
    rw [(revM_like hk _).2]; exact this⟩
theorem order_tabs (hr : o_7 b l = 0) (hk : k ≤ b.tabs.length) : o_7 (rotT b k) l = 0 ∧ j_0 (rotT b k) l = j_0 b l := by
  have hc := l_2 hr
  have hbl := read_ok hr
  have hb := hbl.1
  have hl := hbl.2
  have ht := check_tabs hc
  have hb2 := rotT_V hb hk
  have hc2 : f_6 (rotT b k) = 0 := check_V hb2 (fun t h => ht.1 t (aa_9.1 h)) ht.2
  have hl2 : t_5 (rotT b k) l := ⟨hl.len, hl.mac, hl.read, hl.off⟩
  exact ⟨read_V hc2 hl2, spans_same hb hl hb2 hl2 rfl (fun t => aa_9) fun s => Iff.rfl⟩
theorem order_rev (hr : o_7 b l = 0) (hk : k < b.macs.length) : o_7 (putM b k (b.macs.getD k mac0).blocks.reverse) l = 0 ∧ j_0 (putM b k (b.macs.getD k mac0).blocks.reverse) l = j_0 b l := by
  have hc := l_2 hr
  have hbl := read_ok hr
  have hb := hbl.1
  have hl := hbl.2
  have hc2 := putM_check hc hk (rev_macB hc hk) (by rw [List.length_reverse]; exact hb.blks _ (mac_mem hk))
  have hl2 := revM_read hb hl hk
  exact ⟨read_V hc2 hl2, spans_same hb hl (m_5 hc2) hl2 rfl (fun t => Iff.rfl) fun s => ⟨fun h x hx => (InR_like (revM_like hk) s x).1 (h x hx), fun h x hx => (InR_like (revM_like hk) s x).2 (h x hx)⟩⟩
theorem order_reads (hr : o_7 b l = 0) (hk : k ≤ l.length) : o_7 b (l.drop k ++ l.take k) = 0 ∧ j_0 b (l.drop k ++ l.take k) = j_0 b l := by
  have hc := l_2 hr
  have hbl := read_ok hr
  have hb := hbl.1
  have hl := hbl.2
  have hl2 : t_5 b (l.drop k ++ l.take k) := by
    have key : ∀ i, i < (l.drop k ++ l.take k).length → ∃ j, j < l.length ∧ (l.drop k ++ l.take k).getD i (0, 0) = l.getD j (0, 0) := fun i hi => by
      obtain ⟨j, hj, e⟩ := List.getElem_of_mem (aa_9.1 (i_7 (d := (0, 0)) hi))
      exact ⟨j, hj, by rw [← e]; simp [List.getD, hj]⟩
    refine ⟨by rw [rot_len hk]; exact hl.len, fun i hi => ?_, fun i hi => ?_, fun i hi => ?_⟩ <;> obtain ⟨j, hj, e⟩ := key i hi <;> rw [e]
    · exact hl.mac j hj
    · exact hl.read j hj
    · exact hl.off j hj
  exact ⟨read_V hc hl2, spans_same hb hl hb hl2 rfl (fun t => Iff.rfl) fun s => ⟨fun h x hx => h x (aa_9.2 hx), fun h x hx => h x (aa_9.1 hx)⟩⟩
theorem putM_thin (h : p_6 b) (h8 : bl.length ≤ 8) (hk : k < b.macs.length) : p_6 (putM b k bl) :=
  thin_of h.tl (by rw [putM_len]; exact h.ml) (thin_mem h).1 fun m hm => by
    rcases putM_mem hk hm with h2 | h2
    · exact (thin_mem h).2 m h2
    · rw [h2]; exact h8
theorem w_7 {α : Type} {l : List α} {d : α} {s : Nat} (h : s < l.length) : l.reverse.take s ++ [l.getD (l.length - 1 - s) d] = l.reverse.take (s + 1) := by
  rw [List.take_add_one, List.getElem?_reverse h, List.getD, List.getElem?_eq_getElem (by omega)]; rfl
end
end Go.Hard
