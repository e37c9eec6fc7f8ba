/- The interruptions of a window: a row that is one's own, or what is left of one; how it is appended to. -/
import Derived.Test.YtmndechaeaidcaaPxx0
import Derived.Deep.Slices
namespace Go.Proofs.Ytmndechaeaidcaa.Px
open Go.RowKit Go.Proofs.YtmndechaeaidcaaW.PrintWords Go.Proofs.YtmndechaeaidcaaW.PrintLast Go.Proofs.YtmndechaeaidcaaW.PrintMore
set_option linter.unusedVariables false
set_option linter.unusedSimpArgs false

theorem bcell {W w1 : World} (hb : Below W.heap.size W w1) : (∀ b o, b < W.heap.size → w1.cell? ⟨b, o, none⟩ = W.cell? ⟨b, o, none⟩) ∧ (∀ b o, b < W.heap.size → w1.frozen? ⟨b, o, none⟩ = W.frozen? ⟨b, o, none⟩) :=
  ⟨fun b o h => hb.cell (p := ⟨b, o, none⟩) h, fun b o h => hb.frozen (p := ⟨b, o, none⟩) h⟩
theorem gcell {W w1 : World} {row : Option Nat} (hb : W.grownBy w1 row) : (∀ b o, b < W.heap.size → some b ≠ row → w1.cell? ⟨b, o, none⟩ = W.cell? ⟨b, o, none⟩) :=
  fun b o h hn => World.cell?_of_block (hb.block b h hn)
theorem Q_own37 {w : World} {base : Nat} {ok : Nat → Prop} {v : Value} {l : List S37} (h : Kd.Q k37 37 w base ok v l) : Kd.Q k37 37 w base (fun k => v.ownBlock = some k) v l := by
  obtain ⟨h0, inner, ho, hr⟩ := h
  refine ⟨fun k hk => hk, inner, ho, hr.imp_ (fun p c hp => ?_)⟩
  rw [k37_openM hp]
  exact k37_mkM _ _ _ p
/-- A row of one's own, or what is left of one: its elements are l. -/
def RowT (w : World) (base : Nat) (v : Value) (l : List S37) : Prop :=
  ∃ A cap, v = .slice A l.length cap ∧ l.length ≤ cap ∧ Kd.C k37 w A l.length l ∧ (∀ a, A = some a → base ≤ a.block ∧ ∃ cur, w.heap[a.block]? = some (.cells cur 37 (0, 0))) ∧ (cap = l.length ∨ Kd.Q k37 37 w base (fun _ => True) v l) ∧ (A = none → cap = 0) ∧ (∀ a, A = some a → a = ⟨a.block, a.off, none⟩)
theorem RowT.nil (w : World) (base : Nat) : RowT w base (.slice none 0 0) [] := ⟨none, 0, rfl, Nat.le_refl _, Kd.C_nil _ _, (fun a h => by cases h), .inl rfl, (fun _ => rfl), fun a h => by cases h⟩
theorem RowT.form {w : World} {base : Nat} {v : Value} {l : List S37} (h : RowT w base v l) : ∃ A cap, v = .slice A l.length cap ∧ l.length ≤ cap ∧ Kd.C k37 w A l.length l := by
  obtain ⟨A, cap, e, hc, hC, _⟩ := h
  exact ⟨A, cap, e, hc, hC⟩
theorem RowT.own {w : World} {base : Nat} {v : Value} {l : List S37} (h : RowT w base v l) : ∀ k, v.ownBlock = some k → base ≤ k ∧ k < w.heap.size ∧ ∃ cur, w.heap[k]? = some (.cells cur 37 (0, 0)) := by
  obtain ⟨A, cap, rfl, hc, hC, hA, _⟩ := h
  intro k hk
  cases A with
  | none => simp [Value.ownBlock] at hk
  | some a =>
    have e : a.block = k := by simpa [Value.ownBlock] using hk
    obtain ⟨h1, cur, h2⟩ := hA a rfl
    rw [e] at h1 h2
    exact ⟨h1, blk_lt h2, cur, h2⟩
theorem RowT.head {w : World} {base : Nat} {v : Value} {x : S37} {l : List S37} (h : RowT w base v (x :: l)) : ∃ g o cap, v = .slice (some ⟨g, o, none⟩) (l.length + 1) cap ∧ l.length + 1 ≤ cap ∧ w.cell? ⟨g, o, none⟩ = some (.int .i64 x.f0) ∧ w.cell? ⟨g, o + 1, none⟩ = some (.int .i64 x.f1) := by
  obtain ⟨A, cap, rfl, hc, hC, hA, hQ, hN, hP⟩ := h
  obtain ⟨ad, rfl, hcell⟩ := hC.2.2 (by simp)
  have e := hP ad rfl
  obtain ⟨c, _, hk, h3⟩ := hcell 0 x rfl
  rw [k37_open hk] at h3
  have h4 := h3 0 _ rfl
  have h5 := h3 1 _ rfl
  rw [e, add_at] at h4 h5
  refine ⟨ad.block, ad.off, cap, by rw [← e]; rfl, hc, ?_, ?_⟩
  · simpa using h4
  · simpa using h5
theorem C_move37 {w w1 : World} {A : Option Addr} {n : Nat} {l : List S37} (h : Kd.C k37 w A n l) (hm : ∀ a, A = some a → w1.heap[a.block]? = w.heap[a.block]?) : Kd.C k37 w1 A n l := by
  refine ⟨h.1, h.2.1, fun hp => ?_⟩
  obtain ⟨ad, e, hc⟩ := h.2.2 hp
  refine ⟨ad, e, fun j p hj => ?_⟩
  obtain ⟨c, h1, h2, h3⟩ := hc j p hj
  refine ⟨c, h1, ?_, fun i u hu => ?_⟩
  · rw [k37_open h2]; exact k37_mk _ p
  · have hb : (ad.add (j * k37.sz + i)).block = ad.block := by unfold Addr.add; split <;> rfl
    rw [World.cell?_of_block (w := w) (by rw [hb]; exact hm ad e)]
    exact h3 i u hu
theorem RowT.move {w w1 : World} {base : Nat} {v : Value} {l : List S37} (h : RowT w base v l) (hm : ∀ k, v.ownBlock = some k → w1.heap[k]? = w.heap[k]?) : RowT w1 base v l := by
  obtain ⟨A, cap, rfl, hc, hC, hA, hQ, hN, hP⟩ := h
  have hm' : ∀ a, A = some a → w1.heap[a.block]? = w.heap[a.block]? := fun a e => hm a.block (by rw [e]; simp [Value.ownBlock])
  refine ⟨A, cap, rfl, hc, C_move37 hC hm', fun a e => ⟨(hA a e).1, ?_⟩, ?_, hN, hP⟩
  · obtain ⟨cur, h2⟩ := (hA a e).2
    exact ⟨cur, (hm' a e).trans h2⟩
  · rcases hQ with hQ | hQ
    · exact .inl hQ
    · exact .inr (Kd.Q_mono (Kd.Q_move (Q_own37 hQ) hm) (fun _ _ => trivial))
theorem RowT.below {w w1 : World} {base : Nat} {v : Value} {l : List S37} (h : RowT w base v l) (hb : Below w.heap.size w w1) : RowT w1 base v l := h.move (fun k hk => hb.block k (h.own k hk).2.1)
theorem RowT.grown {w w1 : World} {base : Nat} {v : Value} {l : List S37} {B : Nat} (h : RowT w base v l) (hg : w.grownBy w1 (some B)) (hn : v.ownBlock ≠ some B) : RowT w1 base v l := h.move (fun k hk => hg.block k (h.own k hk).2.1 (fun e => hn (by rw [hk, e])))
theorem RowT.ne {w : World} {base : Nat} {v : Value} {l : List S37} (h : RowT w base v l) {B t : Nat} {cs : Array Value} (hB : w.heap[B]? = some (.cells cs t (0, 0))) (ht : t ≠ 37) : v.ownBlock ≠ some B := by
  intro e
  obtain ⟨_, _, cur, hc⟩ := h.own B e
  rw [hB] at hc
  injection hc with hc
  injection hc with h1 h2 h3
  exact ht h2
theorem RowT.of_Q {w : World} {base : Nat} {v : Value} {l : List S37} (h : Kd.Q k37 37 w base (fun _ => True) v l) (hn : 0 < l.length) : RowT w base v l := by
  obtain ⟨g, o, cap, rfl, hb, hlt, cur, hcur⟩ := Kd.Q_form h hn
  obtain ⟨_, hc, hC⟩ := Kd.Q_reads' h
  exact ⟨_, cap, rfl, hc, hC, fun a e => by injection e with e; subst e; exact ⟨hb, cur, hcur⟩, .inr h, (fun e => by cases e), fun a e => by injection e with e; subst e; rfl⟩
/-- The first element goes, and with it the room behind the last one: 'l[1:n:n]'. -/
theorem RowT.tail {w : World} {base : Nat} {A : Option Addr} {cap : Nat} {x : S37} {l : List S37} (h : RowT w base (.slice A (l.length + 1) cap) (x :: l)) : RowT w base (.slice (if l.length = 0 then A else A.map (·.add 2)) l.length l.length) l := by
  obtain ⟨A', cap', e, hc, hC, hA, hQ, hN, hP⟩ := h
  injection e with e1 _ e2
  subst e1; subst e2
  have hblk : ∀ a, (if l.length = 0 then A else A.map (·.add 2)) = some a → ∃ a0, A = some a0 ∧ a.block = a0.block := by
    intro a ha
    split at ha
    · exact ⟨a, ha, rfl⟩
    · cases A with
      | none => cases ha
      | some a0 =>
        simp only [Option.map_some, Option.some.injEq] at ha
        exact ⟨a0, rfl, by rw [← ha]; unfold Addr.add; split <;> rfl⟩
  refine ⟨_, _, rfl, Nat.le_refl _, ?_, fun a ha => ?_, .inl rfl, fun e => ?_, fun a ha => ?_⟩
  · refine ⟨rfl, by have := hC.2.1; simp only [List.length_cons] at this; omega, fun hp => ?_⟩
    obtain ⟨ad, e, hcell⟩ := hC.2.2 (by simp)
    refine ⟨ad.add 2, by rw [if_neg (by omega), e]; rfl, fun j p hj => ?_⟩
    obtain ⟨c, h1, h2, h3⟩ := hcell (j + 1) p (by simpa using hj)
    refine ⟨c, h1, h2, fun i u hu => ?_⟩
    have h4 := h3 i u hu
    have e2 : ad.add ((j + 1) * k37.sz + i) = (ad.add 2).add (j * k37.sz + i) := by
      have hs : k37.sz = 2 := rfl
      rw [Go.Deep.add_add, hs, show 2 + (j * 2 + i) = (j + 1) * 2 + i by omega]
    rw [← e2]
    exact h4
  · obtain ⟨a0, h1, h2⟩ := hblk a ha
    rw [h2]
    exact hA a0 h1
  · cases A with
    | none => exact absurd (hN rfl) (by simp only [List.length_cons] at hc; omega)
    | some a => exfalso; split at e <;> cases e
  · split at ha
    · exact hP a ha
    · cases A with
      | none => cases ha
      | some a0 =>
        simp only [Option.map_some, Option.some.injEq] at ha
        have h0 := hP a0 rfl
        rw [← ha, h0, add_at]
theorem flat_length : ∀ l : List S37, (l.flatMap (fun x => [Value.int .i64 x.f0, Value.int .i64 x.f1])).length = l.length * 2
  | [] => rfl
  | x :: l => by
    rw [List.flatMap_cons, List.length_append, flat_length l, List.length_cons, List.length_cons, List.length_cons, List.length_nil]
    omega
theorem flat_reps : ∀ l : List S37, Reps (fun (x : S37) cs => cs = [Value.int .i64 x.f0, Value.int .i64 x.f1]) 2 l (l.flatMap (fun x => [Value.int .i64 x.f0, Value.int .i64 x.f1]))
  | [] => Reps.none _ _
  | x :: l => by
    refine ⟨flat_length _, fun j p h => ?_⟩
    match j, h with
    | 0, h =>
      obtain rfl : x = p := by simpa using h
      rfl
    | j + 1, h =>
      have := (flat_reps l).2 j p (by simpa using h)
      simp only at this ⊢
      rw [← this]
      simp [List.flatMap_cons, Nat.add_mul]
variable {P : Program}
/-- What append makes of such a row, in whatever world: one element more, which lies at ad. -/
theorem RowT.run {W : World} {base : Nat} {t ty : TypeId} {z : Value} (ht : P.underlying t = some (.slice 37)) (hinfo : (P.info? 37).map (fun i => (i.zero, i.size, i.bytes)) = some (some z, 2, 16)) (hz : z.cells.size = 2)
    {v : Value} {l : List S37} {p : S37} (HO : RowT W base v l) (hbase : base ≤ W.heap.size) (hl : l.length ≤ 1000) {ad : Addr} (news : ∀ j u, [Value.int .i64 p.f0, Value.int .i64 p.f1][j]? = some u → W.cell? (ad.add j) = some u) :
    ∃ v1 w1, (Builtin.append_ #[t, t] ty #[v, .slice (some ad) 1 1]).run P W = .ok v1 w1 ∧ RowT w1 base v1 (l ++ [p]) ∧ W.grownBy w1 v.ownBlock := by
  have HO' := HO
  obtain ⟨A, cap, rfl, hc, hC, hA, hQ, hN, hP⟩ := HO
  obtain ⟨i0, hi, hzz⟩ := Option.map_eq_some_iff.1 hinfo
  simp only [Prod.mk.injEq] at hzz
  obtain ⟨hz0, hz1, hz2⟩ := hzz
  have h1c : ∀ u ∈ [Value.int .i64 p.f0, Value.int .i64 p.f1], u.oneCell' = true := by intro u hu; simp at hu; rcases hu with rfl | rfl <;> rfl
  rcases hQ with hQ | hQ
  · subst hQ
    cases A with
    | none =>
      have hl0 : l.length = 0 := hN rfl
      obtain rfl : l = [] := List.eq_nil_of_length_eq_zero hl0
      obtain ⟨v1, w1, hrun, r1, r2, _⟩ := run_append_own (P := P) W base t ty 37 i0 z 2 16 ht hi hz0 hz1 hz2 hz (by omega) (.slice none 0 0) 0 [] (World.ownsRow_nil _ _ _ _) ad 1 1 [.int .i64 p.f0, .int .i64 p.f1] rfl news h1c (by simp only [maxLen]; omega) (by omega) hbase
      refine ⟨v1, w1, hrun, ?_, r2⟩
      refine RowT.of_Q (Kd.Q_of_R (d := k37) ⟨fun _ _ => trivial, [.int .i64 p.f0, .int .i64 p.f1], r1, ⟨rfl, fun j q hj => ?_⟩⟩) (by simp)
      match j, hj with
      | 0, hj =>
        obtain rfl : p = q := by simpa using hj
        exact k37_mkM _ _ _ p
      | j + 1, hj => simp at hj
    | some b =>
      have olds : ∃ inner : List Value, inner.length = l.length * 2 ∧ (∀ j u, inner[j]? = some u → W.cell? (b.add j) = some u) ∧ Reps (fun (x : S37) cs => cs = [.int .i64 x.f0, .int .i64 x.f1]) 2 l inner := by
        refine ⟨l.flatMap (fun x => [.int .i64 x.f0, .int .i64 x.f1]), flat_length l, fun j u hj => ?_, flat_reps l⟩
        have key : ∀ (l : List S37) (j : Nat) (u : Value), (l.flatMap (fun x => [Value.int .i64 x.f0, Value.int .i64 x.f1]))[j]? = some u → ∃ q x i, l[q]? = some x ∧ j = q * 2 + i ∧ [Value.int .i64 x.f0, Value.int .i64 x.f1][i]? = some u := by
          intro l
          induction l with
          | nil => intro j u h; simp at h
          | cons y l ih =>
            intro j u h
            match j, h with
            | 0, h => exact ⟨0, y, 0, rfl, rfl, by simpa using h⟩
            | 1, h => exact ⟨0, y, 1, rfl, rfl, by simpa using h⟩
            | j + 2, h =>
              obtain ⟨q, x, i, h1, h2, h3⟩ := ih j u (by simpa using h)
              exact ⟨q + 1, x, i, by simpa using h1, by omega, h3⟩
        obtain ⟨q, x, i, h1, h2, h3⟩ := key l j u hj
        obtain ⟨ad', e, hcell⟩ := hC.2.2 (by have := (List.getElem?_eq_some_iff.1 h1).1; omega)
        injection e with e
        subst e
        obtain ⟨c, _, hk, h4⟩ := hcell q x h1
        rw [k37_open hk] at h4
        have := h4 i u h3
        rw [h2]
        exact this
      obtain ⟨inner, h1, h2, h3⟩ := olds
      obtain ⟨v1, w1, hrun, r1, r2⟩ := run_append_arg_grows (P := P) W t ty 37 i0 z 2 16 ht hi hz0 hz1 hz2 hz (by omega) b l.length l.length inner h1 h2 ad 1 1 [.int .i64 p.f0, .int .i64 p.f1] rfl news (by omega) (by simp only [maxLen]; omega) (by omega)
      refine ⟨v1, w1, hrun, ?_, ⟨r2.os, r2.tape, r2.output, r2.size, fun k hk hn => r2.block k hk (by simp)⟩⟩
      refine RowT.of_Q (Kd.Q_lower (Kd.Q_of_R (d := k37) (base := W.heap.size) ⟨fun _ _ => trivial, inner ++ [.int .i64 p.f0, .int .i64 p.f1], (by rw [List.length_append]; exact r1), ?_⟩) hbase) (by simp)
      refine Reps.snoc ⟨h3.1, fun j q hj => ?_⟩ (k37_mkM _ _ _ p) rfl
      have e : (inner.drop (j * k37.sz)).take k37.sz = [.int .i64 q.f0, .int .i64 q.f1] := h3.2 j q hj
      rw [e]
      exact k37_mkM _ _ _ q
  · obtain ⟨h0, inner, hown, hr⟩ := hQ
    obtain ⟨v1, w1, hrun, hq1, hg1, hat⟩ := q_append (P := P) W base t ty 37 i0 z 2 16 ht hi hz0 hz1 hz2 hz (by omega) (.slice A l.length cap) l.length inner hown ad 1 1 [.int .i64 p.f0, .int .i64 p.f1] rfl news h1c (by omega) (by simp only [maxLen]; omega) (by omega) hbase
    exact ⟨v1, w1, hrun, RowT.of_Q (Kd.Q_appended (d := k37) (okp := fun _ => False) h0 hr (k37_mkM _ _ _ p) (fun _ h => h.elim) (fun _ _ => trivial) hq1 hg1 hat) (by simp), hg1⟩
/-- The same as one step of a region that draws its order. -/
theorem RowT.step {ops : Array Oper} {o : Oper} {a : Act} {K : Act → World → Prop} {Q : Exit → Act → World → Prop} {E : Prop} {W : World} (base : Nat) (hgd : o.guard = none) (s x : Operand) (t : TypeId) (z : Value)
    (ho : o.op = .call { callee := .builtin .append, args := #[s, x], argTypes := #[t, t] }) (ht : P.underlying t = some (.slice 37)) (hinfo : (P.info? 37).map (fun i => (i.zero, i.size, i.bytes)) = some (some z, 2, 16)) (hz : z.cells.size = 2)
    (v : Value) (l : List S37) (p : S37) (ad : Addr) (hs : a.eval s = v) (hx : a.eval x = .slice (some ad) 1 1) (HO : RowT W base v l) (hbase : base ≤ W.heap.size) (hl : l.length ≤ 1000) (news : ∀ j u, [Value.int .i64 p.f0, Value.int .i64 p.f1][j]? = some u → W.cell? (ad.add j) = some u)
    (h : ∀ v1 w1, RowT w1 base v1 (l ++ [p]) → W.grownBy w1 v.ownBlock → K (a.put o.dst v1) w1) :
    if Region.wanted o (yielded ops a.tmps) = true then Oper.wp P o a W K Q else E := by
  have hw : Region.wanted o (yielded ops a.tmps) = true := by simp [Region.wanted, hgd]
  rw [if_pos hw]
  obtain ⟨v1, w1, hrun, h1, h2⟩ := RowT.run (P := P) (ty := o.type) ht hinfo hz HO hbase hl news
  unfold Oper.wp
  simp only [execOp, ho, resolve, invoke, builtin, Sem.run_bind, Sem.run_pure, Result.andThen_ok, List.map_toArray, List.map_cons, List.map_nil, hs, hx, hrun]
  exact h v1 w1 h1 h2
end Go.Proofs.Ytmndechaeaidcaa.Px
