import PyProof.Rows.All
import Wide.All
import OpenK.AllK
import Wide.FinOn
import Lean
import PySem.Challenge.RW_rg0279_01
open PySem PySem.W PySem.Calls PySem.Spec PyProof.Rows PyProof.V
set_option Elab.async false
set_option maxRecDepth 100000
set_option maxHeartbeats 4000000

namespace Mine
-- the written heap alone: k_head makes it, what it calls then is caught here
local macro_rules | `(tactic| o_head (kHook $_ $_ $_)) => `(tactic| assumption)
theorem frag (h : (OpenLaw.row PySem.Challenge.rw_rg0279_01).Holds) : (OpenLaw.row PySem.Challenge.rw_rg0279_01).Holds := by
  k_head

-- the walk's own switch and caches as in a file of its own
theorem switch_1 : True := by
  w_top off
  exact trivial
/-- what a call of the function at f gives: from any caller, at the ledger `news` -/
def Ctr (prog : Program) (w : World) (p : Program) (loose : List Str) (mean : ExcName → Option Value) (mg mb : Str → Option Value) (f : Addr) (vs : List Value) (d u : Nat) (news : List (Addr × Obj)) (R : Value → List (Addr × Obj) → Prop) : Prop :=
  ∀ (dp un : Nat) (gd : Option (List Code)) (cn : Str) (cs : Scope) (a : Addr) (ccd : Value) (cl : List (Str × Addr)) (outer : List Env) (A₀ : Around) (base h₀ : Heap) (L : Addr) (m : Str → Option Value) (s : Shared) (Q E : Value → Shared → Prop),
    Below A₀ base outer h₀ → Fr h₀ L s.heap m → (Mine.frag.heap_1 w.params).In h₀ → News h₀ L s.heap news → Top p loose mean mg mb h₀ → cs.kind = .function → dp + d < recursionLimit → un + u < cLine →
    (∀ r news' h' tk', R r news' → Fr h₀ L h' m → News h₀ L h' news' → Q r { s with heap := h', toks := tk' }) →
    wpAny (model prog w) (ktrTop dp un gd cn cs L a ccd cl outer) (call (.ref f) vs) Q E s

section
variable {prog : Program} {w : World} {p : Program} {loose : List Str} {mean : ExcName → Option Value} {mg mb : Str → Option Value} {f : Addr} {vs : List Value} {d u : Nat} {news : List (Addr × Obj)} {R : Value → List (Addr × Obj) → Prop}
theorem ctr_use {dp un : Nat} {gd : Option (List Code)} {cn : Str} {cs : Scope} {a : Addr} {ccd : Value} {cl : List (Str × Addr)} {outer : List Env} {A₀ : Around} {base h₀ : Heap} {L : Addr} {m : Str → Option Value} {s : Shared} {Q E : Value → Shared → Prop}
    (C : Ctr prog w p loose mean mg mb f vs d u news R)
    (B : Below A₀ base outer h₀) (F : Fr h₀ L s.heap m) (X : (Mine.frag.heap_1 w.params).In h₀) (N : News h₀ L s.heap news) (T : Top p loose mean mg mb h₀) (hk : cs.kind = .function) (hd : dp + d < recursionLimit) (hu : un + u < cLine)
    (k : ∀ r news' h' tk', R r news' → Fr h₀ L h' m → News h₀ L h' news' → Q r { s with heap := h', toks := tk' }) :
    wpAny (model prog w) (ktrTop dp un gd cn cs L a ccd cl outer) (call (.ref f) vs) Q E s :=
  C _ _ _ _ _ _ _ _ _ _ _ _ _ _ _ _ _ B F X N T hk hd hu k
theorem Ctr.weak {news₁ : List (Addr × Obj)} {R₁ : Value → List (Addr × Obj) → Prop} (C : Ctr prog w p loose mean mg mb f vs d u news₁ R₁) (h1 : ∀ q ∈ news₁, q ∈ news)
    (h2 : ∀ r n₁, R₁ r n₁ → ∃ n', R r n' ∧ ∀ q ∈ n', q ∈ n₁) : Ctr prog w p loose mean mg mb f vs d u news R := by
  intro dp un gd cn cs a ccd cl outer A₀ base h₀ L m s Q E B F X N T hk hd hu hret
  refine C _ _ _ _ _ _ _ _ _ _ _ _ _ _ _ _ _ B F X (fun q hq => N q (h1 q hq)) T hk hd hu fun r n₁ h' tk' hR F' N' => ?_
  obtain ⟨n', hR', hs⟩ := h2 r n₁ hR
  exact hret r n' h' tk' hR' F' fun q hq => N' q (hs q hq)
end
/-- the same in continuation form: K says of the post S what is to be shown -/
def CtrK (prog : Program) (w : World) (p : Program) (loose : List Str) (mean : ExcName → Option Value) (mg mb : Str → Option Value) (f : Addr) (vs : List Value) (d u : Nat) (news : List (Addr × Obj)) (K : (Value → List (Addr × Obj) → Prop) → Prop) : Prop :=
  ∀ S, K S → Ctr prog w p loose mean mg mb f vs d u news S
theorem CtrK.of {prog : Program} {w : World} {p : Program} {loose : List Str} {mean : ExcName → Option Value} {mg mb : Str → Option Value} {f : Addr} {vs : List Value} {d u : Nat} {news : List (Addr × Obj)} {R : Value → List (Addr × Obj) → Prop} {K : (Value → List (Addr × Obj) → Prop) → Prop}
    (C : Ctr prog w p loose mean mg mb f vs d u news R) (h : ∀ S, K S → ∀ r n, R r n → S r n) : CtrK prog w p loose mean mg mb f vs d u news K := by
  intro S hK dp un gd cn cs a ccd cl outer A₀ base h₀ L m s Q E B F X N T hk hd hu hret
  exact C _ _ _ _ _ _ _ _ _ _ _ _ _ _ _ _ _ B F X N T hk hd hu fun r n h' tk' hR F' N' => hret r n h' tk' (h S hK r n hR) F' N'
theorem ctrk_use {prog : Program} {w : World} {p : Program} {loose : List Str} {mean : ExcName → Option Value} {mg mb : Str → Option Value} {f : Addr} {vs : List Value} {d u : Nat} {news : List (Addr × Obj)} {K : (Value → List (Addr × Obj) → Prop) → Prop}
    {dp un : Nat} {gd : Option (List Code)} {cn : Str} {cs : Scope} {a : Addr} {ccd : Value} {cl : List (Str × Addr)} {outer : List Env} {A₀ : Around} {base h₀ : Heap} {L : Addr} {m : Str → Option Value} {s : Shared} {Q E : Value → Shared → Prop}
    (C : CtrK prog w p loose mean mg mb f vs d u news K)
    (B : Below A₀ base outer h₀) (F : Fr h₀ L s.heap m) (X : (Mine.frag.heap_1 w.params).In h₀) (N : News h₀ L s.heap news) (T : Top p loose mean mg mb h₀) (hk : cs.kind = .function) (hd : dp + d < recursionLimit) (hu : un + u < cLine)
    (k : K fun r news' => ∀ h' tk', Fr h₀ L h' m → News h₀ L h' news' → Q r { s with heap := h', toks := tk' }) :
    wpAny (model prog w) (ktrTop dp un gd cn cs L a ccd cl outer) (call (.ref f) vs) Q E s :=
  C _ k _ _ _ _ _ _ _ _ _ _ _ _ _ _ _ _ _ B F X N T hk hd hu fun _ _ h' tk' hS F' N' => hS h' tk' F' N'
theorem fmod_ge (a : Int) {m : Int} (h : 0 < m) : 0 ≤ a.fmod m := by
  rw [Int.fmod_eq_emod_of_nonneg _ (Int.le_of_lt h)]; exact Int.emod_nonneg _ (by omega)
theorem fmod_lt (a : Int) {m : Int} (h : 0 < m) : a.fmod m < m := by
  rw [Int.fmod_eq_emod_of_nonneg _ (Int.le_of_lt h)]; exact Int.emod_lt_of_pos _ h
/-- an ascending list of addresses -/
noncomputable def Asc : List Nat → Prop
  | [] => True
  | [_] => True
  | a :: b :: r => a < b ∧ Asc (b :: r)
theorem Asc.pairwise : ∀ {l : List Nat}, Asc l → l.Pairwise (· < ·)
  | [], _ => .nil
  | [_], _ => .cons (fun _ h => nomatch h) .nil
  | a :: b :: r, h => by
    have ih := Asc.pairwise h.2
    refine .cons (fun c hc => ?_) ih
    rcases List.mem_cons.mp hc with rfl | hc
    · exact h.1
    · exact Nat.lt_trans h.1 (List.rel_of_pairwise_cons ih hc)
structure AscL (l : List Nat) : Prop where
  asc : Asc l
inductive Before : Nat → Nat → List Nat → Prop
  | head {a b : Nat} {l : List Nat} : List.Mem b l → Before a b (a :: l)
  | tail {a b c : Nat} {l : List Nat} : Before a b l → Before a b (c :: l)
theorem Before.lt {a b : Nat} {l : List Nat} (h : Before a b l) (hs : l.Pairwise (· < ·)) : a < b := by
  induction h with
  | head hb => exact List.rel_of_pairwise_cons hs hb
  | tail _ ih => exact ih (List.Pairwise.of_cons hs)
theorem asc_ne {a b : Nat} {l : List Nat} (h : AscL l) (hb : Before a b l) : a ≠ b := Nat.ne_of_lt (hb.lt h.asc.pairwise)
theorem asc_ne' {a b : Nat} {l : List Nat} (h : AscL l) (hb : Before b a l) : a ≠ b := Nat.ne_of_gt (hb.lt h.asc.pairwise)
def nth (l : List Nat) (i : Nat) : Nat := l.getD i 0
theorem nth_ne {l : List Nat} (h : l.Pairwise (· < ·)) {i j : Nat} (hi : i < l.length) (hj : j < l.length) (hij : i ≠ j) : nth l i ≠ nth l j := by
  have e : ∀ {k : Nat} (hk : k < l.length), nth l k = l[k] := fun hk => by simp [nth, hk]
  rw [e hi, e hj]
  rcases Nat.lt_or_gt_of_ne hij with q | q
  · exact Nat.ne_of_lt (List.pairwise_iff_getElem.mp h i j hi hj q)
  · exact Nat.ne_of_gt (List.pairwise_iff_getElem.mp h j i hj hi q)
theorem off_nth {l : List Nat} (h : Asc l) {is js : List Nat} (hc : (is.all fun i => js.all fun j => decide (i < l.length) && decide (j < l.length) && decide (i ≠ j)) = true) : ∀ a ∈ is.map (nth l), ∀ b ∈ js.map (nth l), a ≠ b := by
  intro a ha b hb
  obtain ⟨i, hi, rfl⟩ := List.mem_map.mp ha
  obtain ⟨j, hj, rfl⟩ := List.mem_map.mp hb
  have := List.all_eq_true.mp (List.all_eq_true.mp hc i hi) j hj
  simp only [Bool.and_eq_true, decide_eq_true_eq] at this
  exact nth_ne h.pairwise this.1.1 this.1.2 this.2
/-- two addresses apart, out of arithmetic's sight -/
structure Off (a b : Nat) : Prop where
  ne : a ≠ b
theorem ne_mem_lt {l : List (Addr × Obj)} {a d : Nat} {o : Obj} (h : ∀ q ∈ l, q.1 < d) (hm : (a, o) ∈ l) : a ≠ d := Nat.ne_of_lt (h _ hm)
theorem ne_mem_gt {l : List (Addr × Obj)} {a d : Nat} {o : Obj} (h : ∀ q ∈ l, q.1 < d) (hm : (a, o) ∈ l) : d ≠ a := Nat.ne_of_gt (h _ hm)
theorem ne_mem_off {l : List (Addr × Obj)} {a d : Nat} {o : Obj} (h : ∀ q ∈ l, q.1 ≠ d) (hm : (a, o) ∈ l) : a ≠ d := h _ hm
theorem ne_mem_off' {l : List (Addr × Obj)} {a d : Nat} {o : Obj} (h : ∀ q ∈ l, q.1 ≠ d) (hm : (a, o) ∈ l) : d ≠ a := (h _ hm).symm
--LINES
-- all lines of the walk that stand under k_with below go first
local macro_rules | `(tactic| walk_at $s:str) => `(tactic| k_extra $s)
-- two addresses apart, by what is at hand ahead of arithmetic
local macro_rules | `(tactic| k_ne) => `(tactic| first
  | (refine neN ?_; (try dsimp only); first
    | assumption
    | exact Ne.symm (by assumption)
    | exact Off.ne (by assumption)
    | exact Nat.ne_of_lt (by assumption)
    | exact Nat.ne_of_gt (by assumption)
    | (refine' asc_ne ?h ?b; (case h => assumption); (case b => (repeat (first | ((refine Before.head ?_); (repeat (first | exact List.Mem.head _ | refine List.Mem.tail _ ?_)); done) | refine Before.tail ?_))))
    | (refine' asc_ne' ?h ?b; (case h => assumption); (case b => (repeat (first | ((refine Before.head ?_); (repeat (first | exact List.Mem.head _ | refine List.Mem.tail _ ?_)); done) | refine Before.tail ?_))))
    | (refine' ne_mem_lt ?h ?m; (case h => assumption); (case m => k_mem))
    | (refine' ne_mem_gt ?h ?m; (case h => assumption); (case m => k_mem))
    | (refine' ne_mem_off ?h ?m; (case h => assumption); (case m => k_mem))
    | (refine' ne_mem_off' ?h ?m; (case h => assumption); (case m => k_mem)))
  | fail "k_ne")
--END

-- the walk's own switch and caches as in a file of its own
theorem switch_2 : True := by
  w_top off
  exact trivial
/-- the pot of draws -/
structure Pot where
  pos : Int
  seed : Int
  t1 : Tok
  t2 : Tok
  n : Nat
def Pot.obj (cells : Addr) (P : Pot) : Obj := listOf #[.ref cells, .int P.pos P.t1, .int P.seed P.t2] P.n
def Pot.Ok (P : Pot) : Prop := 0 ≤ P.pos ∧ 0 ≤ P.seed ∧ P.seed < 714025

section
variable {prog : Program} {w : World} {p : Program} {loose : List Str} {mean : ExcName → Option Value} {mg mb : Str → Option Value}
theorem dip_lit {pot cells : Addr} {cs : List Value} {ns : List Int} {nc n : Nat} {at₀ seed many : Int} {t1 t2 t3 : Tok} {own : List (Addr × Obj)}
    (hoff : OwnOff own [pot]) (hne : cells ≠ pot) (hI : IntsAre cs ns) (hlen : ns.length ≤ 60) (hat : 0 ≤ at₀) (hs : 0 ≤ seed) (hs2 : seed < 714025) (hm : 0 < many) :
    Ctr prog w p loose mean mg mb 195 [.ref pot, .int many t3] 10 100 ((pot, listOf #[.ref cells, .int at₀ t1, .int seed t2] n) :: (cells, listOf cs.toArray nc) :: own)
      (fun r news' => ∃ k t at' seed' t1' t2' n', r = .int k t ∧
        news' = (pot, listOf #[.ref cells, .int at' t1', .int seed' t2'] n') :: (cells, listOf cs.toArray nc) :: own ∧ 0 ≤ k ∧ k < many ∧ 0 ≤ at' ∧ 0 ≤ seed' ∧ seed' < 714025) := by
  intro dp un gd cn csc a ccd cl outer A₀ base h₀ L m s Q E B F X N T hk hd hu hret
  refine wpAny_call ?_
  k_dflt ktr_enter
  k_steps
  · refine hret _ _ _ _ ?_ (by assumption) (by assumption)
    exact ⟨_, _, _, _, _, _, _, rfl, rfl, fmod_ge _ hm, fmod_lt _ hm, by omega, by omega, by omega⟩
  · refine hret _ _ _ _ ?_ (by assumption) (by assumption)
    exact ⟨_, _, _, _, _, _, _, rfl, rfl, fmod_ge _ hm, fmod_lt _ hm, by omega, fmod_ge _ (by decide), fmod_lt _ (by decide)⟩

theorem dip {pot cells : Addr} {cs : List Value} {ns : List Int} {nc : Nat} {P : Pot} {many : Int} {t3 : Tok} {news : List (Addr × Obj)} {g : Obj → List (Addr × Obj)}
    (U : UpdF pot (P.obj cells) news g) (hc : (cells, listOf cs.toArray nc) ∈ news) (hne : cells ≠ pot) (hI : IntsAre cs ns) (hlen : ns.length ≤ 60) (hP : P.Ok) (hm : 0 < many) :
    Ctr prog w p loose mean mg mb 195 [.ref pot, .int many t3] 10 100 news
      (fun r news' => ∃ k t P', r = .int k t ∧ news' = g (Pot.obj cells P') ∧ 0 ≤ k ∧ k < many ∧ P'.Ok) := by
  obtain ⟨pre, post, rfl, hg, h1, h2⟩ := U.split
  have hoff : OwnOff (pre ++ post) [pot] := by
    intro q hq b hb
    rw [List.mem_singleton.mp hb]
    exact (List.mem_append.mp hq).elim (h1 q) (h2 q)
  have hc' : (cells, listOf cs.toArray nc) ∈ pre ++ post := by
    rcases List.mem_append.mp hc with h | h
    · exact List.mem_append.mpr (.inl h)
    · rcases List.mem_cons.mp h with h | h
      · exact absurd (congrArg Prod.fst h) hne
      · exact List.mem_append.mpr (.inr h)
  refine Ctr.weak (dip_lit (nc := nc) hoff hne hI hlen hP.1 hP.2.1 hP.2.2 hm (t1 := P.t1) (t2 := P.t2) (n := P.n)) ?_ ?_
  · intro q hq
    rcases List.mem_cons.mp hq with rfl | hq
    · exact List.mem_append.mpr (.inr (.head _))
    · rcases List.mem_cons.mp hq with rfl | hq
      · exact hc
      · rcases List.mem_append.mp hq with h | h
        · exact List.mem_append.mpr (.inl h)
        · exact List.mem_append.mpr (.inr (.tail _ h))
  · rintro r n₁ ⟨k, t, a', s', t1', t2', n', rfl, rfl, hk0, hk1, ha, hs, hs2⟩
    refine ⟨g (Pot.obj cells ⟨a', s', t1', t2', n'⟩), ⟨k, t, ⟨a', s', t1', t2', n'⟩, rfl, rfl, hk0, hk1, ha, hs, hs2⟩, ?_⟩
    intro q hq
    rw [hg] at hq
    rcases List.mem_append.mp hq with h | h
    · exact .tail _ (.tail _ (List.mem_append.mpr (.inl h)))
    · rcases List.mem_cons.mp h with rfl | h
      · exact .head _
      · exact .tail _ (.tail _ (List.mem_append.mpr (.inr h)))
theorem dip_k {pot cells : Addr} {cs : List Value} {ns : List Int} {nc : Nat} {P : Pot} {many : Int} {t3 : Tok} {news : List (Addr × Obj)} {g : Obj → List (Addr × Obj)}
    (U : UpdF pot (P.obj cells) news g) (hc : (cells, listOf cs.toArray nc) ∈ news) (hne : cells ≠ pot) (hI : IntsAre cs ns) (hlen : ns.length ≤ 60) (hP : P.Ok) (hm : 0 < many) :
    CtrK prog w p loose mean mg mb 195 [.ref pot, .int many t3] 10 100 news
      (fun Sx => ∀ k t P', 0 ≤ k → k < many → P'.Ok → Sx (.int k t) (g (Pot.obj cells P'))) :=
  CtrK.of (dip U hc hne hI hlen hP hm) (by rintro Sx kx rx news1 ⟨k, t, P', e1, e2, f0, f1, f2⟩; subst e1; subst e2; exact kx k t P' f0 f1 f2)
end

-- the walk's own switch and caches as in a file of its own
theorem switch_3 : True := by
  w_top off
  exact trivial
abbrev tabD (rw bt : Addr) (h1 h2 : Int) (k1 k2 : Tok) (n : Nat) : Obj := dictOf [⟨h1, .str (Str.ofString "rows") k1, .ref rw⟩, ⟨h2, .str (Str.ofString "by_text") k2, .ref bt⟩] n
abbrev symD (num : Int) (text : Str) (h1 h2 : Int) (k1 k2 tn tt : Tok) (n : Nat) : Obj := dictOf [⟨h1, .str (Str.ofString "number") k1, .int num tn⟩, ⟨h2, .str (Str.ofString "text") k2, .str text tt⟩] n
section
variable {prog : Program} {w : World} {A : Around} {E : Value → Shared → Prop} {s : Shared} {h₀ : Heap} {L : Addr} {news : List (Addr × Obj)}
theorem listAt {h : Heap} {l : Addr} {vs : List Value} {n : Nat} (N : News h₀ L h news) (hm : (l, listOf vs.toArray n) ∈ news) : h.IsList l vs.toArray := ⟨_, (N _ hm).1, rfl, _, rfl⟩
theorem my_item {value slice : PySem.Expr} {l : Addr} {vs : List Value} {n : Nat} {k : Int} {u : Tok} {v : Value} {Q : Value → Shared → Prop} (N : News h₀ L s.heap news) (hm : (l, listOf vs.toArray n) ∈ news)
    (h0 : 0 ≤ k) (hfit : k < 2 ^ 63) (hx : vs[k.toNat]? = some v) (h : Q v s)
    (hs : subscripted slice false (.ref l) (.int k u) = operate [.ref l, .int k u] (getItem (.ref l) (.int k u)) := by with_unfolding_all rfl) (hg : ∀ r, letTemporaryGo value (.ref l) r = pure () := by intro _; with_unfolding_all rfl) :
    wpAny (model prog w) A (subscriptTail value slice (.ref l) (.int k u)) Q E s := item_list (listAt N hm) h0 hfit (by simpa using hx) h hs hg
theorem my_len {l : Addr} {vs : List Value} {n : Nat} {Q : Value → Shared → Prop} (N : News h₀ L s.heap news) (hm : (l, listOf vs.toArray n) ∈ news) (hl : vs.length ≤ 100000)
    (h : Q (.int vs.length (s.toks + 1)) { s with toks := s.toks + 1 + 1 }) : wpAny (model prog w) A (call (.builtin "len") [.ref l]) Q E s :=
  len_list (listAt N hm) (by simp only [List.size_toArray]; omega) (by simpa using h)
theorem is_none_self {Q : Value → Shared → Prop} (h : Q (.bool true) s) : wpAny (model prog w) A (compareOp .Is .none .none) Q E s := wpAny_is_self (by rfl) h
theorem is_ref_none {x : Addr} {Q : Value → Shared → Prop} (h : Q (.bool false) s) : wpAny (model prog w) A (compareOp .Is (.ref x) .none) Q E s := wpAny_is_other (by rfl) (by intro x; cases x) h
theorem is_none_ref {x : Addr} {Q : Value → Shared → Prop} (h : Q (.bool false) s) : wpAny (model prog w) A (compareOp .Is .none (.ref x)) Q E s := wpAny_is_other (by rfl) (by intro x; cases x) h
theorem is_sym {x y C D dx dy : Addr} {Q : Value → Shared → Prop} (N : News h₀ L s.heap news) (hx : (x, instObj C dx) ∈ news) (hy : (y, instObj D dy) ∈ news) (h : Q (.bool (decide (x = y))) s) : wpAny (model prog w) A (compareOp .Is (.ref x) (.ref y)) Q E s := by
  by_cases e : x = y
  · subst e
    rw [decide_eq_true rfl] at h
    exact wpAny_is_ref_self h
  · rw [decide_eq_false e] at h
    exact wpAny_is_ref_other e (N _ hx).1 (N _ hy).1 (by intro z; cases z) h
end
--LINES
local macro_rules | `(tactic| k_mem) => `(tactic| assumption)
example : True := by
  k_with "getMethod ref" => (k_here; (with_reducible show wpAny _ _ (getMethod (Value.ref _) (Str.ofString "get") _) _ _ _); k_dflt (first | refine kdg_method (knd := PySem.strKind _ _) (by k_asm) (by k_mem) (by k_asm) ?_ | refine kdg_method (knd := PySem.intKind _ _) (by k_asm) (by k_mem) (by k_asm) ?_))
  k_with "call builtin:dict.get" => (k_here; k_dflt (first | refine kdg_get2 (knd := PySem.strKind _ _) (by k_asm) (by k_mem) (by k_asm) (by k_asm) (strKind_is _ _ _ _) _ (by first | assumption | exact rfl) ?_ | refine kdg_get2 (knd := PySem.intKind _ _) (by k_asm) (by k_mem) (by k_asm) (by k_asm) (intKind_is _ _ _ _) _ (by first | assumption | exact rfl) ?_); (try dsimp only [Option.getD]))
  k_with "subscriptTail" => (k_here; (with_reducible show wpAny _ _ (subscriptTail _ _ (Value.ref _) (Value.int _ _)) _ _ _); k_dflt (refine' my_item ?k1 ?k2 ?k3 ?k4 ?k5 ?_; (case k1 => k_asm); (case k2 => k_mem); (case k3 => assumption); (case k4 => assumption); (case k5 => assumption); k_whole))
  k_with "call builtin:len" => (k_here; (with_reducible show wpAny _ _ (call (Value.builtin "len") [Value.ref _]) _ _ _); k_dflt (refine' my_len ?k1 ?k2 ?k3 ?_; (case k1 => k_asm); (case k2 => k_mem); (case k3 => assumption); k_whole))
  k_with "compareOp Is" => (k_here; first | ((with_reducible show wpAny _ _ (compareOp CmpOp.Is Value.none Value.none) _ _ _); refine is_none_self ?_) | ((with_reducible show wpAny _ _ (compareOp CmpOp.Is (Value.ref _) Value.none) _ _ _); refine is_ref_none ?_) | ((with_reducible show wpAny _ _ (compareOp CmpOp.Is Value.none (Value.ref _)) _ _ _); refine is_none_ref ?_) | ((with_reducible show wpAny _ _ (compareOp CmpOp.Is (Value.ref _) (Value.ref _)) _ _ _); k_dflt (refine' is_sym ?k1 ?k2 ?k3 ?_; (case k1 => k_asm); (case k2 => k_mem); (case k3 => k_mem); k_whole)))
  exact trivial
--END
section
variable {prog : Program} {w : World} {p : Program} {loose : List Str} {mean : ExcName → Option Value} {mg mb : Str → Option Value}
  {t dt rw bt : Addr} {h1 h2 : Int} {k1 k2 : Tok} {n : Nat} {news : List (Addr × Obj)} {ob : Obj} {kvs : List (Str × Value)}

theorem tab_find {text : Str} {tk : Tok} {v : Option Value} (ht : (t, instObj 94 dt) ∈ news) (hdt : (dt, tabD rw bt h1 h2 k1 k2 n) ∈ news) (hb : (bt, ob) ∈ news) (hD : ob.IsDictOf (strKind prog w) kvs) (lo : (bt == sysModules) = false) (hl : valueAt kvs text = v) :
    Ctr prog w p loose mean mg mb 77 [.ref t, .str text tk] 20 200 news (fun r news' => r = v.getD .none ∧ news' = news) := by
  intro dp un gd cn csc a ccd cl outer A₀ base h₀ L m s Q E B F X N T hk hd hu hret
  refine wpAny_call ?_
  k_dflt ktr_enter
  k_steps
  exact hret _ _ _ _ ⟨rfl, rfl⟩ (by assumption) (by assumption)

theorem tab_find_k {text : Str} {tk : Tok} {v : Option Value} (ht : (t, instObj 94 dt) ∈ news) (hdt : (dt, tabD rw bt h1 h2 k1 k2 n) ∈ news) (hb : (bt, ob) ∈ news) (hD : ob.IsDictOf (strKind prog w) kvs) (lo : (bt == sysModules) = false) (hl : valueAt kvs text = v) :
    CtrK prog w p loose mean mg mb 77 [.ref t, .str text tk] 20 200 news (fun Sx => Sx (v.getD .none) (news)) :=
  CtrK.of (tab_find ht hdt hb hD lo hl) (by rintro Sx kx rx news1 ⟨e1, e2⟩; subst e1; subst e2; exact kx)
theorem tab_by_number {k : Int} {tk : Tok} {vs : List Value} {nr : Nat} {v : Value} (ht : (t, instObj 94 dt) ∈ news) (hdt : (dt, tabD rw bt h1 h2 k1 k2 n) ∈ news) (hr : (rw, listOf vs.toArray nr) ∈ news) (hk0 : 0 ≤ k) (hk1 : k < 2 ^ 63) (hx : vs[k.toNat]? = some v) :
    Ctr prog w p loose mean mg mb 70 [.ref t, .int k tk] 20 200 news (fun r news' => r = v ∧ news' = news) := by
  intro dp un gd cn csc a ccd cl outer A₀ base h₀ L m s Q E B F X N T hk hd hu hret
  refine wpAny_call ?_
  k_dflt ktr_enter
  k_steps
  exact hret _ _ _ _ ⟨rfl, rfl⟩ (by assumption) (by assumption)

theorem tab_by_number_k {k : Int} {tk : Tok} {vs : List Value} {nr : Nat} {v : Value} (ht : (t, instObj 94 dt) ∈ news) (hdt : (dt, tabD rw bt h1 h2 k1 k2 n) ∈ news) (hr : (rw, listOf vs.toArray nr) ∈ news) (hk0 : 0 ≤ k) (hk1 : k < 2 ^ 63) (hx : vs[k.toNat]? = some v) :
    CtrK prog w p loose mean mg mb 70 [.ref t, .int k tk] 20 200 news (fun Sx => Sx (v) (news)) :=
  CtrK.of (tab_by_number ht hdt hr hk0 hk1 hx) (by rintro Sx kx rx news1 ⟨e1, e2⟩; subst e1; subst e2; exact kx)
theorem tab_size {vs : List Value} {nr : Nat} (ht : (t, instObj 94 dt) ∈ news) (hdt : (dt, tabD rw bt h1 h2 k1 k2 n) ∈ news) (hr : (rw, listOf vs.toArray nr) ∈ news) (hl : vs.length ≤ 100000) :
    Ctr prog w p loose mean mg mb 91 [.ref t] 20 200 news (fun r news' => (∃ tk, r = .int vs.length tk) ∧ news' = news) := by
  intro dp un gd cn csc a ccd cl outer A₀ base h₀ L m s Q E B F X N T hk hd hu hret
  refine wpAny_call ?_
  k_dflt ktr_enter
  k_steps
  exact hret _ _ _ _ ⟨⟨_, rfl⟩, rfl⟩ (by assumption) (by assumption)

theorem tab_is_interned0 {x dx : Addr} {num : Int} {text : Str} {g1 g2 : Int} {q1 q2 tn tt : Tok} {nx : Nat} (ht : (t, instObj 94 dt) ∈ news) (hdt : (dt, tabD rw bt h1 h2 k1 k2 n) ∈ news) (hb : (bt, ob) ∈ news) (hD : ob.IsDictOf (strKind prog w) kvs) (lo : (bt == sysModules) = false)
    (hxx : (x, instObj 31 dx) ∈ news) (hdx : (dx, symD num text g1 g2 q1 q2 tn tt nx) ∈ news) (hy : valueAt kvs text = none) :
    Ctr prog w p loose mean mg mb 84 [.ref t, .ref x] 20 200 news (fun r news' => r = .bool false ∧ news' = news) := by
  intro dp un gd cn csc a ccd cl outer A₀ base h₀ L m s Q E B F X N T hk hd hu hret
  refine wpAny_call ?_
  k_dflt ktr_enter
  k_steps
  exact hret _ _ _ _ ⟨rfl, rfl⟩ (by assumption) (by assumption)

theorem tab_is_interned0_k {x dx : Addr} {num : Int} {text : Str} {g1 g2 : Int} {q1 q2 tn tt : Tok} {nx : Nat} (ht : (t, instObj 94 dt) ∈ news) (hdt : (dt, tabD rw bt h1 h2 k1 k2 n) ∈ news) (hb : (bt, ob) ∈ news) (hD : ob.IsDictOf (strKind prog w) kvs) (lo : (bt == sysModules) = false)
    (hxx : (x, instObj 31 dx) ∈ news) (hdx : (dx, symD num text g1 g2 q1 q2 tn tt nx) ∈ news) (hy : valueAt kvs text = none) :
    CtrK prog w p loose mean mg mb 84 [.ref t, .ref x] 20 200 news (fun Sx => Sx (.bool false) (news)) :=
  CtrK.of (tab_is_interned0 ht hdt hb hD lo hxx hdx hy) (by rintro Sx kx rx news1 ⟨e1, e2⟩; subst e1; subst e2; exact kx)
theorem tab_is_interned1 {x dx y dy : Addr} {num : Int} {text : Str} {g1 g2 : Int} {q1 q2 tn tt : Tok} {nx : Nat} (ht : (t, instObj 94 dt) ∈ news) (hdt : (dt, tabD rw bt h1 h2 k1 k2 n) ∈ news) (hb : (bt, ob) ∈ news) (hD : ob.IsDictOf (strKind prog w) kvs) (lo : (bt == sysModules) = false)
    (hxx : (x, instObj 31 dx) ∈ news) (hdx : (dx, symD num text g1 g2 q1 q2 tn tt nx) ∈ news) (hyy : (y, instObj 31 dy) ∈ news) (hy : valueAt kvs text = some (.ref y)) :
    Ctr prog w p loose mean mg mb 84 [.ref t, .ref x] 20 200 news (fun r news' => r = .bool (decide (y = x)) ∧ news' = news) := by
  intro dp un gd cn csc a ccd cl outer A₀ base h₀ L m s Q E B F X N T hk hd hu hret
  refine wpAny_call ?_
  k_dflt ktr_enter
  k_steps
  exact hret _ _ _ _ ⟨rfl, rfl⟩ (by assumption) (by assumption)
theorem tab_is_interned1_k {x dx y dy : Addr} {num : Int} {text : Str} {g1 g2 : Int} {q1 q2 tn tt : Tok} {nx : Nat} (ht : (t, instObj 94 dt) ∈ news) (hdt : (dt, tabD rw bt h1 h2 k1 k2 n) ∈ news) (hb : (bt, ob) ∈ news) (hD : ob.IsDictOf (strKind prog w) kvs) (lo : (bt == sysModules) = false)
    (hxx : (x, instObj 31 dx) ∈ news) (hdx : (dx, symD num text g1 g2 q1 q2 tn tt nx) ∈ news) (hyy : (y, instObj 31 dy) ∈ news) (hy : valueAt kvs text = some (.ref y)) :
    CtrK prog w p loose mean mg mb 84 [.ref t, .ref x] 20 200 news (fun Sx => Sx (.bool (decide (y = x))) (news)) :=
  CtrK.of (tab_is_interned1 ht hdt hb hD lo hxx hdx hyy hy) (by rintro Sx kx rx news1 ⟨e1, e2⟩; subst e1; subst e2; exact kx)
end

-- the walk's own switch and caches as in a file of its own
theorem switch_4 : True := by
  w_top off
  exact trivial
theorem allLt_ne {d : Addr} : ∀ {l : List (Addr × Obj)}, AllLt d l → ∀ q ∈ l, q.1 ≠ d
  | [], _, _, hq => nomatch hq
  | a :: r, h, q, hq => by
    rcases List.mem_cons.mp hq with rfl | hq
    · exact Nat.ne_of_lt h.1
    · exact allLt_ne h.2 q hq
--LINES
local macro_rules | `(tactic| k_all) => `(tactic| first
  | exact allLt_ne (by assumption)
  | exact allLt_ne (And.right (by assumption))
  | exact allLt_ne (And.right (And.right (by assumption)))
  | exact allLt_ne (And.right (And.right (And.right (by assumption))))
  | exact allLt_ne (And.right (And.right (And.right (And.right (by assumption))))))
local macro_rules | `(tactic| ktn_open) => `(tactic| (refine' code_def ?k1 ?k2 ?k3 ?k4 ?k5 ?kA ?kF ?kK ?k6 ?k7 ?k8 ?k9 ?kB ?_ ?c2 ?c3 ?c4 ?c5; (case kA => exact rfl); (case kF => exact rfl); (case kK => first | assumption | exact rfl); (case k1 => k_asm); (case k2 => k_asm); (case k3 => k_asm); (case k4 => k_asm); (case k5 => k_asm); (case k6 => k_is); (case k7 => k_is); (case k8 => ktr_room); (case k9 => exact BindsTo.of_eq rfl); (case c5 => decide); (case kB => exact locs rfl); (case c2 => exact rfl); (case c3 => exact rfl); (case c4 => exact rfl); k_whole; intro g' L' h' FG' F' N' B' X' T'; (try dsimp only); (try k_fold)))
example : True := by
  k_with "setItem ref str" => (k_here; k_dflt (refine' kda_set (knd := PySem.strKind _ _) ?F ?nN ?U ?d (strKind_is _ _ _ _) ?z ?_; (case F => k_asm); (case nN => k_asm); (case U => k_updF); (case d => k_asm); (case z => assumption)); intro h' o' F' N' hd'; (try dsimp only at N'))
  k_with "call ref" => (k_here; k_dflt (refine' call_cls ?k1 ?k2 ?k3 ?k4 ?k5 ?k6 ?_; (case k1 => k_asm); (case k2 => k_asm); (case k3 => k_asm); (case k4 => k_is); (case k5 => k_is); (case k6 => k_is); k_whole; intro x' d' h' F' N' l1 l2; (try k_lt l1); (try k_lt2 l2); (try k_sweep); ktn_open))
  exact trivial
--END
section
variable {prog : Program} {w : World} {p : Program} {loose : List Str} {mean : ExcName → Option Value} {mg mb : Str → Option Value}
  {t dt rw bt : Addr} {h1 h2 : Int} {k1 k2 : Tok} {n nr : Nat} {own : List (Addr × Obj)} {ob : Obj} {kvs : List (Str × Value)} {vs : List Value}

theorem tab_symbol_new {text : Str} {tk : Tok} (hoff : OwnOff own [rw, bt]) (hne : @Ne Nat rw bt) (ht : (t, instObj 94 dt) ∈ own) (hdt : (dt, tabD rw bt h1 h2 k1 k2 n) ∈ own) (hD : ob.IsDictOf (strKind prog w) kvs) (lo : (bt == sysModules) = false)
    (hl : vs.length ≤ 100000) (hlk : kvs.length ≤ sizeLine) (hy : valueAt kvs text = none) :
    Ctr prog w p loose mean mg mb 56 [.ref t, .str text tk] 20 200 ((rw, listOf vs.toArray nr) :: (bt, ob) :: own)
      (fun r news' => ∃ x dx nr' ob' g1 g2 q1 q2 tn tt nx, r = .ref x ∧ news' = (x, instObj 31 dx) :: (dx, symD vs.length text g1 g2 q1 q2 tn tt nx) :: (rw, listOf (vs ++ [Value.ref x]).toArray nr') :: (bt, ob') :: own ∧
        ob'.IsDictOf (strKind prog w) (stored kvs text (Value.ref x)) ∧ AllLt dx ((rw, listOf vs.toArray nr) :: (bt, ob) :: own) ∧ dx < x) := by
  intro dp un gd cn csc a ccd cl outer A₀ base h₀ L m s Q E B F X N T hk hd hu hret
  refine wpAny_call ?_
  k_dflt ktr_enter
  k_steps
  simp only [List.push_toArray] at *
  refine hret _ _ _ _ ?_ (by assumption) (by assumption)
  exact ⟨_, _, _, _, _, _, _, _, _, _, _, rfl, rfl, by assumption, by assumption, by assumption⟩

theorem tab_symbol_new_k {text : Str} {tk : Tok} (hoff : OwnOff own [rw, bt]) (hne : @Ne Nat rw bt) (ht : (t, instObj 94 dt) ∈ own) (hdt : (dt, tabD rw bt h1 h2 k1 k2 n) ∈ own) (hD : ob.IsDictOf (strKind prog w) kvs) (lo : (bt == sysModules) = false)
    (hl : vs.length ≤ 100000) (hlk : kvs.length ≤ sizeLine) (hy : valueAt kvs text = none) :
    CtrK prog w p loose mean mg mb 56 [.ref t, .str text tk] 20 200 ((rw, listOf vs.toArray nr) :: (bt, ob) :: own)
      (fun Sx => ∀ x dx nr' ob' g1 g2 q1 q2 tn tt nx, ob'.IsDictOf (strKind prog w) (stored kvs text (Value.ref x)) → AllLt dx ((rw, listOf vs.toArray nr) :: (bt, ob) :: own) → dx < x → Sx (.ref x) ((x, instObj 31 dx) :: (dx, symD vs.length text g1 g2 q1 q2 tn tt nx) :: (rw, listOf (vs ++ [Value.ref x]).toArray nr') :: (bt, ob') :: own)) :=
  CtrK.of (tab_symbol_new hoff hne ht hdt hD lo hl hlk hy) (by rintro Sx kx rx news1 ⟨x, dx, nr', ob', g1, g2, q1, q2, tn, tt, nx, e1, e2, f0, f1, f2⟩; subst e1; subst e2; exact kx x dx nr' ob' g1 g2 q1 q2 tn tt nx f0 f1 f2)
theorem tab_symbol_old {text : Str} {tk : Tok} {y : Addr} {news : List (Addr × Obj)} (ht : (t, instObj 94 dt) ∈ news) (hdt : (dt, tabD rw bt h1 h2 k1 k2 n) ∈ news) (hb : (bt, ob) ∈ news) (hD : ob.IsDictOf (strKind prog w) kvs) (lo : (bt == sysModules) = false)
    (hy : valueAt kvs text = some (.ref y)) :
    Ctr prog w p loose mean mg mb 56 [.ref t, .str text tk] 20 200 news (fun r news' => r = .ref y ∧ news' = news) := by
  intro dp un gd cn csc a ccd cl outer A₀ base h₀ L m s Q E B F X N T hk hd hu hret
  refine wpAny_call ?_
  k_dflt ktr_enter
  k_steps
  exact hret _ _ _ _ ⟨rfl, rfl⟩ (by assumption) (by assumption)

theorem tab_symbol_old_k {text : Str} {tk : Tok} {y : Addr} {news : List (Addr × Obj)} (ht : (t, instObj 94 dt) ∈ news) (hdt : (dt, tabD rw bt h1 h2 k1 k2 n) ∈ news) (hb : (bt, ob) ∈ news) (hD : ob.IsDictOf (strKind prog w) kvs) (lo : (bt == sysModules) = false)
    (hy : valueAt kvs text = some (.ref y)) :
    CtrK prog w p loose mean mg mb 56 [.ref t, .str text tk] 20 200 news (fun Sx => Sx (.ref y) (news)) :=
  CtrK.of (tab_symbol_old ht hdt hb hD lo hy) (by rintro Sx kx rx news1 ⟨e1, e2⟩; subst e1; subst e2; exact kx)
theorem tab_fresh {hint : Str} {tk : Tok} (hoff : OwnOff own [rw]) (ht : (t, instObj 94 dt) ∈ own) (hdt : (dt, tabD rw bt h1 h2 k1 k2 n) ∈ own)
    (hl : vs.length ≤ 100000) (hh : hint.length ≤ 10) :
    Ctr prog w p loose mean mg mb 63 [.ref t, .str hint tk] 20 200 ((rw, listOf vs.toArray nr) :: own)
      (fun r news' => ∃ x dx nr' g1 g2 q1 q2 tn tt nx, r = .ref x ∧ news' = (x, instObj 31 dx) :: (dx, symD vs.length (hint ++ Str.ofString "." ++ Str.ofString (toString (vs.length : Int))) g1 g2 q1 q2 tn tt nx) :: (rw, listOf (vs ++ [Value.ref x]).toArray nr') :: own ∧
        AllLt dx ((rw, listOf vs.toArray nr) :: own) ∧ dx < x) := by
  intro dp un gd cn csc a ccd cl outer A₀ base h₀ L m s Q E B F X N T hk hd hu hret
  refine wpAny_call ?_
  k_dflt ktr_enter
  k_steps
  simp only [List.push_toArray, Str.empty_append] at *
  refine hret _ _ _ _ ?_ (by assumption) (by assumption)
  exact ⟨_, _, _, _, _, _, _, _, _, _, rfl, rfl, by assumption, by assumption⟩
end

-- the walk's own switch and caches as in a file of its own
theorem switch_5 : True := by
  w_top off
  exact trivial
structure Ks where
  (e1 e2 e3 e4 e5 : Int)
  (k1 k2 k3 k4 k5 : Tok)
  (n : Nat)
abbrev namD (t ti oa : Addr) (last : Int) (lt : Tok) (K : Ks) : Obj := dictOf [⟨K.e1, .str (Str.ofString "table") K.k1, .ref t⟩, ⟨K.e2, .str (Str.ofString "last") K.k2, .int last lt⟩, ⟨K.e3, .str (Str.ofString "titles") K.k3, .ref ti⟩, ⟨K.e4, .str (Str.ofString "ops") K.k4, .ref oa⟩, ⟨K.e5, .str (Str.ofString "root") K.k5, .none⟩] K.n
section
variable {prog : Program} {w : World} {K : Type} [DecidableEq K] {knd : KeyKind prog w K} {A : Around} {E : Value → Shared → Prop} {s : Shared} {h₀ : Heap} {L d : Addr} {news : List (Addr × Obj)} {o : Obj} {kvs : List (K × Value)} {k : K} {key : Value}
theorem notin_none {Q : Value → Shared → Prop} (N : News h₀ L s.heap news) (hp : (d, o) ∈ news) (hd : o.IsDictOf knd kvs) (lo : (d == sysModules) = false) (hkey : knd.is k key = true) (hl : valueAt kvs k = none) (h : Q (.bool true) { s with toks := s.toks + 1 }) :
    wpAny (model prog w) A (compareOp .NotIn key (.ref d)) Q E s := kdg_notin N hp hd lo hkey false (by rw [hl]; rfl) h
theorem notin_some {v : Value} {Q : Value → Shared → Prop} (N : News h₀ L s.heap news) (hp : (d, o) ∈ news) (hd : o.IsDictOf knd kvs) (lo : (d == sysModules) = false) (hkey : knd.is k key = true) (hl : valueAt kvs k = some v) (h : Q (.bool false) { s with toks := s.toks + 1 }) :
    wpAny (model prog w) A (compareOp .NotIn key (.ref d)) Q E s := kdg_notin N hp hd lo hkey true (by rw [hl]; rfl) h
end
theorem nam_put_last {t ti oa : Addr} {last : Int} {lt : Tok} {K : Ks} {hsh : Int} {key v : Value} :
    (putL (Str.ofString "last") hsh key v [⟨K.e1, .str (Str.ofString "table") K.k1, .ref t⟩, ⟨K.e2, .str (Str.ofString "last") K.k2, .int last lt⟩, ⟨K.e3, .str (Str.ofString "titles") K.k3, .ref ti⟩, ⟨K.e4, .str (Str.ofString "ops") K.k4, .ref oa⟩, ⟨K.e5, .str (Str.ofString "root") K.k5, .none⟩],
      putN (Str.ofString "last") [⟨K.e1, .str (Str.ofString "table") K.k1, .ref t⟩, ⟨K.e2, .str (Str.ofString "last") K.k2, .int last lt⟩, ⟨K.e3, .str (Str.ofString "titles") K.k3, .ref ti⟩, ⟨K.e4, .str (Str.ofString "ops") K.k4, .ref oa⟩, ⟨K.e5, .str (Str.ofString "root") K.k5, .none⟩] K.n) =
    ([⟨K.e1, .str (Str.ofString "table") K.k1, .ref t⟩, ⟨K.e2, .str (Str.ofString "last") K.k2, v⟩, ⟨K.e3, .str (Str.ofString "titles") K.k3, .ref ti⟩, ⟨K.e4, .str (Str.ofString "ops") K.k4, .ref oa⟩, ⟨K.e5, .str (Str.ofString "root") K.k5, .none⟩], K.n) := by rfl
--LINES
example : True := by
  k_with "setAttr ref" => (k_here; (with_reducible show wpAny _ _ (setAttr (Value.ref _) (Str.ofString "last") (Value.int _ _)) _ _ _); k_dflt (refine' set_dict ?k1 ?k2 ?k3 ?k4 ?k5 ?k6 ?k7 ?k8 ?k9 ?k10 ?k11 ?k12 ?k13 ?_; (case k1 => k_asm); (case k2 => k_asm); (case k3 => k_asm); (case k4 => k_inst); (case k5 => exact rfl); (case k6 => k_is); (case k7 => k_is); (case k8 => k_is); (case k9 => k_is); (case k10 => k_get); (case k11 => exact nam_put_last); (case k12 => k_upd); (case k13 => exact Nat.le_of_ble_eq_true rfl); k_whole; intro h' F' N'; (try k_sweep)))
  k_with "compareOp NotIn str ref" => (k_here; k_dflt (first | refine notin_none (knd := PySem.strKind _ _) (by k_asm) (by k_mem) (by k_asm) (by k_asm) (strKind_is _ _ _ _) (by assumption) ?_ | refine notin_some (knd := PySem.strKind _ _) (by k_asm) (by k_mem) (by k_asm) (by k_asm) (strKind_is _ _ _ _) (by assumption) ?_))
  k_with "compareOp NotIn int ref" => (k_here; k_dflt (first | refine notin_none (knd := PySem.intKind _ _) (by k_asm) (by k_mem) (by k_asm) (by k_asm) (intKind_is _ _ _ _) (by assumption) ?_ | refine notin_some (knd := PySem.intKind _ _) (by k_asm) (by k_mem) (by k_asm) (by k_asm) (intKind_is _ _ _ _) (by assumption) ?_))
  k_with "setItem ref int" => (k_here; k_dflt (refine' kda_set (knd := PySem.intKind _ _) ?F ?nN ?U ?d (intKind_is _ _ _ _) ?z ?_; (case F => k_asm); (case nN => k_asm); (case U => k_updF); (case d => k_asm); (case z => assumption)); intro h' o' F' N' hd'; (try dsimp only at N'))
  k_with "call ref" => (k_here; (with_reducible show wpAny _ _ (call (Value.ref 77) _) _ _ _); k_dflt (refine' ctrk_use (tab_find_k ?c1 ?c2 ?c3 ?c4 ?c5 ?c6) ?B ?F ?X ?nN ?T ?kk ?dd ?uu ?_; (case nN => k_asm); (case c1 => k_mem); (case c2 => k_mem); (case c3 => k_mem); (case c4 => k_asm); (case c5 => k_asm); (case c6 => first | assumption | exact rfl); (case B => k_asm); (case F => k_asm); (case X => k_asm); (case T => k_asm); (case kk => first | assumption | exact rfl); (case dd => ktr_room); (case uu => ktr_units)); (try dsimp only); intro  h9 tk9 F9 N9; (try k_sweep); (try dsimp only [Option.getD]))
  k_with "call ref" => (k_here; (with_reducible show wpAny _ _ (call (Value.ref 70) _) _ _ _); k_dflt (refine' ctrk_use (tab_by_number_k ?c1 ?c2 ?c3 ?c4 ?c5 ?c6) ?B ?F ?X ?nN ?T ?kk ?dd ?uu ?_; (case nN => k_asm); (case c1 => k_mem); (case c2 => k_mem); (case c3 => k_mem); (case c4 => assumption); (case c5 => assumption); (case c6 => assumption); (case B => k_asm); (case F => k_asm); (case X => k_asm); (case T => k_asm); (case kk => first | assumption | exact rfl); (case dd => ktr_room); (case uu => ktr_units)); (try dsimp only); intro  h9 tk9 F9 N9; (try k_sweep); (try dsimp only))
  k_with "call ref" => (k_here; (with_reducible show wpAny _ _ (call (Value.ref 56) _) _ _ _); k_dflt (refine' ctrk_use (tab_symbol_old_k ?c1 ?c2 ?c3 ?c4 ?c5 ?c6) ?B ?F ?X ?nN ?T ?kk ?dd ?uu ?_; (case nN => k_asm); (case c1 => k_mem); (case c2 => k_mem); (case c3 => k_mem); (case c4 => k_asm); (case c5 => k_asm); (case c6 => assumption); (case B => k_asm); (case F => k_asm); (case X => k_asm); (case T => k_asm); (case kk => first | assumption | exact rfl); (case dd => ktr_room); (case uu => ktr_units)); (try dsimp only); intro  h9 tk9 F9 N9; (try k_sweep); (try dsimp only))
  k_with "call ref" => (k_here; (with_reducible show wpAny _ _ (call (Value.ref 56) _) _ _ _); k_dflt (refine' ctrk_use (tab_symbol_new_k ?c1 ?c2 ?c3 ?c4 ?c5 ?c6 ?c7 ?c8 ?c9) ?B ?F ?X ?nN ?T ?kk ?dd ?uu ?_; (case nN => k_asm); (case c1 => assumption); (case c2 => assumption); (case c3 => k_mem); (case c4 => k_mem); (case c5 => k_asm); (case c6 => k_asm); (case c7 => assumption); (case c8 => assumption); (case c9 => assumption); (case B => k_asm); (case F => k_asm); (case X => k_asm); (case T => k_asm); (case kk => first | assumption | exact rfl); (case dd => ktr_room); (case uu => ktr_units)); (try dsimp only); intro x9 dx9 nr9 ob9 u1 u2 u3 u4 u5 u6 u7 hD9 hL9 hx9 h9 tk9 F9 N9; (try k_sweep); (try dsimp only))
  exact trivial
--END
section
variable {prog : Program} {w : World} {p : Program} {loose : List Str} {mean : ExcName → Option Value} {mg mb : Str → Option Value}
  {x dx ti oa : Addr} {last : Int} {lt : Tok} {K : Ks}
  {t dt rw bt : Addr} {h1 h2 : Int} {k1 k2 : Tok} {n nr : Nat} {own news : List (Addr × Obj)} {ob : Obj} {kvs : List (Str × Value)} {vs : List Value}

theorem nam_text_of {k : Int} {tk : Tok} {s ds : Addr} {num : Int} {text : Str} {g1 g2 : Int} {q1 q2 tn tt : Tok} {nx : Nat} (hx : (x, instObj 178 dx) ∈ news) (hdx : (dx, namD t ti oa last lt K) ∈ news) (ht : (t, instObj 94 dt) ∈ news) (hdt : (dt, tabD rw bt h1 h2 k1 k2 n) ∈ news) (hr : (rw, listOf vs.toArray nr) ∈ news)
    (hk0 : 0 ≤ k) (hk1 : k < 2 ^ 63) (hv : vs[k.toNat]? = some (.ref s)) (hs : (s, instObj 31 ds) ∈ news) (hds : (ds, symD num text g1 g2 q1 q2 tn tt nx) ∈ news) :
    Ctr prog w p loose mean mg mb 140 [.ref x, .int k tk] 30 300 news (fun r news' => r = .str text tt ∧ news' = news) := by
  intro dp un gd cn csc a ccd cl outer A₀ base h₀ L m s Q E B F X N T hk hd hu hret
  refine wpAny_call ?_
  k_dflt ktr_enter
  k_steps
  exact hret _ _ _ _ ⟨rfl, rfl⟩ (by assumption) (by assumption)

theorem nam_text_of_k {k : Int} {tk : Tok} {s ds : Addr} {num : Int} {text : Str} {g1 g2 : Int} {q1 q2 tn tt : Tok} {nx : Nat} (hx : (x, instObj 178 dx) ∈ news) (hdx : (dx, namD t ti oa last lt K) ∈ news) (ht : (t, instObj 94 dt) ∈ news) (hdt : (dt, tabD rw bt h1 h2 k1 k2 n) ∈ news) (hr : (rw, listOf vs.toArray nr) ∈ news)
    (hk0 : 0 ≤ k) (hk1 : k < 2 ^ 63) (hv : vs[k.toNat]? = some (.ref s)) (hs : (s, instObj 31 ds) ∈ news) (hds : (ds, symD num text g1 g2 q1 q2 tn tt nx) ∈ news) :
    CtrK prog w p loose mean mg mb 140 [.ref x, .int k tk] 30 300 news (fun Sx => Sx (.str text tt) (news)) :=
  CtrK.of (nam_text_of hx hdx ht hdt hr hk0 hk1 hv hs hds) (by rintro Sx kx rx news1 ⟨e1, e2⟩; subst e1; subst e2; exact kx)
theorem nam_symbol_old {text : Str} {tk : Tok} {y : Addr} (hx : (x, instObj 178 dx) ∈ news) (hdx : (dx, namD t ti oa last lt K) ∈ news) (ht : (t, instObj 94 dt) ∈ news) (hdt : (dt, tabD rw bt h1 h2 k1 k2 n) ∈ news) (hb : (bt, ob) ∈ news) (hD : ob.IsDictOf (strKind prog w) kvs) (lo : (bt == sysModules) = false)
    (hy : valueAt kvs text = some (.ref y)) :
    Ctr prog w p loose mean mg mb 126 [.ref x, .str text tk] 30 300 news (fun r news' => r = .ref y ∧ news' = news) := by
  intro dp un gd cn csc a ccd cl outer A₀ base h₀ L m s Q E B F X N T hk hd hu hret
  refine wpAny_call ?_
  k_dflt ktr_enter
  k_steps
  exact hret _ _ _ _ ⟨rfl, rfl⟩ (by assumption) (by assumption)

theorem nam_symbol_new {text : Str} {tk : Tok} (hoff : OwnOff own [rw, bt]) (hne : @Ne Nat rw bt) (hx : (x, instObj 178 dx) ∈ own) (hdx : (dx, namD t ti oa last lt K) ∈ own) (ht : (t, instObj 94 dt) ∈ own) (hdt : (dt, tabD rw bt h1 h2 k1 k2 n) ∈ own) (hD : ob.IsDictOf (strKind prog w) kvs) (lo : (bt == sysModules) = false)
    (hl : vs.length ≤ 100000) (hlk : kvs.length ≤ sizeLine) (hy : valueAt kvs text = none) :
    Ctr prog w p loose mean mg mb 126 [.ref x, .str text tk] 30 300 ((rw, listOf vs.toArray nr) :: (bt, ob) :: own)
      (fun r news' => ∃ x dx nr' ob' g1 g2 q1 q2 tn tt nx, r = .ref x ∧ news' = (x, instObj 31 dx) :: (dx, symD vs.length text g1 g2 q1 q2 tn tt nx) :: (rw, listOf (vs ++ [Value.ref x]).toArray nr') :: (bt, ob') :: own ∧
        ob'.IsDictOf (strKind prog w) (stored kvs text (Value.ref x)) ∧ AllLt dx ((rw, listOf vs.toArray nr) :: (bt, ob) :: own) ∧ dx < x) := by
  intro dp un gd cn csc a ccd cl outer A₀ base h₀ L m s Q E B F X N T hk hd hu hret
  refine wpAny_call ?_
  k_dflt ktr_enter
  k_steps
  refine hret _ _ _ _ ?_ (by assumption) (by assumption)
  exact ⟨_, _, _, _, _, _, _, _, _, _, _, rfl, rfl, by assumption, by assumption, by assumption⟩

theorem nam_number_old {text : Str} {tk : Tok} {y dy : Addr} {num : Int} {g1 g2 : Int} {q1 q2 tn tt : Tok} {nx : Nat} (hx : (x, instObj 178 dx) ∈ news) (hdx : (dx, namD t ti oa last lt K) ∈ news) (ht : (t, instObj 94 dt) ∈ news) (hdt : (dt, tabD rw bt h1 h2 k1 k2 n) ∈ news) (hb : (bt, ob) ∈ news) (hD : ob.IsDictOf (strKind prog w) kvs) (lo : (bt == sysModules) = false)
    (hy : valueAt kvs text = some (.ref y)) (hyy : (y, instObj 31 dy) ∈ news) (hdy : (dy, symD num text g1 g2 q1 q2 tn tt nx) ∈ news) :
    Ctr prog w p loose mean mg mb 133 [.ref x, .str text tk] 30 300 news (fun r news' => r = .int num tn ∧ news' = news) := by
  intro dp un gd cn csc a ccd cl outer A₀ base h₀ L m s Q E B F X N T hk hd hu hret
  refine wpAny_call ?_
  k_dflt ktr_enter
  k_steps
  exact hret _ _ _ _ ⟨rfl, rfl⟩ (by assumption) (by assumption)

theorem nam_number_new {text : Str} {tk : Tok} (hoff : OwnOff own [rw, bt]) (hne : @Ne Nat rw bt) (hx : (x, instObj 178 dx) ∈ own) (hdx : (dx, namD t ti oa last lt K) ∈ own) (ht : (t, instObj 94 dt) ∈ own) (hdt : (dt, tabD rw bt h1 h2 k1 k2 n) ∈ own) (hD : ob.IsDictOf (strKind prog w) kvs) (lo : (bt == sysModules) = false)
    (hl : vs.length ≤ 100000) (hlk : kvs.length ≤ sizeLine) (hy : valueAt kvs text = none) :
    Ctr prog w p loose mean mg mb 133 [.ref x, .str text tk] 30 300 ((rw, listOf vs.toArray nr) :: (bt, ob) :: own)
      (fun r news' => ∃ x dx nr' ob' g1 g2 q1 q2 tn tt nx, r = .int vs.length tn ∧ news' = (x, instObj 31 dx) :: (dx, symD vs.length text g1 g2 q1 q2 tn tt nx) :: (rw, listOf (vs ++ [Value.ref x]).toArray nr') :: (bt, ob') :: own ∧
        ob'.IsDictOf (strKind prog w) (stored kvs text (Value.ref x)) ∧ AllLt dx ((rw, listOf vs.toArray nr) :: (bt, ob) :: own) ∧ dx < x) := by
  intro dp un gd cn csc a ccd cl outer A₀ base h₀ L m s Q E B F X N T hk hd hu hret
  refine wpAny_call ?_
  k_dflt ktr_enter
  k_steps
  refine hret _ _ _ _ ?_ (by assumption) (by assumption)
  exact ⟨_, _, _, _, _, _, _, _, _, _, _, rfl, rfl, by assumption, by assumption, by assumption⟩

theorem nam_fresh {tk : Tok} (hoff : OwnOff own [dx]) (hx : (x, instObj 178 dx) ∈ own) :
    Ctr prog w p loose mean mg mb 119 [.ref x] 30 300 ((dx, namD t ti oa last lt K) :: own) (fun r news' => ∃ tr lt' K', r = .int (last + 1) tr ∧ news' = (dx, namD t ti oa (last + 1) lt' K') :: own) := by
  intro dp un gd cn csc a ccd cl outer A₀ base h₀ L m s Q E B F X N T hk hd hu hret
  refine wpAny_call ?_
  k_dflt ktr_enter
  k_steps
  refine hret _ _ _ _ ?_ (by assumption) (by assumption)
  exact ⟨_, _, ⟨_, _, _, _, _, _, _, _, _, _, _⟩, rfl, rfl⟩

theorem nam_fold {v1 v2 : Value} (hx : (x, instObj 178 dx) ∈ news) :
    Ctr prog w p loose mean mg mb 175 [.ref x, v1, v2] 30 300 news (fun r news' => r = .none ∧ news' = news) := by
  intro dp un gd cn csc a ccd cl outer A₀ base h₀ L m s Q E B F X N T hk hd hu hret
  refine wpAny_call ?_
  k_dflt ktr_enter
  k_steps
  exact hret _ _ _ _ ⟨rfl, rfl⟩ (by assumption) (by assumption)

theorem nam_fold_k {v1 v2 : Value} (hx : (x, instObj 178 dx) ∈ news) :
    CtrK prog w p loose mean mg mb 175 [.ref x, v1, v2] 30 300 news (fun Sx => Sx (.none) (news)) :=
  CtrK.of (nam_fold hx) (by rintro Sx kx rx news1 ⟨e1, e2⟩; subst e1; subst e2; exact kx)
theorem nam_op_at {k : Int} {tk : Tok} {oo : Obj} {os : List (Int × Value)} (hx : (x, instObj 178 dx) ∈ news) (hdx : (dx, namD t ti oa last lt K) ∈ news) (ho : (oa, oo) ∈ news) (hD : oo.IsDictOf (intKind prog w) os) (lo : (oa == sysModules) = false) :
    Ctr prog w p loose mean mg mb 168 [.ref x, .int k tk] 30 300 news (fun r news' => (∃ tr, r = (valueAt os k).getD (.int (-1) tr)) ∧ news' = news) := by
  intro dp un gd cn csc a ccd cl outer A₀ base h₀ L m s Q E B F X N T hk hd hu hret
  refine wpAny_call ?_
  k_dflt ktr_enter
  k_steps
  exact hret _ _ _ _ ⟨⟨_, rfl⟩, rfl⟩ (by assumption) (by assumption)

theorem nam_title_of {k : Int} {tk : Tok} {oo : Obj} {os : List (Int × Value)} (hx : (x, instObj 178 dx) ∈ news) (hdx : (dx, namD t ti oa last lt K) ∈ news) (ho : (ti, oo) ∈ news) (hD : oo.IsDictOf (intKind prog w) os) (lo : (ti == sysModules) = false) :
    Ctr prog w p loose mean mg mb 154 [.ref x, .int k tk] 30 300 news (fun r news' => (∃ tr, r = (valueAt os k).getD (.str (Str.ofString "") tr)) ∧ news' = news) := by
  intro dp un gd cn csc a ccd cl outer A₀ base h₀ L m s Q E B F X N T hk hd hu hret
  refine wpAny_call ?_
  k_dflt ktr_enter
  k_steps
  exact hret _ _ _ _ ⟨⟨_, rfl⟩, rfl⟩ (by assumption) (by assumption)

theorem nam_set_title0 {k : Int} {text : Str} {tk tk2 : Tok} {oo : Obj} {os : List (Int × Value)} (hoff : OwnOff own [ti]) (hx : (x, instObj 178 dx) ∈ own) (hdx : (dx, namD t ti oa last lt K) ∈ own) (hD : oo.IsDictOf (intKind prog w) os) (lo : (ti == sysModules) = false)
    (hl : os.length ≤ sizeLine) (hy : valueAt os k = none) :
    Ctr prog w p loose mean mg mb 147 [.ref x, .int k tk, .str text tk2] 30 300 ((ti, oo) :: own) (fun r news' => ∃ oo', r = .none ∧ news' = (ti, oo') :: own ∧ oo'.IsDictOf (intKind prog w) (stored os k (.str text tk2))) := by
  intro dp un gd cn csc a ccd cl outer A₀ base h₀ L m s Q E B F X N T hk hd hu hret
  refine wpAny_call ?_
  k_dflt ktr_enter
  k_steps
  refine hret _ _ _ _ ?_ (by assumption) (by assumption)
  exact ⟨_, rfl, rfl, by assumption⟩

theorem nam_set_title1 {k : Int} {text : Str} {tk tk2 : Tok} {oo : Obj} {os : List (Int × Value)} {v : Value} (hx : (x, instObj 178 dx) ∈ news) (hdx : (dx, namD t ti oa last lt K) ∈ news) (ho : (ti, oo) ∈ news) (hD : oo.IsDictOf (intKind prog w) os) (lo : (ti == sysModules) = false)
    (hy : valueAt os k = some v) :
    Ctr prog w p loose mean mg mb 147 [.ref x, .int k tk, .str text tk2] 30 300 news (fun r news' => r = .none ∧ news' = news) := by
  intro dp un gd cn csc a ccd cl outer A₀ base h₀ L m s Q E B F X N T hk hd hu hret
  refine wpAny_call ?_
  k_dflt ktr_enter
  k_steps
  exact hret _ _ _ _ ⟨rfl, rfl⟩ (by assumption) (by assumption)
end

-- the walk's own switch and caches as in a file of its own
theorem switch_6 : True := by
  w_top off
  exact trivial
section
variable {K β : Type} [DecidableEq K]
inductive PairsAre (R : Value → β → Prop) : List (K × Value) → List (K × β) → Prop
  | nil : PairsAre R [] []
  | cons {k : K} {v : Value} {b : β} {l : List (K × Value)} {l' : List (K × β)} : R v b → PairsAre R l l' → PairsAre R ((k, v) :: l) ((k, b) :: l')
def getP (ts : List (K × β)) (k : K) : Option β := (ts.find? fun q => q.1 = k).map (·.2)
def putP (ts : List (K × β)) (k : K) (b : β) : List (K × β) := if ts.any (fun q => q.1 = k) then ts.map (fun q => if q.1 = k then (q.1, b) else q) else ts ++ [(k, b)]
variable {R R' : Value → β → Prop} {l : List (K × Value)} {l' : List (K × β)}
theorem PairsAre.length (h : PairsAre R l l') : l.length = l'.length := by
  induction h with
  | nil => rfl
  | cons _ _ ih => simp [ih]
theorem PairsAre.mono (h : PairsAre R l l') (hR : ∀ v b, R v b → R' v b) : PairsAre R' l l' := by
  induction h with
  | nil => exact .nil
  | cons h1 _ ih => exact .cons (hR _ _ h1) ih
theorem PairsAre.none_of (h : PairsAre R l l') {k : K} (e : getP l' k = none) : valueAt l k = none := by
  induction h with
  | nil => rfl
  | @cons k' v b l l' _ _ ih =>
    by_cases hk : k' = k
    · simp [getP, hk] at e
    · simp only [getP, valueAt, List.find?_cons, hk, decide_false] at e ih ⊢
      exact ih e
theorem PairsAre.some_of (h : PairsAre R l l') {k : K} {b : β} (e : getP l' k = some b) : ∃ v, valueAt l k = some v ∧ R v b := by
  induction h with
  | nil => cases e
  | @cons k' v b' l l' hR _ ih =>
    by_cases hk : k' = k
    · simp only [getP, List.find?_cons, hk, decide_true, Option.map_some, Option.some.injEq] at e
      subst e
      exact ⟨v, by simp [valueAt, hk], hR⟩
    · simp only [getP, valueAt, List.find?_cons, hk, decide_false] at e ih ⊢
      exact ih e
theorem PairsAre.append {r : List (K × Value)} {r' : List (K × β)} (h : PairsAre R l l') (h' : PairsAre R r r') : PairsAre R (l ++ r) (l' ++ r') := by
  induction h with
  | nil => exact h'
  | cons h1 _ ih => exact .cons h1 ih
theorem PairsAre.any (h : PairsAre R l l') (k : K) : (l.any fun q => q.1 = k) = (l'.any fun q => q.1 = k) := by
  induction h with
  | nil => rfl
  | cons _ _ ih => simp only [List.any_cons, ih]
theorem PairsAre.mapped (h : PairsAre R l l') {k : K} {v : Value} {b : β} (hR : R v b) : PairsAre R (l.map (fun q => if q.1 = k then (q.1, v) else q)) (l'.map (fun q => if q.1 = k then (q.1, b) else q)) := by
  induction h with
  | nil => exact .nil
  | @cons k' v' b' l l' h1 _ ih =>
    by_cases hk : k' = k
    · simp only [List.map_cons, hk, if_true]; exact .cons hR ih
    · simp only [List.map_cons, hk, if_false]; exact .cons h1 ih
theorem PairsAre.stored (h : PairsAre R l l') {k : K} {v : Value} {b : β} (hR : R v b) : PairsAre R (stored l k v) (putP l' k b) := by
  unfold PySem.stored putP
  rw [h.any k]
  split
  · exact h.mapped hR
  · exact h.append (.cons hR .nil)
theorem putP_length (ts : List (K × β)) (k : K) (b : β) : (putP ts k b).length ≤ ts.length + 1 := by
  unfold putP
  split <;> simp
theorem getP_append (ts : List (K × β)) (k k' : K) (b : β) : getP (ts ++ [(k, b)]) k' = (getP ts k').or (if k = k' then some b else none) := by
  unfold getP
  rw [List.find?_append]
  cases h : ts.find? (fun q => q.1 = k') with
  | some q => simp
  | none =>
    by_cases hk : k = k'
    · simp [hk]
    · simp [hk]
theorem stored_new {kvs : List (K × Value)} {k : K} {v : Value} (h : valueAt kvs k = none) : stored kvs k v = kvs ++ [(k, v)] := by
  unfold PySem.stored
  rw [if_neg]
  intro ha
  obtain ⟨q, hq, hk⟩ := List.any_eq_true.mp ha
  have : (kvs.find? fun kv => kv.1 = k).isSome := by
    rw [List.find?_isSome]
    exact ⟨q, hq, hk⟩
  unfold valueAt at h
  rw [Option.map_eq_none_iff] at h
  rw [h] at this
  cases this
end

theorem valueAt_stored {kvs : List (Str × Value)} {k : Str} {v : Value} (h : valueAt kvs k = none) : valueAt (stored kvs k v) k = some v := by
  rw [stored_new h]
  unfold valueAt at h ⊢
  rw [Option.map_eq_none_iff] at h
  rw [List.find?_append, h]
  simp
/-- the names of one table: the texts of all symbols, by number; the texts that lead to one -/
structure TS where
  rows : List Str
  known : List (Str × Nat)
def TS.num (T : TS) (x : Str) : Option Nat := getP T.known x
def TS.intern (T : TS) (x : Str) : TS := match T.num x with
  | some _ => T
  | none => ⟨T.rows ++ [x], T.known ++ [(x, T.rows.length)]⟩
def TS.numD (T : TS) (x : Str) : Nat := (T.num x).getD T.rows.length
def TS.fresh (T : TS) (x : Str) : TS := ⟨T.rows ++ [x], T.known⟩
def TS.Ok (T : TS) : Prop := (∀ x n, T.num x = some n → T.rows[n]? = some x) ∧ T.known.length ≤ T.rows.length ∧ ∀ y ∈ T.rows, PyData.strOk y = true
theorem TS.num_intern (T : TS) (x : Str) : (T.intern x).num x = some (T.numD x) := by
  unfold TS.intern TS.numD
  cases h : T.num x with
  | some n => simp [h]
  | none =>
    simp only [TS.num] at h ⊢
    rw [getP_append, h]
    simp
theorem TS.intern_some {T : TS} {x : Str} {n : Nat} (h : T.num x = some n) : T.intern x = T := by unfold TS.intern; rw [h]
theorem TS.intern_none {T : TS} {x : Str} (h : T.num x = none) : T.intern x = ⟨T.rows ++ [x], T.known ++ [(x, T.rows.length)]⟩ := by unfold TS.intern; rw [h]
theorem TS.Ok.empty : TS.Ok ⟨[], []⟩ := ⟨(fun _ _ h => nomatch h), Nat.le_refl _, fun _ h => nomatch h⟩
theorem TS.Ok.fresh {T : TS} (h : T.Ok) (x : Str) (hx : PyData.strOk x = true) : (T.fresh x).Ok := by
  refine ⟨?_, by have := h.2.1; simp only [TS.fresh, List.length_append, List.length_cons, List.length_nil]; omega, fun y hy => (List.mem_append.mp hy).elim (h.2.2 y) fun q => by rw [List.mem_singleton.mp q]; exact hx⟩
  intro y n e
  have h1 := h.1 y n e
  have h2 : n < T.rows.length := by
    rcases Nat.lt_or_ge n T.rows.length with q | q
    · exact q
    · rw [List.getElem?_eq_none q] at h1; cases h1
  show (T.rows ++ [x])[n]? = some y
  rw [List.getElem?_append_left h2]; exact h1
theorem TS.Ok.intern {T : TS} (h : T.Ok) (x : Str) (hok : PyData.strOk x = true) : (T.intern x).Ok := by
  cases hx : T.num x with
  | some n => rw [TS.intern_some hx]; exact h
  | none =>
    rw [TS.intern_none hx]
    refine ⟨?_, by have := h.2.1; simp only [List.length_append, List.length_cons, List.length_nil]; omega, (h.fresh x hok).2.2⟩
    intro y n e
    simp only [TS.num] at e hx
    rw [getP_append] at e
    cases hy : getP T.known y with
    | some k =>
      rw [hy] at e
      simp only [Option.some_or, Option.some.injEq] at e
      subst e
      exact (h.fresh x hok).1 y k hy
    | none =>
      rw [hy] at e
      by_cases hxy : x = y
      · subst hxy
        simp only [if_true, Option.none_or, Option.some.injEq] at e
        subst e
        simp
      · simp [hxy] at e
theorem TS.Ok.row {T : TS} (h : T.Ok) {x : Str} : (T.intern x).rows[T.numD x]? = some x := by
  unfold TS.numD
  cases hx : T.num x with
  | some n => rw [TS.intern_some hx]; exact h.1 x n hx
  | none => rw [TS.intern_none hx]; simp
theorem TS.Ok.rowI {T : TS} (h : T.Ok) {x : Str} : (T.intern x).rows[(T.numD x : Int).toNat]? = some x := by simpa using h.row
theorem TS.intern_intern (T : TS) (x : Str) : (T.intern x).intern x = T.intern x := TS.intern_some (T.num_intern x)
theorem TS.numD_intern (T : TS) (x : Str) : (T.intern x).numD x = T.numD x := by
  have h := T.num_intern x
  show ((T.intern x).num x).getD _ = _
  rw [h]; rfl
theorem TS.intern_len (T : TS) (x : Str) : (T.intern x).rows.length ≤ T.rows.length + 1 := by
  cases hx : T.num x with
  | some n => rw [TS.intern_some hx]; omega
  | none => rw [TS.intern_none hx]; simp
theorem TS.len_intern (T : TS) (x : Str) : T.rows.length ≤ (T.intern x).rows.length := by
  cases hx : T.num x with
  | some n => rw [TS.intern_some hx]; omega
  | none => rw [TS.intern_none hx]; simp
theorem strOk_append {x y : Str} (hx : PyData.strOk x = true) (hy : PyData.strOk y = true) : PyData.strOk (x ++ y) = true := by
  unfold PyData.strOk at *
  rw [Str.cps_append, Array.all_append, hx, hy]; rfl
theorem strOk_ofString (x : String) : PyData.strOk (Str.ofString x) = true := by
  unfold PyData.strOk
  rw [Str.ofString_eq_toList, ← Array.all_toList]
  refine List.all_eq_true.mpr fun c hc => ?_
  obtain ⟨d, _, rfl⟩ := List.mem_map.mp hc
  have := d.valid
  simp only [UInt32.isValidChar, Nat.isValidChar] at this
  refine decide_eq_true ?_
  show d.val.toNat < 1114112
  omega

/-- the symbol x of number n and text y stands in the ledger -/
def SymAt (L : List (Addr × Obj)) (x : Addr) (n : Nat) (y : Str) : Prop :=
  ∃ dx g1 g2 q1 q2 tn tt nx, (x, instObj 31 dx) ∈ L ∧ (dx, symD (n : Int) y g1 g2 q1 q2 tn tt nx) ∈ L
theorem SymAt.mono {L L' : List (Addr × Obj)} {x : Addr} {n : Nat} {y : Str} (h : SymAt L x n y) (hs : ∀ q ∈ L, q ∈ L') : SymAt L' x n y := by
  obtain ⟨dx, g1, g2, q1, q2, tn, tt, nx, h1, h2⟩ := h
  exact ⟨dx, g1, g2, q1, q2, tn, tt, nx, hs _ h1, hs _ h2⟩
theorem SymAt.number {h₀ h : Heap} {A : Addr} {L : List (Addr × Obj)} {x : Addr} {n k : Nat} {y z : Str} (N : News h₀ A h L) (h1 : SymAt L x n y) (h2 : SymAt L x k z) : n = k := by
  obtain ⟨dx, g1, g2, q1, q2, tn, tt, nx, a1, a2⟩ := h1
  obtain ⟨dx', g1', g2', q1', q2', tn', tt', nx', b1, b2⟩ := h2
  have e1 := (N _ a1).1
  rw [(N _ b1).1] at e1
  have e2 : dx' = dx := by
    have := congrArg Obj.dict (Option.some.inj e1)
    exact Option.some.inj this
  subst e2
  have e3 := (N _ a2).1
  rw [(N _ b2).1] at e3
  have e4 := congrArg Obj.data (Option.some.inj e3)
  simp only [symD, dictOf] at e4
  simp at e4
  omega

def ImpRel (T : TS) (vs : List Value) (kvs : List (Str × Value)) (L : List (Addr × Obj)) : Prop :=
  vs.length = T.rows.length ∧ PairsAre (fun (v : Value) (n : Nat) => vs[n]? = some v) kvs T.known ∧ ∀ n y, T.rows[n]? = some y → ∃ x, vs[n]? = some (.ref x) ∧ SymAt L x n y
def ModRel (T : TS) (mvs : List Value) (kvm : List (Str × Value)) : Prop :=
  StrsAre mvs T.rows ∧ PairsAre (fun (v : Value) (n : Nat) => ∃ t, v = .int (n : Int) t) kvm T.known
theorem strs_get {vs : List Value} {ys : List Str} (h : StrsAre vs ys) : ∀ {n : Nat} {y : Str}, ys[n]? = some y → ∃ t, vs[n]? = some (.str y t) := by
  induction h with
  | nil => intro n y e; simp at e
  | cons z t _ ih =>
    intro n y e
    cases n with
    | zero => simp at e; subst e; exact ⟨t, by simp⟩
    | succ n => simpa using ih (by simpa using e)
theorem strs_len {vs : List Value} {ys : List Str} (h : StrsAre vs ys) : vs.length = ys.length := by
  induction h with
  | nil => rfl
  | cons z t _ ih => simp [ih]
theorem strs_snoc {vs : List Value} {ys : List Str} (h : StrsAre vs ys) (y : Str) (t : Tok) : StrsAre (vs ++ [Value.str y t]) (ys ++ [y]) := by
  induction h with
  | nil => exact .cons y t .nil
  | cons z t' _ ih => exact .cons z t' ih
theorem ImpRel.mono {T : TS} {vs : List Value} {kvs : List (Str × Value)} {L L' : List (Addr × Obj)} (h : ImpRel T vs kvs L) (hs : ∀ q ∈ L, q ∈ L') : ImpRel T vs kvs L' := by
  refine ⟨h.1, h.2.1, fun n y e => ?_⟩
  obtain ⟨x, h1, h2⟩ := h.2.2 n y e
  exact ⟨x, h1, h2.mono hs⟩
theorem ImpRel.fresh {T : TS} {vs : List Value} {kvs : List (Str × Value)} {L L' : List (Addr × Obj)} {x : Addr} {y : Str} (h : ImpRel T vs kvs L) (hs : ∀ q ∈ L, q ∈ L') (hx : SymAt L' x T.rows.length y) : ImpRel (T.fresh y) (vs ++ [Value.ref x]) kvs L' := by
  have hl : ∀ {n : Nat} {v : Value}, vs[n]? = some v → (vs ++ [Value.ref x])[n]? = some v := by
    intro n v e
    have h2 : n < vs.length := by
      rcases Nat.lt_or_ge n vs.length with q | q
      · exact q
      · rw [List.getElem?_eq_none q] at e; cases e
    rw [List.getElem?_append_left h2]; exact e
  refine ⟨by simp [TS.fresh, h.1], h.2.1.mono fun v b e => hl e, fun n z e => ?_⟩
  rcases Nat.lt_or_ge n T.rows.length with q | q
  · obtain ⟨x', h1, h2⟩ := h.2.2 n z (by simpa [TS.fresh, List.getElem?_append_left q] using e)
    exact ⟨x', hl h1, h2.mono hs⟩
  · have e' : (T.rows ++ [y])[n]? = some z := e
    rw [List.getElem?_append_right q] at e'
    have hn : n - T.rows.length = 0 := by
      rcases Nat.eq_zero_or_pos (n - T.rows.length) with p | p
      · exact p
      · rw [List.getElem?_eq_none (by simp; omega)] at e'; cases e'
    rw [hn] at e'
    simp at e'
    have hn' : n = T.rows.length := by omega
    subst hn'
    subst e'
    refine ⟨x, ?_, hx⟩
    rw [← h.1]; simp
theorem ImpRel.intern {T : TS} {vs : List Value} {kvs : List (Str × Value)} {L L' : List (Addr × Obj)} {x : Addr} {y : Str} (h : ImpRel T vs kvs L) (hy : T.num y = none) (hs : ∀ q ∈ L, q ∈ L') (hx : SymAt L' x T.rows.length y) :
    ImpRel (T.intern y) (vs ++ [Value.ref x]) (stored kvs y (Value.ref x)) L' := by
  have h1 := h.fresh hs hx
  rw [TS.intern_none hy]
  refine ⟨h1.1, ?_, h1.2.2⟩
  rw [stored_new (h.2.1.none_of hy)]
  refine h1.2.1.append (.cons ?_ .nil)
  show (vs ++ [Value.ref x])[T.rows.length]? = _
  rw [← h.1]; simp
theorem ModRel.fresh {T : TS} {mvs : List Value} {kvm : List (Str × Value)} (h : ModRel T mvs kvm) (y : Str) (t : Tok) : ModRel (T.fresh y) (mvs ++ [Value.str y t]) kvm := ⟨strs_snoc h.1 y t, h.2⟩
theorem ModRel.intern {T : TS} {mvs : List Value} {kvm : List (Str × Value)} (h : ModRel T mvs kvm) {y : Str} (hy : T.num y = none) (t t' : Tok) : ModRel (T.intern y) (mvs ++ [Value.str y t]) (stored kvm y (Value.int T.rows.length t')) := by
  rw [TS.intern_none hy, stored_new (h.2.none_of hy)]
  exact ⟨strs_snoc h.1 y t, h.2.append (.cons ⟨t', rfl⟩ .nil)⟩

-- the walk's own switch and caches as in a file of its own
theorem switch_7 : True := by
  w_top off
  exact trivial
abbrev modK (Mr Mk Mt Mo : Addr) (last : Int) (tl : Tok) : List (Str × Value) := [(Str.ofString "rows", .ref Mr), (Str.ofString "known", .ref Mk), (Str.ofString "last", .int last tl), (Str.ofString "titles", .ref Mt), (Str.ofString "ops", .ref Mo)]
--LINES
local macro_rules | `(tactic| ktr_rel) => `(tactic| (exfalso; first | contradiction | (rename ((_ != _) = true) => hb9; (simp at hb9; done)) | (rename ((_ != _) = true) => hb9; (simp at hb9); omega) | omega))
example : True := by
  k_with "call ref" => (k_here; (with_reducible show wpAny _ _ (call (Value.ref 140) _) _ _ _); k_dflt (refine' ctrk_use (nam_text_of_k ?c1 ?c2 ?c3 ?c4 ?c5 ?c6 ?c7 ?c8 ?c9 ?c10) ?B ?F ?X ?nN ?T ?kk ?dd ?uu ?_; (case nN => k_asm); (case c1 => k_mem); (case c2 => k_mem); (case c3 => k_mem); (case c4 => k_mem); (case c5 => k_mem); (case c6 => assumption); (case c7 => assumption); (case c8 => assumption); (case c9 => k_mem); (case c10 => k_mem); (case B => k_asm); (case F => k_asm); (case X => k_asm); (case T => k_asm); (case kk => first | assumption | exact rfl); (case dd => ktr_room); (case uu => ktr_units)); (try dsimp only); intro  h9 tk9 F9 N9; (try k_sweep); (try dsimp only))
  k_with "call ref" => (k_here; (with_reducible show wpAny _ _ (call (Value.ref 84) _) _ _ _); k_dflt (refine' ctrk_use (tab_is_interned0_k ?c1 ?c2 ?c3 ?c4 ?c5 ?c6 ?c7 ?c8) ?B ?F ?X ?nN ?T ?kk ?dd ?uu ?_; (case nN => k_asm); (case c1 => k_mem); (case c2 => k_mem); (case c3 => k_mem); (case c4 => k_asm); (case c5 => k_asm); (case c6 => k_mem); (case c7 => k_mem); (case c8 => assumption); (case B => k_asm); (case F => k_asm); (case X => k_asm); (case T => k_asm); (case kk => first | assumption | exact rfl); (case dd => ktr_room); (case uu => ktr_units)); (try dsimp only); intro  h9 tk9 F9 N9; (try k_sweep); (try dsimp only))
  k_with "call ref" => (k_here; (with_reducible show wpAny _ _ (call (Value.ref 84) _) _ _ _); k_dflt (refine' ctrk_use (tab_is_interned1_k ?c1 ?c2 ?c3 ?c4 ?c5 ?c6 ?c7 ?c8 ?c9) ?B ?F ?X ?nN ?T ?kk ?dd ?uu ?_; (case nN => k_asm); (case c1 => k_mem); (case c2 => k_mem); (case c3 => k_mem); (case c4 => k_asm); (case c5 => k_asm); (case c6 => k_mem); (case c7 => k_mem); (case c9 => assumption); (case c8 => k_mem); (case B => k_asm); (case F => k_asm); (case X => k_asm); (case T => k_asm); (case kk => first | assumption | exact rfl); (case dd => ktr_room); (case uu => ktr_units)); (try dsimp only); intro  h9 tk9 F9 N9; (try k_sweep); (try dsimp only))
  k_with "subscriptTail" => (k_here; (with_reducible show wpAny _ _ (subscriptTail _ _ (Value.ref _) (Value.str _ _)) _ _ _); k_dflt (refine kda_item (knd := PySem.strKind _ _) (by k_asm) (by k_mem) (by k_asm) (strKind_is _ _ _ _) (by first | assumption | exact rfl | exact valueAt_stored (by assumption)) ?_))
  exact trivial
--END
section
variable {prog : Program} {w : World} {p : Program} {loose : List Str} {mean : ExcName → Option Value} {mg mb : Str → Option Value}
  {x dx ti oa : Addr} {last : Int} {lt : Tok} {K : Ks}
  {t dt rw bt : Addr} {h1 h2 : Int} {k1 k2 : Tok} {n nr : Nat} {own news : List (Addr × Obj)} {ob : Obj} {kvs : List (Str × Value)} {vs : List Value}
  {M Mr Mk Mt Mo : Addr} {oM ok : Obj} {lastM : Int} {tlM : Tok} {mvs : List Value} {nm : Nat} {kvm : List (Str × Value)}

theorem issym_none {k : Int} {tk ty : Tok} {s ds : Addr} {y : Str} {g1 g2 : Int} {q1 q2 tn tt : Tok} {nx : Nat}
    (hx : (x, instObj 178 dx) ∈ news) (hdx : (dx, namD t ti oa last lt K) ∈ news) (ht : (t, instObj 94 dt) ∈ news) (hdt : (dt, tabD rw bt h1 h2 k1 k2 n) ∈ news) (hr : (rw, listOf vs.toArray nr) ∈ news) (hb : (bt, ob) ∈ news) (hD : ob.IsDictOf (strKind prog w) kvs) (lo : (bt == sysModules) = false)
    (hM : (M, oM) ∈ news) (hMD : oM.IsDictOf (strKind prog w) (modK Mr Mk Mt Mo lastM tlM)) (hMr : (Mr, listOf mvs.toArray nm) ∈ news) (hMk : (Mk, ok) ∈ news) (hKD : ok.IsDictOf (strKind prog w) kvm) (loK : (Mk == sysModules) = false)
    (hk0 : 0 ≤ k) (hk1 : k < 2 ^ 63) (hv : vs[k.toNat]? = some (.ref s)) (hmv : mvs[k.toNat]? = some (.str y ty)) (hs : (s, instObj 31 ds) ∈ news) (hds : (ds, symD k y g1 g2 q1 q2 tn tt nx) ∈ news)
    (hy : valueAt kvs y = none) (hyk : valueAt kvm y = none) :
    Ctr prog w p loose mean mg mb 216 [.ref x, .ref M, .ref s, .int k tk] 50 500 news (fun r news' => r = .bool true ∧ news' = news) := by
  intro dp un gd cn csc a ccd cl outer A₀ base h₀ L m s Q E B F X N T hk hd hu hret
  refine wpAny_call ?_
  k_dflt ktr_enter
  k_steps
  all_goals first | ktr_rel | skip
  exact hret _ _ _ _ ⟨rfl, rfl⟩ (by assumption) (by assumption)

theorem issym_some {k nz : Int} {tk ty tz : Tok} {s ds z dz : Addr} {y : Str} {g1 g2 : Int} {q1 q2 tn tt : Tok} {nx : Nat} {g1' g2' : Int} {q1' q2' tn' tt' : Tok} {nx' : Nat}
    (hx : (x, instObj 178 dx) ∈ news) (hdx : (dx, namD t ti oa last lt K) ∈ news) (ht : (t, instObj 94 dt) ∈ news) (hdt : (dt, tabD rw bt h1 h2 k1 k2 n) ∈ news) (hr : (rw, listOf vs.toArray nr) ∈ news) (hb : (bt, ob) ∈ news) (hD : ob.IsDictOf (strKind prog w) kvs) (lo : (bt == sysModules) = false)
    (hM : (M, oM) ∈ news) (hMD : oM.IsDictOf (strKind prog w) (modK Mr Mk Mt Mo lastM tlM)) (hMr : (Mr, listOf mvs.toArray nm) ∈ news) (hMk : (Mk, ok) ∈ news) (hKD : ok.IsDictOf (strKind prog w) kvm) (loK : (Mk == sysModules) = false)
    (hk0 : 0 ≤ k) (hk1 : k < 2 ^ 63) (hv : vs[k.toNat]? = some (.ref s)) (hmv : mvs[k.toNat]? = some (.str y ty)) (hs : (s, instObj 31 ds) ∈ news) (hds : (ds, symD k y g1 g2 q1 q2 tn tt nx) ∈ news)
    (hy : valueAt kvs y = some (.ref z)) (hyk : valueAt kvm y = some (.int nz tz)) (hz : (z, instObj 31 dz) ∈ news) (hdz : (dz, symD nz y g1' g2' q1' q2' tn' tt' nx') ∈ news) (hzk : z = s ↔ nz = k) :
    Ctr prog w p loose mean mg mb 216 [.ref x, .ref M, .ref s, .int k tk] 50 500 news (fun r news' => r = .bool true ∧ news' = news) := by
  intro dp un gd cn csc a ccd cl outer A₀ base h₀ L m s Q E B F X N T hk hd hu hret
  refine wpAny_call ?_
  k_dflt ktr_enter
  k_steps
  all_goals first | ktr_rel | (exfalso; rename ((_ != _) = true) => hb9; by_cases e9 : nz = k <;> simp [hzk, e9] at hb9; done) | skip
  rw [beq_self_eq_true]
  exact hret _ _ _ _ ⟨rfl, rfl⟩ (by assumption) (by assumption)

theorem Ctr.withNews {f : Addr} {as : List Value} {d u : Nat} {R : Value → List (Addr × Obj) → Prop} (h : ∀ h₀ L h, News h₀ L h news → Ctr prog w p loose mean mg mb f as d u news R) : Ctr prog w p loose mean mg mb f as d u news R := by
  intro dp un gd cn csc a ccd cl outer A₀ base h₀ L m s Q E B F X N T hk hd hu hret
  exact h _ _ _ N _ _ _ _ _ _ _ _ _ _ _ _ _ _ _ _ _ B F X N T hk hd hu hret

theorem issym {T : TS} {j : Nat} {y : Str} {tk : Tok} {s : Addr} {L : List (Addr × Obj)}
    (hx : (x, instObj 178 dx) ∈ news) (hdx : (dx, namD t ti oa last lt K) ∈ news) (ht : (t, instObj 94 dt) ∈ news) (hdt : (dt, tabD rw bt h1 h2 k1 k2 n) ∈ news) (hr : (rw, listOf vs.toArray nr) ∈ news) (hb : (bt, ob) ∈ news) (hD : ob.IsDictOf (strKind prog w) kvs) (lo : (bt == sysModules) = false)
    (hM : (M, oM) ∈ news) (hMD : oM.IsDictOf (strKind prog w) (modK Mr Mk Mt Mo lastM tlM)) (hMr : (Mr, listOf mvs.toArray nm) ∈ news) (hMk : (Mk, ok) ∈ news) (hKD : ok.IsDictOf (strKind prog w) kvm) (loK : (Mk == sysModules) = false)
    (hT : T.Ok) (hlen : T.rows.length ≤ 100000) (hI : ImpRel T vs kvs L) (hL : ∀ q ∈ L, q ∈ news) (hMo : ModRel T mvs kvm) (hj : T.rows[j]? = some y) (hv : vs[j]? = some (.ref s)) :
    Ctr prog w p loose mean mg mb 216 [.ref x, .ref M, .ref s, .int (j : Int) tk] 50 500 news (fun r news' => r = .bool true ∧ news' = news) := by
  refine Ctr.withNews fun h₀ A h N => ?_
  have hI' := hI.mono hL
  obtain ⟨s', hs1, hs2⟩ := hI'.2.2 j y hj
  rw [hv] at hs1
  obtain rfl : s = s' := Value.ref.inj (Option.some.inj hs1)
  have hjl : j < T.rows.length := by
    rcases Nat.lt_or_ge j T.rows.length with q | q
    · exact q
    · rw [List.getElem?_eq_none q] at hj; cases hj
  obtain ⟨ty, hmv⟩ := strs_get hMo.1 hj
  have hv' : vs[(j : Int).toNat]? = some (.ref s) := by simpa using hv
  have hmv' : mvs[(j : Int).toNat]? = some (.str y ty) := by simpa using hmv
  obtain ⟨ds, g1, g2, q1, q2, tn, tt, nx, hsi, hds⟩ := id hs2
  cases hy : T.num y with
  | none => exact issym_none hx hdx ht hdt hr hb hD lo hM hMD hMr hMk hKD loK (by omega) (by omega) hv' hmv' hsi hds (hI'.2.1.none_of hy) (hMo.2.none_of hy)
  | some nz =>
    obtain ⟨z, hz1, hz2⟩ := hI'.2.1.some_of hy
    obtain ⟨zz, hz3, hz4⟩ := hI'.2.2 nz y (hT.1 y nz hy)
    rw [hz2] at hz3
    obtain rfl : z = .ref zz := Option.some.inj hz3
    obtain ⟨vm, hm1, tz, rfl⟩ := hMo.2.some_of hy
    obtain ⟨dz, g1', g2', q1', q2', tn', tt', nx', hzi, hdz⟩ := id hz4
    have hzk : zz = s ↔ (nz : Int) = (j : Int) := by
      constructor
      · rintro rfl
        have := hz4.number N hs2
        omega
      · intro e
        have e' : nz = j := by omega
        subst e'
        rw [hz2] at hv
        exact Value.ref.inj (Option.some.inj hv)
    exact issym_some hx hdx ht hdt hr hb hD lo hM hMD hMr hMk hKD loK (by omega) (by omega) hv' hmv' hsi hds hz1 hm1 hzi hdz hzk
end

-- the walk's own switch and caches as in a file of its own
theorem switch_8 : True := by
  w_top off
  exact trivial
--LINES
example : True := by
  k_with "subscriptTail" => (k_here; (fail_if_success (with_reducible show wpAny _ _ (subscriptTail (PySem.Expr.Name _ _) _ _ _) _ _ _)); (with_reducible show wpAny _ _ (subscriptTail _ _ (Value.ref _) (Value.str _ _)) _ _ _); k_dflt (refine kdt_tail (knd := PySem.strKind _ _) (by k_asm) (by k_mem) (by k_asm) ?_))
  k_with "getItem ref str" => (k_here; k_dflt (refine kdt_getItem (knd := PySem.strKind _ _) (by k_asm) (by k_mem) (by k_asm) (strKind_is _ _ _ _) (by first | assumption | exact rfl | exact valueAt_stored (by assumption)) ?_))
  exact trivial
--END
section
variable {a b : Addr} {oa ob : Obj} {news : List (Addr × Obj)} {g1 : Obj → List (Addr × Obj)} {g2 : Obj → Obj → List (Addr × Obj)}
/-- what stands in the ledger off the addresses -/
def offs (as : List Addr) (news : List (Addr × Obj)) : List (Addr × Obj) := news.filter fun q => !as.contains q.1
theorem mem_offs {as : List Addr} {q : Addr × Obj} : q ∈ offs as news ↔ q ∈ news ∧ q.1 ∉ as := by
  simp [offs]
theorem offs_off (as : List Addr) : OwnOff (offs as news) as := by
  intro q hq c hc e
  exact (mem_offs.mp hq).2 (e ▸ hc)
theorem updF_mem {a : Addr} {oa o : Obj} {g : Obj → List (Addr × Obj)} (U : UpdF a oa news g) {q : Addr × Obj} (h : q ∈ g o) : q = (a, o) ∨ q ∈ offs [a] news := by
  obtain ⟨pre, post, rfl, hg, h1, h2⟩ := U.split
  rw [hg] at h
  rcases List.mem_append.mp h with h | h
  · exact .inr (mem_offs.mpr ⟨List.mem_append.mpr (.inl h), by simpa using h1 q h⟩)
  · rcases List.mem_cons.mp h with h | h
    · exact .inl h
    · exact .inr (mem_offs.mpr ⟨List.mem_append.mpr (.inr (.tail _ h)), by simpa using h2 q h⟩)
theorem updF_self {a : Addr} {oa : Obj} {g : Obj → List (Addr × Obj)} (U : UpdF a oa news g) : (a, oa) ∈ news := by
  obtain ⟨pre, post, rfl, hg, h1, h2⟩ := U.split
  exact List.mem_append.mpr (.inr (.head _))
theorem updF_ne (U1 : UpdF a oa news g1) (U2 : ∀ o, UpdF b ob (g1 o) (g2 o)) : a ≠ b := by
  rintro rfl
  have h1 := updF_mem U1 (updF_self (U2 (listOf #[] 0)))
  have h2 := updF_mem U1 (updF_self (U2 (listOf #[] 1)))
  rcases h1 with h1 | h1
  · rcases h2 with h2 | h2
    · have e1 := congrArg Prod.snd h1
      have e2 := congrArg Prod.snd h2
      simp only at e1 e2
      rw [e1] at e2
      have := congrArg Obj.data e2
      simp at this
    · exact absurd (mem_offs.mp h2).2 (by simp)
  · exact absurd (mem_offs.mp h1).2 (by simp)
theorem updF_mem2 (U1 : UpdF a oa news g1) (U2 : ∀ o, UpdF b ob (g1 o) (g2 o)) {o o' : Obj} {q : Addr × Obj} (h : q ∈ g2 o o') : q ∈ (a, o) :: (b, o') :: offs [a, b] news := by
  rcases updF_mem (U2 o) h with rfl | h
  · exact .tail _ (.head _)
  · obtain ⟨h1, h2⟩ := mem_offs.mp h
    rcases updF_mem U1 h1 with rfl | h1
    · exact .head _
    · obtain ⟨h3, h4⟩ := mem_offs.mp h1
      exact .tail _ (.tail _ (mem_offs.mpr ⟨h3, by simp at h2 h4 ⊢; exact ⟨h4, h2⟩⟩))
theorem updF_other (U1 : UpdF a oa news g1) (U2 : ∀ o, UpdF b ob (g1 o) (g2 o)) : (b, ob) ∈ news := by
  have h1 := updF_mem U1 (updF_self (U2 (listOf #[] 0)))
  rcases h1 with h1 | h1
  · exact absurd (congrArg Prod.fst h1).symm (updF_ne U1 U2)
  · exact (mem_offs.mp h1).1
end
section
variable {prog : Program} {w : World} {p : Program} {loose : List Str} {mean : ExcName → Option Value} {mg mb : Str → Option Value}
  {x dx ti oa : Addr} {last : Int} {lt : Tok} {K : Ks}
  {t dt rw bt : Addr} {h1 h2 : Int} {k1 k2 : Tok} {n nr : Nat} {own news : List (Addr × Obj)} {ob : Obj} {kvs : List (Str × Value)} {vs : List Value}
  {M Mr Mk Mt Mo : Addr} {oM ok : Obj} {lastM : Int} {tlM : Tok} {mvs : List Value} {nm : Nat} {kvm : List (Str × Value)} {g1 : Obj → List (Addr × Obj)} {g2 : Obj → Obj → List (Addr × Obj)}

theorem numof_new {y : Str} {tk : Tok} (hoff : OwnOff own [Mr, Mk]) (hne : @Ne Nat Mr Mk) (hM : (M, oM) ∈ own) (hMD : oM.IsDictOf (strKind prog w) (modK Mr Mk Mt Mo lastM tlM)) (hKD : ok.IsDictOf (strKind prog w) kvm) (loK : (Mk == sysModules) = false)
    (hl : mvs.length ≤ 100000) (hlk : kvm.length ≤ sizeLine) (hy : valueAt kvm y = none) :
    Ctr prog w p loose mean mg mb 209 [.ref M, .str y tk] 20 200 ((Mr, listOf mvs.toArray nm) :: (Mk, ok) :: own)
      (fun r news' => ∃ nm' ok' t1 t2, r = .int mvs.length t1 ∧ news' = (Mr, listOf (mvs ++ [Value.str y t2]).toArray nm') :: (Mk, ok') :: own ∧ ok'.IsDictOf (strKind prog w) (stored kvm y (Value.int mvs.length t1))) := by
  intro dp un gd cn csc a ccd cl outer A₀ base h₀ L m s Q E B F X N T hk hd hu hret
  refine wpAny_call ?_
  k_dflt ktr_enter
  k_steps
  simp only [List.push_toArray] at *
  refine hret _ _ _ _ ?_ (by assumption) (by assumption)
  exact ⟨_, _, _, _, rfl, rfl, by assumption⟩

theorem numof_old {y : Str} {tk : Tok} {v : Value} (hM : (M, oM) ∈ news) (hMD : oM.IsDictOf (strKind prog w) (modK Mr Mk Mt Mo lastM tlM)) (hMk : (Mk, ok) ∈ news) (hKD : ok.IsDictOf (strKind prog w) kvm) (loK : (Mk == sysModules) = false)
    (hy : valueAt kvm y = some v) :
    Ctr prog w p loose mean mg mb 209 [.ref M, .str y tk] 20 200 news (fun r news' => r = v ∧ news' = news) := by
  intro dp un gd cn csc a ccd cl outer A₀ base h₀ L m s Q E B F X N T hk hd hu hret
  refine wpAny_call ?_
  k_dflt ktr_enter
  k_steps
  exact hret _ _ _ _ ⟨rfl, rfl⟩ (by assumption) (by assumption)

theorem numof {T : TS} {y : Str} {tk : Tok} (U1 : UpdF Mr (listOf mvs.toArray nm) news g1) (U2 : ∀ o, UpdF Mk ok (g1 o) (g2 o)) (hM : (M, oM) ∈ news) (hne : @Ne Nat M Mr ∧ @Ne Nat M Mk) (hMD : oM.IsDictOf (strKind prog w) (modK Mr Mk Mt Mo lastM tlM)) (hKD : ok.IsDictOf (strKind prog w) kvm) (loK : (Mk == sysModules) = false)
    (hT : T.Ok) (hlen : T.rows.length ≤ 100000) (hMo : ModRel T mvs kvm) :
    Ctr prog w p loose mean mg mb 209 [.ref M, .str y tk] 20 200 news
      (fun r news' => ∃ mvs' nm' ok' kvm' tr, r = .int (T.numD y : Int) tr ∧ news' = g2 (listOf mvs'.toArray nm') ok' ∧ ok'.IsDictOf (strKind prog w) kvm' ∧ ModRel (T.intern y) mvs' kvm') := by
  have hml : mvs.length = T.rows.length := strs_len hMo.1
  have hkl : kvm.length = T.known.length := hMo.2.length
  have hTl : T.known.length ≤ T.rows.length := hT.2.1
  have hkl2 : kvm.length ≤ sizeLine := by rw [sizeLine_eq]; omega
  cases hy : T.num y with
  | none =>
    have hM' : (M, oM) ∈ offs [Mr, Mk] news := mem_offs.mpr ⟨hM, by simp; exact hne⟩
    refine Ctr.weak (numof_new (y := y) (tk := tk) (mvs := mvs) (nm := nm) (offs_off _) (updF_ne U1 U2) hM' hMD hKD loK (by omega) hkl2 (hMo.2.none_of hy)) ?_ ?_
    · intro q hq
      rcases List.mem_cons.mp hq with rfl | hq
      · exact updF_self U1
      · rcases List.mem_cons.mp hq with rfl | hq
        · exact updF_other U1 U2
        · exact (mem_offs.mp hq).1
    · rintro r n₁ ⟨nm', ok', t1, t2, rfl, rfl, hd⟩
      refine ⟨_, ⟨_, nm', ok', _, t1, ?_, rfl, hd, ?_⟩, fun q hq => updF_mem2 U1 U2 hq⟩
      · unfold TS.numD; rw [hy, hml]; rfl
      · rw [hml]; exact hMo.intern hy t2 t1
  | some j =>
    obtain ⟨v, hv, tj, rfl⟩ := hMo.2.some_of hy
    refine Ctr.weak (numof_old (y := y) (tk := tk) hM hMD (updF_other U1 U2) hKD loK hv) (fun q hq => hq) ?_
    rintro r n₁ ⟨rfl, rfl⟩
    refine ⟨_, ⟨mvs, nm, ok, kvm, tj, ?_, rfl, hKD, ?_⟩, fun q hq => ?_⟩
    · unfold TS.numD; rw [hy]; rfl
    · rw [TS.intern_some hy]; exact hMo
    · rcases List.mem_cons.mp (updF_mem2 U1 U2 hq) with rfl | h
      · exact updF_self U1
      · rcases List.mem_cons.mp h with rfl | h
        · exact updF_other U1 U2
        · exact (mem_offs.mp h).1
theorem numof_k {T : TS} {y : Str} {tk : Tok} (U1 : UpdF Mr (listOf mvs.toArray nm) news g1) (U2 : ∀ o, UpdF Mk ok (g1 o) (g2 o)) (hM : (M, oM) ∈ news) (hne : @Ne Nat M Mr ∧ @Ne Nat M Mk) (hMD : oM.IsDictOf (strKind prog w) (modK Mr Mk Mt Mo lastM tlM)) (hKD : ok.IsDictOf (strKind prog w) kvm) (loK : (Mk == sysModules) = false)
    (hT : T.Ok) (hlen : T.rows.length ≤ 100000) (hMo : ModRel T mvs kvm) :
    CtrK prog w p loose mean mg mb 209 [.ref M, .str y tk] 20 200 news
      (fun Sx => ∀ mvs' nm' ok' kvm' tr, ok'.IsDictOf (strKind prog w) kvm' → ModRel (T.intern y) mvs' kvm' → Sx (.int (T.numD y : Int) tr) (g2 (listOf mvs'.toArray nm') ok')) :=
  CtrK.of (numof U1 U2 hM hne hMD hKD loK hT hlen hMo) (by rintro Sx kx rx news1 ⟨mvs', nm', ok', kvm', tr, e1, e2, f0, f1⟩; subst e1; subst e2; exact kx mvs' nm' ok' kvm' tr f0 f1)
end

-- the walk's own switch and caches as in a file of its own
theorem switch_9 : True := by
  w_top off
  exact trivial
theorem lt_all {d a b : Addr} {oa ob : Obj} {news : List (Addr × Obj)} (h : AllLt d ((a, oa) :: (b, ob) :: offs [a, b] news)) : ∀ q ∈ news, q.1 < d := by
  intro q hq
  by_cases e1 : q.1 = a
  · rw [e1]; exact h.1
  · by_cases e2 : q.1 = b
    · rw [e2]; exact h.2.1
    · exact ktn_ltOf h.2.2 q (mem_offs.mpr ⟨hq, by simp; exact ⟨e1, e2⟩⟩)
theorem lt_all1 {d a : Addr} {oa : Obj} {news : List (Addr × Obj)} (h : AllLt d ((a, oa) :: offs [a] news)) : ∀ q ∈ news, q.1 < d := by
  intro q hq
  by_cases e1 : q.1 = a
  · rw [e1]; exact h.1
  · exact ktn_ltOf h.2 q (mem_offs.mpr ⟨hq, by simp; exact e1⟩)
section
variable {prog : Program} {w : World} {p : Program} {loose : List Str} {mean : ExcName → Option Value} {mg mb : Str → Option Value}
  {x dx ti oa : Addr} {last : Int} {lt : Tok} {K : Ks}
  {t dt rw bt : Addr} {h1 h2 : Int} {k1 k2 : Tok} {n nr : Nat} {own news : List (Addr × Obj)} {ob : Obj} {kvs : List (Str × Value)} {vs : List Value} {g1 : Obj → List (Addr × Obj)} {g2 : Obj → Obj → List (Addr × Obj)} {L : List (Addr × Obj)}

theorem symbol {T : TS} {y : Str} {tk : Tok} (U1 : UpdF rw (listOf vs.toArray nr) news g1) (U2 : ∀ o, UpdF bt ob (g1 o) (g2 o))
    (hx : (x, instObj 178 dx) ∈ news) (hdx : (dx, namD t ti oa last lt K) ∈ news) (ht : (t, instObj 94 dt) ∈ news) (hdt : (dt, tabD rw bt h1 h2 k1 k2 n) ∈ news)
    (hne : (@Ne Nat x rw ∧ @Ne Nat x bt) ∧ (@Ne Nat dx rw ∧ @Ne Nat dx bt) ∧ (@Ne Nat t rw ∧ @Ne Nat t bt) ∧ (@Ne Nat dt rw ∧ @Ne Nat dt bt))
    (hD : ob.IsDictOf (strKind prog w) kvs) (lo : (bt == sysModules) = false) (hT : T.Ok) (hlen : T.rows.length ≤ 100000) (hI : ImpRel T vs kvs L) :
    Ctr prog w p loose mean mg mb 126 [.ref x, .str y tk] 30 300 news
      (fun r news' => ∃ new vs' nr' ob' kvs' sx, r = .ref sx ∧ news' = new ++ g2 (listOf vs'.toArray nr') ob' ∧ ob'.IsDictOf (strKind prog w) kvs' ∧ ImpRel (T.intern y) vs' kvs' (L ++ new) ∧ vs'[(T.numD y : Int).toNat]? = some (.ref sx) ∧ SymAt (L ++ new) sx (T.numD y) y ∧ (∀ q ∈ new, ∀ p ∈ news, p.1 < q.1)) := by
  have hvl : vs.length = T.rows.length := hI.1
  have hkl : kvs.length = T.known.length := hI.2.1.length
  have hTl : T.known.length ≤ T.rows.length := hT.2.1
  have hkl2 : kvs.length ≤ sizeLine := by rw [sizeLine_eq]; omega
  cases hy : T.num y with
  | none =>
    refine Ctr.weak (nam_symbol_new (text := y) (tk := tk) (vs := vs) (nr := nr) (ob := ob) (own := offs [rw, bt] news) (offs_off _) (updF_ne U1 U2) (mem_offs.mpr ⟨hx, by simp; exact hne.1⟩) (mem_offs.mpr ⟨hdx, by simp; exact hne.2.1⟩) (mem_offs.mpr ⟨ht, by simp; exact hne.2.2.1⟩) (mem_offs.mpr ⟨hdt, by simp; exact hne.2.2.2⟩) hD lo (by omega) hkl2 (hI.2.1.none_of hy)) ?_ ?_
    · intro q hq
      rcases List.mem_cons.mp hq with rfl | hq
      · exact updF_self U1
      · rcases List.mem_cons.mp hq with rfl | hq
        · exact updF_other U1 U2
        · exact (mem_offs.mp hq).1
    · rintro r n₁ ⟨sx, dsx, nr', ob', u1, u2, u3, u4, u5, u6, u7, rfl, rfl, hd, hlt, hlt2⟩
      have hall := lt_all hlt
      refine ⟨_, ⟨[(sx, instObj 31 dsx), (dsx, symD vs.length y u1 u2 u3 u4 u5 u6 u7)], vs ++ [Value.ref sx], nr', ob', _, sx, rfl, rfl, hd, ?_, ?_, ?_, ?_⟩, ?_⟩
      · refine hI.intern hy (fun q hq => List.mem_append.mpr (.inl hq)) ?_
        rw [← hvl]
        exact ⟨dsx, u1, u2, u3, u4, u5, u6, u7, List.mem_append.mpr (.inr (.head _)), List.mem_append.mpr (.inr (.tail _ (.head _)))⟩
      · unfold TS.numD; rw [hy]; simp [← hvl]
      · unfold TS.numD; rw [hy]; simp only [Option.getD_none]
        rw [← hvl]
        exact ⟨dsx, u1, u2, u3, u4, u5, u6, u7, List.mem_append.mpr (.inr (.head _)), List.mem_append.mpr (.inr (.tail _ (.head _)))⟩
      · intro q hq p' hp
        have := hall p' hp
        rcases List.mem_cons.mp hq with rfl | hq
        · exact Nat.lt_trans this hlt2
        · rcases List.mem_cons.mp hq with rfl | hq
          · exact this
          · cases hq
      · intro q hq
        rcases List.mem_append.mp hq with h | h
        · rcases List.mem_cons.mp h with rfl | h
          · exact .head _
          · rcases List.mem_cons.mp h with rfl | h
            · exact .tail _ (.head _)
            · cases h
        · exact .tail _ (.tail _ (updF_mem2 U1 U2 h))
  | some j =>
    obtain ⟨v, hv, hvj⟩ := hI.2.1.some_of hy
    obtain ⟨sx, hs1, hs2⟩ := hI.2.2 j y (hT.1 y j hy)
    rw [hvj] at hs1
    obtain rfl : v = .ref sx := Option.some.inj hs1
    refine Ctr.weak (nam_symbol_old (text := y) (tk := tk) hx hdx ht hdt (updF_other U1 U2) hD lo hv) (fun q hq => hq) ?_
    rintro r n₁ ⟨rfl, rfl⟩
    refine ⟨_, ⟨[], vs, nr, ob, kvs, sx, rfl, rfl, hD, ?_, ?_, ?_, (by intro _ h; cases h)⟩, fun q hq => ?_⟩
    · rw [TS.intern_some hy, List.append_nil]; exact hI
    · unfold TS.numD; rw [hy]; simpa using hvj
    · unfold TS.numD; rw [hy]; simpa using hs2
    · rcases List.mem_cons.mp (updF_mem2 U1 U2 hq) with rfl | h
      · exact updF_self U1
      · rcases List.mem_cons.mp h with rfl | h
        · exact updF_other U1 U2
        · exact (mem_offs.mp h).1

theorem symbol_k {T : TS} {y : Str} {tk : Tok} (U1 : UpdF rw (listOf vs.toArray nr) news g1) (U2 : ∀ o, UpdF bt ob (g1 o) (g2 o))
    (hx : (x, instObj 178 dx) ∈ news) (hdx : (dx, namD t ti oa last lt K) ∈ news) (ht : (t, instObj 94 dt) ∈ news) (hdt : (dt, tabD rw bt h1 h2 k1 k2 n) ∈ news)
    (hne : (@Ne Nat x rw ∧ @Ne Nat x bt) ∧ (@Ne Nat dx rw ∧ @Ne Nat dx bt) ∧ (@Ne Nat t rw ∧ @Ne Nat t bt) ∧ (@Ne Nat dt rw ∧ @Ne Nat dt bt))
    (hD : ob.IsDictOf (strKind prog w) kvs) (lo : (bt == sysModules) = false) (hT : T.Ok) (hlen : T.rows.length ≤ 100000) (hI : ImpRel T vs kvs L) :
    CtrK prog w p loose mean mg mb 126 [.ref x, .str y tk] 30 300 news
      (fun Sx => ∀ new vs' nr' ob' kvs' sx, ob'.IsDictOf (strKind prog w) kvs' → ImpRel (T.intern y) vs' kvs' (L ++ new) → vs'[(T.numD y : Int).toNat]? = some (.ref sx) → ((∀ q ∈ new, ∀ p ∈ news, p.1 < q.1)) → ∀ (dsx : Addr) (g1' g2' : Int) (q1 q2 tn tt : Tok) (nx : Nat), (sx, instObj 31 dsx) ∈ L ++ new → (dsx, symD ((T.numD y : Nat) : Int) y g1' g2' q1 q2 tn tt nx) ∈ L ++ new → Sx (.ref sx) (new ++ g2 (listOf vs'.toArray nr') ob')) :=
  CtrK.of (symbol U1 U2 hx hdx ht hdt hne hD lo hT hlen hI) (by rintro Sx kx rx news1 ⟨new, vs', nr', ob', kvs', sx, e1, e2, f0, f1, f2, ⟨d1, d2, d3, d4, d5, d6, d7, d8, d9, d10⟩, f4⟩; subst e1; subst e2; exact kx new vs' nr' ob' kvs' sx f0 f1 f2 f4 d1 d2 d3 d4 d5 d6 d7 d8 d9 d10)
theorem number {T : TS} {y : Str} {tk : Tok} (U1 : UpdF rw (listOf vs.toArray nr) news g1) (U2 : ∀ o, UpdF bt ob (g1 o) (g2 o))
    (hx : (x, instObj 178 dx) ∈ news) (hdx : (dx, namD t ti oa last lt K) ∈ news) (ht : (t, instObj 94 dt) ∈ news) (hdt : (dt, tabD rw bt h1 h2 k1 k2 n) ∈ news)
    (hne : (@Ne Nat x rw ∧ @Ne Nat x bt) ∧ (@Ne Nat dx rw ∧ @Ne Nat dx bt) ∧ (@Ne Nat t rw ∧ @Ne Nat t bt) ∧ (@Ne Nat dt rw ∧ @Ne Nat dt bt))
    (hD : ob.IsDictOf (strKind prog w) kvs) (lo : (bt == sysModules) = false) (hT : T.Ok) (hlen : T.rows.length ≤ 100000) (hI : ImpRel T vs kvs L) (hL : ∀ q ∈ L, q ∈ news) :
    Ctr prog w p loose mean mg mb 133 [.ref x, .str y tk] 30 300 news
      (fun r news' => ∃ new vs' nr' ob' kvs' tr, r = .int (T.numD y : Int) tr ∧ news' = new ++ g2 (listOf vs'.toArray nr') ob' ∧ ob'.IsDictOf (strKind prog w) kvs' ∧ ImpRel (T.intern y) vs' kvs' (L ++ new) ∧ (∀ q ∈ new, ∀ p ∈ news, p.1 < q.1)) := by
  have hvl : vs.length = T.rows.length := hI.1
  have hkl : kvs.length = T.known.length := hI.2.1.length
  have hTl : T.known.length ≤ T.rows.length := hT.2.1
  have hkl2 : kvs.length ≤ sizeLine := by rw [sizeLine_eq]; omega
  cases hy : T.num y with
  | none =>
    refine Ctr.weak (nam_number_new (text := y) (tk := tk) (vs := vs) (nr := nr) (ob := ob) (own := offs [rw, bt] news) (offs_off _) (updF_ne U1 U2) (mem_offs.mpr ⟨hx, by simp; exact hne.1⟩) (mem_offs.mpr ⟨hdx, by simp; exact hne.2.1⟩) (mem_offs.mpr ⟨ht, by simp; exact hne.2.2.1⟩) (mem_offs.mpr ⟨hdt, by simp; exact hne.2.2.2⟩) hD lo (by omega) hkl2 (hI.2.1.none_of hy)) ?_ ?_
    · intro q hq
      rcases List.mem_cons.mp hq with rfl | hq
      · exact updF_self U1
      · rcases List.mem_cons.mp hq with rfl | hq
        · exact updF_other U1 U2
        · exact (mem_offs.mp hq).1
    · rintro r n₁ ⟨sx, dsx, nr', ob', u1, u2, u3, u4, u5, u6, u7, rfl, rfl, hd, hlt, hlt2⟩
      have hall := lt_all hlt
      refine ⟨_, ⟨[(sx, instObj 31 dsx), (dsx, symD vs.length y u1 u2 u3 u4 u5 u6 u7)], vs ++ [Value.ref sx], nr', ob', _, u5, ?_, rfl, hd, ?_, ?_⟩, ?_⟩
      · unfold TS.numD; rw [hy, hvl]; rfl
      · refine hI.intern hy (fun q hq => List.mem_append.mpr (.inl hq)) ?_
        rw [← hvl]
        exact ⟨dsx, u1, u2, u3, u4, u5, u6, u7, List.mem_append.mpr (.inr (.head _)), List.mem_append.mpr (.inr (.tail _ (.head _)))⟩
      · intro q hq p' hp
        have := hall p' hp
        rcases List.mem_cons.mp hq with rfl | hq
        · exact Nat.lt_trans this hlt2
        · rcases List.mem_cons.mp hq with rfl | hq
          · exact this
          · cases hq
      · intro q hq
        rcases List.mem_append.mp hq with h | h
        · rcases List.mem_cons.mp h with rfl | h
          · exact .head _
          · rcases List.mem_cons.mp h with rfl | h
            · exact .tail _ (.head _)
            · cases h
        · exact .tail _ (.tail _ (updF_mem2 U1 U2 h))
  | some j =>
    obtain ⟨v, hv, hvj⟩ := hI.2.1.some_of hy
    obtain ⟨sx, hs1, hs2⟩ := hI.2.2 j y (hT.1 y j hy)
    rw [hvj] at hs1
    obtain rfl : v = .ref sx := Option.some.inj hs1
    obtain ⟨ds, e1, e2, q1, q2, tn, tt, nx, hsi, hds⟩ := id hs2
    refine Ctr.weak (nam_number_old (text := y) (tk := tk) hx hdx ht hdt (updF_other U1 U2) hD lo hv (hL _ hsi) (hL _ hds)) (fun q hq => hq) ?_
    rintro r n₁ ⟨rfl, rfl⟩
    refine ⟨_, ⟨[], vs, nr, ob, kvs, tn, ?_, rfl, hD, ?_, (by intro _ h; cases h)⟩, fun q hq => ?_⟩
    · unfold TS.numD; rw [hy]; rfl
    · rw [TS.intern_some hy, List.append_nil]; exact hI
    · rcases List.mem_cons.mp (updF_mem2 U1 U2 hq) with rfl | h
      · exact updF_self U1
      · rcases List.mem_cons.mp h with rfl | h
        · exact updF_other U1 U2
        · exact (mem_offs.mp h).1

theorem number_k {T : TS} {y : Str} {tk : Tok} (U1 : UpdF rw (listOf vs.toArray nr) news g1) (U2 : ∀ o, UpdF bt ob (g1 o) (g2 o))
    (hx : (x, instObj 178 dx) ∈ news) (hdx : (dx, namD t ti oa last lt K) ∈ news) (ht : (t, instObj 94 dt) ∈ news) (hdt : (dt, tabD rw bt h1 h2 k1 k2 n) ∈ news)
    (hne : (@Ne Nat x rw ∧ @Ne Nat x bt) ∧ (@Ne Nat dx rw ∧ @Ne Nat dx bt) ∧ (@Ne Nat t rw ∧ @Ne Nat t bt) ∧ (@Ne Nat dt rw ∧ @Ne Nat dt bt))
    (hD : ob.IsDictOf (strKind prog w) kvs) (lo : (bt == sysModules) = false) (hT : T.Ok) (hlen : T.rows.length ≤ 100000) (hI : ImpRel T vs kvs L) (hL : ∀ q ∈ L, q ∈ news) :
    CtrK prog w p loose mean mg mb 133 [.ref x, .str y tk] 30 300 news
      (fun Sx => ∀ new vs' nr' ob' kvs' tr, ob'.IsDictOf (strKind prog w) kvs' → ImpRel (T.intern y) vs' kvs' (L ++ new) → ((∀ q ∈ new, ∀ p ∈ news, p.1 < q.1)) → Sx (.int (T.numD y : Int) tr) (new ++ g2 (listOf vs'.toArray nr') ob')) :=
  CtrK.of (number U1 U2 hx hdx ht hdt hne hD lo hT hlen hI hL) (by rintro Sx kx rx news1 ⟨new, vs', nr', ob', kvs', tr, e1, e2, f0, f1, f2⟩; subst e1; subst e2; exact kx new vs' nr' ob' kvs' tr f0 f1 f2)
def freshText (hint : Str) (n : Nat) : Str := hint ++ Str.ofString "." ++ Str.ofString (toString (n : Int))
theorem fresh {T : TS} {hint : Str} {tk : Tok} (U1 : UpdF rw (listOf vs.toArray nr) news g1) (ht : (t, instObj 94 dt) ∈ news) (hdt : (dt, tabD rw bt h1 h2 k1 k2 n) ∈ news)
    (hne : @Ne Nat t rw ∧ @Ne Nat dt rw) (hlen : T.rows.length ≤ 100000) (hI : ImpRel T vs kvs L) (hh : hint.length ≤ 10) :
    Ctr prog w p loose mean mg mb 63 [.ref t, .str hint tk] 20 200 news
      (fun r news' => ∃ new vs' nr' sx, r = .ref sx ∧ news' = new ++ g1 (listOf vs'.toArray nr') ∧ ImpRel (T.fresh (freshText hint T.rows.length)) vs' kvs (L ++ new) ∧ vs'[(T.rows.length : Int).toNat]? = some (.ref sx) ∧ (∀ q ∈ new, ∀ p ∈ news, p.1 < q.1)) := by
  have hvl : vs.length = T.rows.length := hI.1
  refine Ctr.weak (tab_fresh (hint := hint) (tk := tk) (vs := vs) (nr := nr) (own := offs [rw] news) (offs_off _) (mem_offs.mpr ⟨ht, by simp; exact hne.1⟩) (mem_offs.mpr ⟨hdt, by simp; exact hne.2⟩) (by omega) hh) ?_ ?_
  · intro q hq
    rcases List.mem_cons.mp hq with rfl | hq
    · exact updF_self U1
    · exact (mem_offs.mp hq).1
  · rintro r n₁ ⟨sx, dsx, nr', u1, u2, u3, u4, u5, u6, u7, rfl, rfl, hlt, hlt2⟩
    have hall := lt_all1 hlt
    refine ⟨_, ⟨[(sx, instObj 31 dsx), (dsx, symD vs.length (hint ++ Str.ofString "." ++ Str.ofString (toString (vs.length : Int))) u1 u2 u3 u4 u5 u6 u7)], vs ++ [Value.ref sx], nr', sx, rfl, rfl, ?_, ?_, ?_⟩, ?_⟩
    · refine hI.fresh (fun q hq => List.mem_append.mpr (.inl hq)) ?_
      rw [← hvl]
      exact ⟨dsx, u1, u2, u3, u4, u5, u6, u7, List.mem_append.mpr (.inr (.head _)), List.mem_append.mpr (.inr (.tail _ (.head _)))⟩
    · simp [← hvl]
    · intro q hq p' hp
      have := hall p' hp
      rcases List.mem_cons.mp hq with rfl | hq
      · exact Nat.lt_trans this hlt2
      · rcases List.mem_cons.mp hq with rfl | hq
        · exact this
        · cases hq
    · intro q hq
      rcases List.mem_append.mp hq with h | h
      · rcases List.mem_cons.mp h with rfl | h
        · exact .head _
        · rcases List.mem_cons.mp h with rfl | h
          · exact .tail _ (.head _)
          · cases h
      · rcases updF_mem U1 h with rfl | h
        · exact .tail _ (.tail _ (.head _))
        · exact .tail _ (.tail _ (.tail _ h))
theorem fresh_k {T : TS} {hint : Str} {tk : Tok} (U1 : UpdF rw (listOf vs.toArray nr) news g1) (ht : (t, instObj 94 dt) ∈ news) (hdt : (dt, tabD rw bt h1 h2 k1 k2 n) ∈ news)
    (hne : @Ne Nat t rw ∧ @Ne Nat dt rw) (hlen : T.rows.length ≤ 100000) (hI : ImpRel T vs kvs L) (hh : hint.length ≤ 10) :
    CtrK prog w p loose mean mg mb 63 [.ref t, .str hint tk] 20 200 news
      (fun Sx => ∀ new vs' nr' sx, ImpRel (T.fresh (freshText hint T.rows.length)) vs' kvs (L ++ new) → vs'[(T.rows.length : Int).toNat]? = some (.ref sx) → ((∀ q ∈ new, ∀ p ∈ news, p.1 < q.1)) → Sx (.ref sx) (new ++ g1 (listOf vs'.toArray nr'))) :=
  CtrK.of (fresh U1 ht hdt hne hlen hI hh) (by rintro Sx kx rx news1 ⟨new, vs', nr', sx, e1, e2, f0, f1, f2⟩; subst e1; subst e2; exact kx new vs' nr' sx f0 f1 f2)
end

-- the walk's own switch and caches as in a file of its own
theorem switch_10 : True := by
  w_top off
  exact trivial
theorem readsAll_strs {h : Heap} : ∀ {vs : List Value} {ys : List Str}, StrsAre vs ys → ReadsAll h vs (ys.map PyData.str) []
  | _, _, .nil => .nil
  | _, _, .cons y t r => by
    have := ReadsAll.cons (Reads.str (h := h) y t) (readsAll_strs (h := h) r)
    simpa using this
theorem reads_strs {h : Heap} {a : Addr} {vs : List Value} {ys : List Str} (hl : h.IsList a vs.toArray) (hi : StrsAre vs ys) : Reads h (.ref a) (.list (ys.map PyData.str)) [a] := by
  obtain ⟨o, ho, hc, n, hd⟩ := hl
  exact Reads.list ho hc hd (by simpa using readsAll_strs hi)
theorem canLayAll0_strs : ∀ ys : List Str, (∀ y ∈ ys, PyData.strOk y = true) → PyData.canLayAll0 (ys.map PyData.str) = true
  | [], _ => by simp [PyData.canLayAll0]
  | n :: r, h => by simp [PyData.canLayAll0, PyData.canLay0, canLayAll0_strs r (fun y hy => h y (.tail _ hy)), h n (.head _)]
theorem depthAll_strs : ∀ ys : List Str, PyData.depthAll (ys.map PyData.str) ≤ 1
  | [] => by simp [PyData.depthAll]
  | n :: r => by
    have := depthAll_strs r
    simp only [List.map_cons, PyData.depthAll, PyData.depth]
    omega
theorem shaped_strs (ys : List Str) (hy : ∀ y ∈ ys, PyData.strOk y = true) : SeqAt.shaped (.list (ys.map PyData.str)) = true := by
  have h1 := depthAll_strs ys
  have h2 : PyData.depth (.list (ys.map PyData.str)) ≤ 64 := by simp only [PyData.depth]; omega
  show (PyData.canLay0 (.list (ys.map PyData.str)) && decide (PyData.depth (.list (ys.map PyData.str)) ≤ 64)) = true
  rw [Bool.and_eq_true]
  exact ⟨by simp only [PyData.canLay0]; exact canLayAll0_strs ys hy, decide_eq_true h2⟩
theorem noMix_strs : ∀ ys zs : List Str, SeqAt.noMixAll (ys.map PyData.str) (zs.map PyData.str) = true
  | [], [] => by simp [SeqAt.noMixAll]
  | [], _ :: _ => by simp [SeqAt.noMixAll]
  | _ :: _, [] => by simp [SeqAt.noMixAll]
  | _ :: r, _ :: q => by simp [SeqAt.noMixAll, SeqAt.noMix, noMix_strs r q]
theorem same_strs : ∀ ys zs : List Str, PySem.Spec.sameAll (ys.map PyData.str) (zs.map PyData.str) = decide (ys = zs)
  | [], [] => by simp [PySem.Spec.sameAll]
  | [], _ :: _ => by simp [PySem.Spec.sameAll]
  | _ :: _, [] => by simp [PySem.Spec.sameAll]
  | n :: r, k :: q => by
    simp only [List.map_cons, PySem.Spec.sameAll, PySem.Spec.same, same_strs r q]
    by_cases h : n = k <;> simp [h]
section
variable {prog : Program} {w : World} {A : Around} {E : Value → Shared → Prop} {s : Shared} {h₀ : Heap} {L : Addr} {news : List (Addr × Obj)}
theorem eq_strs {a b : Addr} {vs us : List Value} {ys zs : List Str} {Q : Value → Shared → Prop} (hl : s.heap.IsList a vs.toArray) (hi : StrsAre vs ys) (hl' : s.heap.IsList b us.toArray) (hi' : StrsAre us zs) (oy : ∀ y ∈ ys, PyData.strOk y = true) (oz : ∀ y ∈ zs, PyData.strOk y = true) (hu : A.units + 64 < cLine)
    (h : Q (.bool (decide (ys = zs))) s) : wpAny (model prog w) A (compareOp .Eq (.ref a) (.ref b)) Q E s :=
  eq_dataH_same (reads_strs hl hi) (reads_strs hl' hi') (shaped_strs ys oy) (shaped_strs zs oz) hu (by simp only [SeqAt.noMix]; exact noMix_strs ys zs) (by simp only [PySem.Spec.same]; rw [same_strs]; exact h)
theorem ne_strs {a b : Addr} {vs us : List Value} {ys zs : List Str} {Q : Value → Shared → Prop} (hl : s.heap.IsList a vs.toArray) (hi : StrsAre vs ys) (hl' : s.heap.IsList b us.toArray) (hi' : StrsAre us zs) (oy : ∀ y ∈ ys, PyData.strOk y = true) (oz : ∀ y ∈ zs, PyData.strOk y = true) (hu : A.units + 64 < cLine)
    (h : Q (.bool (!decide (ys = zs))) s) : wpAny (model prog w) A (compareOp .NotEq (.ref a) (.ref b)) Q E s :=
  ne_dataH_same (reads_strs hl hi) (reads_strs hl' hi') (shaped_strs ys oy) (shaped_strs zs oz) hu (by simp only [SeqAt.noMix]; exact noMix_strs ys zs) (by simp only [PySem.Spec.same]; rw [same_strs]; exact h)
/-- a list of texts against the empty list -/
theorem ne_empty {a b : Addr} {vs : List Value} {n n' : Nat} {ys : List Str} {Q : Value → Shared → Prop} (N : News h₀ L s.heap news) (ha : (a, listOf vs.toArray n) ∈ news) (hb : (b, listOf ([] : List Value).toArray n') ∈ news) (hi : StrsAre vs ys) (oy : ∀ y ∈ ys, PyData.strOk y = true) (hu : A.units + 64 < cLine)
    (h0 : vs.length = 0 → Q (.bool false) s) (h1 : 0 < vs.length → Q (.bool true) s) : wpAny (model prog w) A (compareOp .NotEq (.ref a) (.ref b)) Q E s := by
  refine ne_strs (listAt N ha) hi (listAt N hb) .nil oy (fun _ h => nomatch h) hu ?_
  have hl := strs_len hi
  cases ys with
  | nil => exact h0 (by simpa using hl)
  | cons y r =>
    rw [decide_eq_false (by simp)]
    exact h1 (by rw [hl]; simp)
/-- an item of a tuple of texts at a place in bounds -/
theorem item_texts {value slice : Expr} {t : Addr} {l : List Value} {k : Int} {u : Tok} {Q : Value → Shared → Prop} (ht : IsTup s.heap t l.toArray) (hall : (l.all fun v => match v with | .str y _ => (decide (y.length ≤ 10) && PyData.strOk y) | _ => false) = true)
    (h0 : 0 ≤ k) (h1 : k < l.length) (hll : l.length ≤ 100) (h : ∀ (y : Str) (tk : Tok), y.length ≤ 10 → PyData.strOk y = true → Q (.str y tk) s)
    (hs : subscripted slice false (.ref t) (.int k u) = operate [.ref t, .int k u] (getItem (.ref t) (.int k u)) := by with_unfolding_all rfl) :
    wpAny (model prog w) A (subscriptTail value slice (.ref t) (.int k u)) Q E s := by
  have hk : k.toNat < l.length := by omega
  have hx : l[k.toNat]? = some l[k.toNat] := List.getElem?_eq_getElem hk
  have hj : seqIndex? k l.length = some k.toNat := by
    have hn : ¬ k < 0 := by omega
    unfold seqIndex?
    simp only [if_neg hn]
    rw [if_pos (by simp; omega)]
  refine item_tupleT ht (by omega) (by omega) hj hx ?_ hs
  have := List.all_eq_true.mp hall _ (List.getElem_mem hk)
  split at this
  · rename_i y tk e
    rw [e]
    rw [Bool.and_eq_true] at this
    exact h y tk (of_decide_eq_true this.1) this.2
  · cases this
theorem item_texts_K {KK : Frag} {m : Str → Option Value} {value slice : Expr} {t : Addr} {l : List Value} {k : Int} {u : Tok} {dd : Option Addr} {n : Nat} {sl : Array (Option Value)} {Q : Value → Shared → Prop} (F : Fr h₀ L s.heap m) (X₀ : KK.In h₀) (hl : KK.lookup t = some ⟨.type "tuple", dd, .seq l.toArray n, sl⟩)
    (hall : (l.all fun v => match v with | .str y _ => decide (y.length ≤ 10) && PyData.strOk y | _ => false) = true)
    (h0 : 0 ≤ k) (h1 : k < l.length) (hll : l.length ≤ 100) (h : ∀ (y : Str) (tk : Tok), y.length ≤ 10 → PyData.strOk y = true → Q (.str y tk) s)
    (hs : subscripted slice false (.ref t) (.int k u) = operate [.ref t, .int k u] (getItem (.ref t) (.int k u)) := by with_unfolding_all rfl) :
    wpAny (model prog w) A (subscriptTail value slice (.ref t) (.int k u)) Q E s := item_texts (tupK (X₀.keeps F.keep) hl) hall h0 h1 hll h hs
end

-- the walk's own switch and caches as in a file of its own
theorem switch_11 : True := by
  w_top off
  exact trivial
section
variable {prog : Program} {w : World} {p : Program} {loose : List Str} {mean : ExcName → Option Value} {mg mb : Str → Option Value}
  {x dx ti oa : Addr} {last : Int} {lt : Tok} {K : Ks}
  {t dt rw bt : Addr} {h1 h2 : Int} {k1 k2 : Tok} {n nr : Nat} {own news : List (Addr × Obj)} {ob : Obj} {kvs : List (Str × Value)} {vs : List Value}
  {M Mr Mk Mt Mo : Addr} {oM ok : Obj} {lastM : Int} {tlM : Tok} {mvs : List Value} {nm : Nat} {kvm : List (Str × Value)} {L : List (Addr × Obj)} {T : TS}
theorem find {y : Str} {tk : Tok} (ht : (t, instObj 94 dt) ∈ news) (hdt : (dt, tabD rw bt h1 h2 k1 k2 n) ∈ news) (hb : (bt, ob) ∈ news) (hD : ob.IsDictOf (strKind prog w) kvs) (lo : (bt == sysModules) = false)
    (hT : T.Ok) (hI : ImpRel T vs kvs L) (hMo : ModRel T mvs kvm) :
    Ctr prog w p loose mean mg mb 77 [.ref t, .str y tk] 20 200 news
      (fun r news' => news' = news ∧ ((T.num y = none ∧ valueAt kvm y = none ∧ r = .none) ∨ ∃ (j : Nat) (z : Addr) (tm : Tok), T.num y = some j ∧ valueAt kvm y = some (.int (j : Int) tm) ∧ T.rows[(j : Int).toNat]? = some y ∧ vs[(j : Int).toNat]? = some (.ref z) ∧ r = .ref z)) := by
  cases hy : T.num y with
  | none =>
    refine Ctr.weak (tab_find ht hdt hb hD lo (hI.2.1.none_of hy)) (fun _ h => h) ?_
    rintro r n₁ ⟨rfl, rfl⟩
    exact ⟨_, ⟨rfl, .inl ⟨rfl, hMo.2.none_of hy, rfl⟩⟩, fun _ h => h⟩
  | some j =>
    obtain ⟨v, hv, hvj⟩ := hI.2.1.some_of hy
    obtain ⟨sx, hs1, hs2⟩ := hI.2.2 j y (hT.1 y j hy)
    rw [hvj] at hs1
    obtain rfl : v = .ref sx := Option.some.inj hs1
    obtain ⟨vm, hm1, tz, rfl⟩ := hMo.2.some_of hy
    refine Ctr.weak (tab_find ht hdt hb hD lo hv) (fun _ h => h) ?_
    rintro r n₁ ⟨rfl, rfl⟩
    exact ⟨_, ⟨rfl, .inr ⟨j, sx, tz, rfl, hm1, hT.1 y j hy, hvj, rfl⟩⟩, fun _ h => h⟩
theorem by_number {k : Int} {tk : Tok} (ht : (t, instObj 94 dt) ∈ news) (hdt : (dt, tabD rw bt h1 h2 k1 k2 n) ∈ news) (hr : (rw, listOf vs.toArray nr) ∈ news) (hI : ImpRel T vs kvs L) (hlen : T.rows.length ≤ 100000) (hk0 : 0 ≤ k) (hk1 : k < T.rows.length) :
    Ctr prog w p loose mean mg mb 70 [.ref t, .int k tk] 20 200 news (fun r news' => news' = news ∧ ∃ (y : Str) (z : Addr), T.rows[k.toNat]? = some y ∧ vs[k.toNat]? = some (.ref z) ∧ r = .ref z) := by
  have hj : k.toNat < T.rows.length := by omega
  obtain ⟨z, h1, h2⟩ := hI.2.2 k.toNat _ (List.getElem?_eq_getElem hj)
  refine Ctr.weak (tab_by_number ht hdt hr hk0 (by omega) h1) (fun _ h => h) ?_
  rintro r n₁ ⟨rfl, rfl⟩
  exact ⟨_, ⟨rfl, _, z, List.getElem?_eq_getElem hj, h1, rfl⟩, fun _ h => h⟩
theorem by_number_k {k : Int} {tk : Tok} (ht : (t, instObj 94 dt) ∈ news) (hdt : (dt, tabD rw bt h1 h2 k1 k2 n) ∈ news) (hr : (rw, listOf vs.toArray nr) ∈ news) (hI : ImpRel T vs kvs L) (hlen : T.rows.length ≤ 100000) (hk0 : 0 ≤ k) (hk1 : k < T.rows.length) :
    CtrK prog w p loose mean mg mb 70 [.ref t, .int k tk] 20 200 news (fun Sx => ∀ (y : Str) (z : Addr), T.rows[k.toNat]? = some y → vs[k.toNat]? = some (.ref z) → Sx (.ref z) news) :=
  CtrK.of (by_number ht hdt hr hI hlen hk0 hk1) (by rintro Sx kx rx news1 ⟨e2, y, z, f0, f1, e1⟩; subst e1; subst e2; exact kx y z f0 f1)
theorem issymI {k : Int} {y : Str} {tk : Tok} {s : Addr}
    (hx : (x, instObj 178 dx) ∈ news) (hdx : (dx, namD t ti oa last lt K) ∈ news) (ht : (t, instObj 94 dt) ∈ news) (hdt : (dt, tabD rw bt h1 h2 k1 k2 n) ∈ news) (hr : (rw, listOf vs.toArray nr) ∈ news) (hb : (bt, ob) ∈ news) (hD : ob.IsDictOf (strKind prog w) kvs) (lo : (bt == sysModules) = false)
    (hM : (M, oM) ∈ news) (hMD : oM.IsDictOf (strKind prog w) (modK Mr Mk Mt Mo lastM tlM)) (hMr : (Mr, listOf mvs.toArray nm) ∈ news) (hMk : (Mk, ok) ∈ news) (hKD : ok.IsDictOf (strKind prog w) kvm) (loK : (Mk == sysModules) = false)
    (hI : ImpRel T vs kvs L) (hL : ∀ q ∈ L, q ∈ news) (hMo : ModRel T mvs kvm) (hT : T.Ok) (hlen : T.rows.length ≤ 100000) (hk0 : 0 ≤ k) (hj : T.rows[k.toNat]? = some y) (hv : vs[k.toNat]? = some (.ref s)) :
    Ctr prog w p loose mean mg mb 216 [.ref x, .ref M, .ref s, .int k tk] 50 500 news (fun r news' => r = .bool true ∧ news' = news) := by
  have e : k = (k.toNat : Int) := by omega
  rw [e]
  exact issym hx hdx ht hdt hr hb hD lo hM hMD hMr hMk hKD loK hT hlen hI hL hMo hj hv
theorem issymI_k {k : Int} {y : Str} {tk : Tok} {s : Addr}
    (hx : (x, instObj 178 dx) ∈ news) (hdx : (dx, namD t ti oa last lt K) ∈ news) (ht : (t, instObj 94 dt) ∈ news) (hdt : (dt, tabD rw bt h1 h2 k1 k2 n) ∈ news) (hr : (rw, listOf vs.toArray nr) ∈ news) (hb : (bt, ob) ∈ news) (hD : ob.IsDictOf (strKind prog w) kvs) (lo : (bt == sysModules) = false)
    (hM : (M, oM) ∈ news) (hMD : oM.IsDictOf (strKind prog w) (modK Mr Mk Mt Mo lastM tlM)) (hMr : (Mr, listOf mvs.toArray nm) ∈ news) (hMk : (Mk, ok) ∈ news) (hKD : ok.IsDictOf (strKind prog w) kvm) (loK : (Mk == sysModules) = false)
    (hI : ImpRel T vs kvs L) (hL : ∀ q ∈ L, q ∈ news) (hMo : ModRel T mvs kvm) (hT : T.Ok) (hlen : T.rows.length ≤ 100000) (hk0 : 0 ≤ k) (hj : T.rows[k.toNat]? = some y) (hv : vs[k.toNat]? = some (.ref s)) :
    CtrK prog w p loose mean mg mb 216 [.ref x, .ref M, .ref s, .int k tk] 50 500 news (fun Sx => Sx (.bool true) (news)) :=
  CtrK.of (issymI hx hdx ht hdt hr hb hD lo hM hMD hMr hMk hKD loK hI hL hMo hT hlen hk0 hj hv) (by rintro Sx kx rx news1 ⟨e1, e2⟩; subst e1; subst e2; exact kx)
end
theorem news_rot {h₀ h : Heap} {A : Addr} {new l : List (Addr × Obj)} (N : News h₀ A h (new ++ l)) : News h₀ A h (l ++ new) := fun q hq => N q ((List.mem_append.mp hq).elim (fun h => List.mem_append.mpr (.inr h)) fun h => List.mem_append.mpr (.inl h))
theorem new_ne {new l : List (Addr × Obj)} {d : Addr} {o : Obj} (h : ∀ q ∈ new, ∀ p ∈ l, p.1 < q.1) (hm : (d, o) ∈ l) : ∀ q ∈ new, q.1 ≠ d := fun q hq => Nat.ne_of_gt (h q hq _ hm)
theorem all_app {a b : List (Addr × Obj)} {d : Addr} (ha : ∀ q ∈ a, q.1 ≠ d) (hb : ∀ q ∈ b, q.1 ≠ d) : ∀ q ∈ a ++ b, q.1 ≠ d := fun q hq => (List.mem_append.mp hq).elim (ha q) (hb q)
theorem TS.Ok.lenI {T : TS} (_h : T.Ok) (y : Str) : (T.intern y).rows.length ≤ T.rows.length + 1 := T.intern_len y
theorem mem_app_l {q : Addr × Obj} {a b : List (Addr × Obj)} (h : List.Mem q a) : List.Mem q (a ++ b) := List.mem_append.mpr (.inl h)
theorem mem_app_r {q : Addr × Obj} {a b : List (Addr × Obj)} (h : List.Mem q b) : List.Mem q (a ++ b) := List.mem_append.mpr (.inr h)
/-- what a step adds to the ledger's rest lies above all of it and off the addresses -/
def OwnNew (own own' : List (Addr × Obj)) (adr : List Addr) : Prop := (∀ q ∈ own, q ∈ own') ∧ ∀ q ∈ own', q ∈ own ∨ (q.1 ∉ adr ∧ ∀ p ∈ own, p.1 < q.1)
noncomputable def AllIn (l : List (Addr × Obj)) : List Addr → Prop
  | [] => True
  | a :: r => (∃ o, (a, o) ∈ l) ∧ AllIn l r
theorem AllIn.get {l : List (Addr × Obj)} : ∀ {adr : List Addr}, AllIn l adr → ∀ a ∈ adr, ∃ o, (a, o) ∈ l
  | _ :: _, h, a, ha => by
    rcases List.mem_cons.mp ha with rfl | ha
    · exact h.1
    · exact h.2.get a ha
theorem OwnNew.refl {own : List (Addr × Obj)} {adr : List Addr} : OwnNew own own adr := ⟨fun _ h => h, fun _ h => .inl h⟩
theorem OwnNew.app {own own₁ new l : List (Addr × Obj)} {adr : List Addr} (h : OwnNew own own₁ adr) (hw : ∀ q ∈ new, ∀ p ∈ l, p.1 < q.1) (hs : ∀ q ∈ own₁, q ∈ l) (ha : AllIn l adr) : OwnNew own (own₁ ++ new) adr := by
  refine ⟨fun q hq => List.mem_append.mpr (.inl (h.1 q hq)), fun q hq => ?_⟩
  rcases List.mem_append.mp hq with hq | hq
  · exact h.2 q hq
  · refine .inr ⟨fun hm => ?_, fun p' hp => hw q hq p' (hs _ (h.1 _ hp))⟩
    obtain ⟨o, ho⟩ := ha.get _ hm
    exact absurd (hw q hq _ ho) (Nat.lt_irrefl _)
theorem ModRel.fresh' {T : TS} {y : Str} {vs : List Value} {kvs : List (Str × Value)} {L : List (Addr × Obj)} {mvs : List Value} {kvm : List (Str × Value)} (h : ModRel T mvs kvm) (_h : ImpRel (T.fresh y) vs kvs L) (t : Tok) : ModRel (T.fresh y) (mvs ++ [Value.str y t]) kvm := h.fresh y t
theorem strOk_fresh {y : Str} {n : Nat} (h : PyData.strOk y = true) : PyData.strOk (freshText y n) = true := strOk_append (strOk_append h (strOk_ofString _)) (strOk_ofString _)
theorem TS.fresh_len {T : TS} {y : Str} : (T.fresh y).rows.length = T.rows.length + 1 := by simp [TS.fresh]
theorem TS.fresh_row {T : TS} {y : Str} : (T.fresh y).rows[(T.rows.length : Int).toNat]? = some y := by simp [TS.fresh]
theorem ModRel.strs {T : TS} {mvs : List Value} {kvm : List (Str × Value)} (h : ModRel T mvs kvm) : StrsAre mvs T.rows := h.1
theorem TS.Ok.strs {T : TS} (h : T.Ok) : ∀ y ∈ T.rows, PyData.strOk y = true := h.2.2
--LINES
local macro_rules | `(tactic| ktd_rel) => `(tactic| first
  | exact OwnNew.refl
  | ((refine' OwnNew.app ?ka ?kb ?kc ?kd); (case kb => assumption); (case ka => ktd_rel); (case kc => k_ownIn); (case kd => (repeat' (first | exact True.intro | refine And.intro ⟨_, by k_mem⟩ ?_)))))
local macro_rules | `(tactic| k_mem) => `(tactic| ((with_reducible refine mem_app_l ?km); (case km => k_mem)))
local macro_rules | `(tactic| k_all) => `(tactic| ((with_reducible refine all_app ?ka ?kb); (case ka => k_all); (case kb => k_all)))
local macro_rules | `(tactic| k_all) => `(tactic| exact new_ne (by assumption) (by k_mem))
local macro_rules | `(tactic| k_ownIn) => `(tactic| (intro q9 hq9; (repeat (first | exact hq9 | refine List.Mem.tail _ ?_)); done))
example : True := by
  k_with "call ref" => (k_here; (with_reducible show wpAny _ _ (call (Value.ref 195) _) _ _ _); k_dflt (refine' ctrk_use (dip_k ?c1 ?c2 ?c3 ?c4 ?c5 ?c6 ?c7) ?B ?F ?X ?nN ?T ?kk ?dd ?uu ?_; (case nN => k_asm); (case c1 => k_updF); (case c2 => k_mem); (case c3 => first | assumption | k_ne); (case c4 => assumption); (case c5 => assumption); (case c6 => assumption); (case c7 => first | decide | assumption | omega); (case B => k_asm); (case F => k_asm); (case X => k_asm); (case T => k_asm); (case kk => first | assumption | exact rfl); (case dd => ktr_room); (case uu => ktr_units)); (try dsimp only); intro k9 t9 P9 hk9 hk9' hP9 h9 tk9 F9 N9; (try dsimp only at N9); (try k_sweep); (try dsimp only))
  k_with "call ref" => (k_here; (with_reducible show wpAny _ _ (call (Value.ref 77) _) _ _ _); k_dflt (refine' ctr_use (find ?c1 ?c2 ?c3 ?c4 ?c5 ?c6 ?c7 ?c8) ?B ?F ?X ?nN ?T ?kk ?dd ?uu ?_; (case nN => k_asm); (case c1 => k_mem); (case c2 => k_mem); (case c3 => k_mem); (case c4 => k_asm); (case c5 => k_asm); (case c7 => assumption); (case c8 => assumption); (case c6 => assumption); (case B => k_asm); (case F => k_asm); (case X => k_asm); (case T => k_asm); (case kk => first | assumption | exact rfl); (case dd => ktr_room); (case uu => ktr_units)); rintro r9 n9 h9 tk9 ⟨e9', (⟨hn9, hm9, e9⟩ | ⟨j9, z9, tm9, hn9, hm9, hr9, hv9, e9⟩)⟩ F9 N9 <;> subst e9 <;> subst e9' <;> (try k_sweep) <;> (try dsimp only))
  k_with "call ref" => (k_here; (with_reducible show wpAny _ _ (call (Value.ref 70) _) _ _ _); k_dflt (refine' ctrk_use (by_number_k ?c1 ?c2 ?c3 ?c4 ?c5 ?c6 ?c7) ?B ?F ?X ?nN ?T ?kk ?dd ?uu ?_; (case nN => k_asm); (case c1 => k_mem); (case c2 => k_mem); (case c3 => k_mem); (case c4 => assumption); (case c5 => first | assumption | omega); (case c6 => assumption); (case c7 => first | assumption | omega); (case B => k_asm); (case F => k_asm); (case X => k_asm); (case T => k_asm); (case kk => first | assumption | exact rfl); (case dd => ktr_room); (case uu => ktr_units)); (try dsimp only); intro y9 z9 hr9 hv9 h9 tk9 F9 N9; (try k_sweep); (try dsimp only))
  k_with "call ref" => (k_here; (with_reducible show wpAny _ _ (call (Value.ref 209) _) _ _ _); k_dflt (refine' ctrk_use (numof_k ?c1 ?c2 ?c3 ?c4 ?c5 ?c6 ?c7 ?c8 ?c9 ?c10) ?B ?F ?X ?nN ?T ?kk ?dd ?uu ?_; (case nN => k_asm); (case c3 => k_mem); (case c5 => k_asm); (case c1 => k_updF); (case c2 => (intro o9; (try dsimp only); k_updF)); (case c4 => (refine ⟨?_, ?_⟩ <;> first | assumption | k_ne)); (case c6 => k_asm); (case c7 => k_asm); (case c10 => assumption); (case c8 => assumption); (case c9 => first | assumption | omega); (case B => k_asm); (case F => k_asm); (case X => k_asm); (case T => k_asm); (case kk => first | assumption | exact rfl); (case dd => ktr_room); (case uu => ktr_units)); (try dsimp only); intro mvs9 nm9 ok9 kvm9 tr9 hKD9 hMo9 h9 tk9 F9 N9; (try dsimp only at N9); (try k_sweep); (try dsimp only))
  k_with "call ref" => (k_here; (with_reducible show wpAny _ _ (call (Value.ref 126) _) _ _ _); k_dflt (refine' ctrk_use (symbol_k ?c1 ?c2 ?c3 ?c4 ?c5 ?c6 ?c7 ?c8 ?c9 ?c10 ?c11 ?c12) ?B ?F ?X ?nN ?T ?kk ?dd ?uu ?_; (case nN => k_asm); (case c3 => k_mem); (case c4 => k_mem); (case c5 => k_mem); (case c6 => k_mem); (case c1 => k_updF); (case c2 => (intro o9; (try dsimp only); k_updF)); (case c7 => (refine ⟨⟨?_, ?_⟩, ⟨?_, ?_⟩, ⟨?_, ?_⟩, ⟨?_, ?_⟩⟩ <;> first | assumption | k_ne)); (case c8 => k_asm); (case c9 => k_asm); (case c12 => assumption); (case c10 => assumption); (case c11 => first | assumption | omega); (case B => k_asm); (case F => k_asm); (case X => k_asm); (case T => k_asm); (case kk => first | assumption | exact rfl); (case dd => ktr_room); (case uu => ktr_units)); (try dsimp only); intro new9 vs9 nr9 ob9 kvs9 sx9 hD9 hI9 hv9 hw9 ds9 a1 a2 a3 a4 a5 a6 a7 hs8 hs9 h9 tk9 F9 N9; (try dsimp only at N9); (replace N9 := news_rot N9); (dsimp only [List.cons_append] at N9); (try simp only [TS.intern_intern, TS.numD_intern] at hI9 hv9); (try k_sweep); (try dsimp only))
  k_with "call ref" => (k_here; (with_reducible show wpAny _ _ (call (Value.ref 133) _) _ _ _); k_dflt (refine' ctr_use (number ?c1 ?c2 ?c3 ?c4 ?c5 ?c6 ?c7 ?c8 ?c9 ?c10 ?c11 ?c12 ?c13) ?B ?F ?X ?nN ?T ?kk ?dd ?uu ?_; (case nN => k_asm); (case c3 => k_mem); (case c4 => k_mem); (case c5 => k_mem); (case c6 => k_mem); (case c1 => k_updF); (case c2 => (intro o9; (try dsimp only); k_updF)); (case c7 => (refine ⟨⟨?_, ?_⟩, ⟨?_, ?_⟩, ⟨?_, ?_⟩, ⟨?_, ?_⟩⟩ <;> first | assumption | k_ne)); (case c8 => k_asm); (case c9 => k_asm); (case c12 => assumption); (case c13 => k_ownIn); (case c10 => assumption); (case c11 => first | assumption | omega); (case B => k_asm); (case F => k_asm); (case X => k_asm); (case T => k_asm); (case kk => first | assumption | exact rfl); (case dd => ktr_room); (case uu => ktr_units)); rintro r9 n9 h9 tk9 ⟨new9, vs9, nr9, ob9, kvs9, tr9, e9, e9', hD9, hI9, hw9⟩ F9 N9; (try simp only [TS.intern_intern, TS.numD_intern] at hI9 e9); subst e9; subst e9'; (try dsimp only at N9); (replace N9 := news_rot N9); (dsimp only [List.cons_append] at N9); (try k_sweep); (try dsimp only))
  k_with "call ref" => (k_here; (with_reducible show wpAny _ _ (call (Value.ref 63) _) _ _ _); k_dflt (refine' ctrk_use (fresh_k ?c1 ?c2 ?c3 ?c4 ?c5 ?c6 ?c7) ?B ?F ?X ?nN ?T ?kk ?dd ?uu ?_; (case nN => k_asm); (case c2 => k_mem); (case c3 => k_mem); (case c1 => k_updF); (case c4 => (refine ⟨?_, ?_⟩ <;> first | assumption | k_ne)); (case c6 => assumption); (case c5 => first | assumption | omega); (case c7 => assumption); (case B => k_asm); (case F => k_asm); (case X => k_asm); (case T => k_asm); (case kk => first | assumption | exact rfl); (case dd => ktr_room); (case uu => ktr_units)); (try dsimp only); intro new9 vs9 nr9 sx9 hI9 hv9 hw9 h9 tk9 F9 N9; (try dsimp only at N9); (replace N9 := news_rot N9); (dsimp only [List.cons_append] at N9); (try k_sweep); (try dsimp only))
  k_with "call ref" => (k_here; (with_reducible show wpAny _ _ (call (Value.ref 216) _) _ _ _); k_dflt (refine' ctrk_use (issymI_k ?c1 ?c2 ?c3 ?c4 ?c5 ?c6 ?c7 ?c8 ?d1 ?d2 ?d3 ?d4 ?d5 ?d6 ?d7 ?d8 ?d9 ?e1 ?e2 ?e3 ?e4 ?e5) ?B ?F ?X ?nN ?T ?kk ?dd ?uu ?_; (case nN => k_asm); (case c1 => k_mem); (case c2 => k_mem); (case c3 => k_mem); (case c4 => k_mem); (case c5 => k_mem); (case c6 => k_mem); (case c7 => k_asm); (case c8 => k_asm); (case d1 => k_mem); (case d2 => k_asm); (case d3 => k_mem); (case d4 => k_mem); (case d5 => k_asm); (case d6 => k_asm); (case d7 => assumption); (case d8 => k_ownIn); (case d9 => assumption); (case e1 => assumption); (case e2 => first | assumption | omega); (case e3 => first | assumption | omega); (case e4 => assumption); (case e5 => assumption); (case B => k_asm); (case F => k_asm); (case X => k_asm); (case T => k_asm); (case kk => first | assumption | exact rfl); (case dd => ktr_room); (case uu => ktr_units)); (try dsimp only); intro  h9 tk9 F9 N9; (try k_sweep); (try dsimp only))
  k_with "subscriptTail" => (k_here; (with_reducible show wpAny _ _ (subscriptTail _ _ (Value.ref 183) (Value.int _ _)) _ _ _); k_dflt (refine' item_texts_K ?kF ?kX ?kl ?k2 ?k3 ?k4 ?k5 ?_; (case kF => k_asm); (case kX => k_asm); (case kl => k_is); (case k2 => decide +kernel); (case k3 => assumption); (case k4 => (simp only [List.length_cons, List.length_nil]; omega)); (case k5 => decide)); intro y9 ty9 hy9 ho9; (have il9 := TS.Ok.lenI (by assumption) y9); (have ir9 := TS.Ok.rowI (by assumption) (x := y9)); (have iok9 := TS.Ok.intern (by assumption) y9 ho9))
  k_with "subscriptTail" => (k_here; (with_reducible show wpAny _ _ (subscriptTail _ _ (Value.ref _) (Value.int _ _)) _ _ _); k_dflt (refine' item_texts ?k1 ?k2 ?k3 ?k4 ?k5 ?_; (case k1 => exact News.isTup (by k_asm) (by k_mem)); (case k2 => (simp only [List.all_cons, List.all_nil, Bool.and_true]; decide +kernel)); (case k3 => assumption); (case k4 => (simp only [List.length_cons, List.length_nil]; omega)); (case k5 => exact Nat.le_of_ble_eq_true rfl)); intro y9 ty9 hy9 ho9)
  k_with "compareOp NotEq ref ref" => (k_here; k_dflt (refine' ne_empty ?k1 ?k2 ?k3 ?k4 ?k5 ?k6 ?_ ?_; (case k1 => k_asm); (case k2 => k_mem); (case k3 => k_mem); (case k4 => exact ModRel.strs (by assumption)); (case k5 => exact TS.Ok.strs (by assumption)); (case k6 => (have hcL9 := cLine_is; (try dsimp only [ktrTop, Around.deeper]); omega))); intro hl9)
  exact trivial
--END

-- the walk's own switch and caches as in a file of its own
theorem switch_12 : True := by
  w_top off
  exact trivial
theorem news_tail {h₀ h : Heap} {A : Addr} {q : Addr × Obj} {l : List (Addr × Obj)} (N : News h₀ A h (q :: l)) : News h₀ A h l := fun p hp => N p (.tail _ hp)
section
variable {prog : Program} {w : World} {p : Program} {loose : List Str} {mean : ExcName → Option Value} {mg mb : Str → Option Value}
  {pot cells : Addr} {P : Pot} {cs : List Value} {ns : List Int} {nc : Nat}
  {x dx ti oa : Addr} {last : Int} {lt : Tok} {K : Ks}
  {t dt rw bt : Addr} {h1 h2 : Int} {k1 k2 : Tok} {n nr : Nat} {own : List (Addr × Obj)} {ob : Obj} {kvs : List (Str × Value)} {vs : List Value}
  {M Mr Mk Mt Mo : Addr} {oM ok : Obj} {lastM : Int} {tlM : Tok} {mvs : List Value} {nm : Nat} {kvm : List (Str × Value)} {T : TS}
theorem by_symbols {deed : Int} {td : Tok}
    (hch : (@LT.lt Nat _ pot rw) ∧ (@LT.lt Nat _ rw bt) ∧ (@LT.lt Nat _ bt Mr) ∧ (@LT.lt Nat _ Mr Mk)) (hoff : OwnOff own [pot, rw, bt, Mr, Mk])
    (hc : (cells, listOf cs.toArray nc) ∈ own) (hIc : IntsAre cs ns) (hcl : ns.length ≤ 60) (hP : P.Ok)
    (hx : (x, instObj 178 dx) ∈ own) (hdx : (dx, namD t ti oa last lt K) ∈ own) (ht : (t, instObj 94 dt) ∈ own) (hdt : (dt, tabD rw bt h1 h2 k1 k2 n) ∈ own) (hD : ob.IsDictOf (strKind prog w) kvs) (lo : (bt == sysModules) = false)
    (hM : (M, oM) ∈ own) (hMD : oM.IsDictOf (strKind prog w) (modK Mr Mk Mt Mo lastM tlM)) (hKD : ok.IsDictOf (strKind prog w) kvm) (loK : (Mk == sysModules) = false)
    (hI : ImpRel T vs kvs own) (hMo : ModRel T mvs kvm) (hT : T.Ok) (hlen : T.rows.length ≤ 90000) (hd0 : 0 ≤ deed) (hd1 : deed < 6) :
    Ctr prog w p loose mean mg mb 223 [.ref pot, .ref x, .ref M, .int deed td] 60 600 ((pot, P.obj cells) :: (rw, listOf vs.toArray nr) :: (bt, ob) :: (Mr, listOf mvs.toArray nm) :: (Mk, ok) :: own)
      (fun r news' => ∃ (P' : Pot) (vs' : List Value) (nr' : Nat) (ob' : Obj) (kvs' : List (Str × Value)) (mvs' : List Value) (nm' : Nat) (ok' : Obj) (kvm' : List (Str × Value)) (own' : List (Addr × Obj)) (T' : TS), r = .bool true ∧
        news' = (pot, P'.obj cells) :: (rw, listOf vs'.toArray nr') :: (bt, ob') :: (Mr, listOf mvs'.toArray nm') :: (Mk, ok') :: own' ∧
        P'.Ok ∧ ob'.IsDictOf (strKind prog w) kvs' ∧ ok'.IsDictOf (strKind prog w) kvm' ∧ ImpRel T' vs' kvs' own' ∧ ModRel T' mvs' kvm' ∧ T'.Ok ∧ T'.rows.length ≤ T.rows.length + 1 ∧
        OwnNew own own' [pot, rw, bt, Mr, Mk]) := by
  intro dp un gd cn csc a ccd cl outer A₀ base h₀ L m s Q E B F X N Tp hk hd hu hret
  have hasc : AscL [pot, rw, bt, Mr, Mk] := ⟨⟨hch.1, hch.2.1, hch.2.2.1, hch.2.2.2, trivial⟩⟩
  clear hch
  have hn1 : Off _ pot := ⟨hoff _ hc pot (by simp)⟩
  have hn2 : Off _ rw := ⟨hoff _ hx rw (by simp)⟩
  have hn3 : Off _ bt := ⟨hoff _ hx bt (by simp)⟩
  have hn4 : Off _ rw := ⟨hoff _ hdx rw (by simp)⟩
  have hn5 : Off _ bt := ⟨hoff _ hdx bt (by simp)⟩
  have hn6 : Off _ rw := ⟨hoff _ ht rw (by simp)⟩
  have hn7 : Off _ bt := ⟨hoff _ ht bt (by simp)⟩
  have hn8 : Off _ rw := ⟨hoff _ hdt rw (by simp)⟩
  have hn9 : Off _ bt := ⟨hoff _ hdt bt (by simp)⟩
  have hn10 : Off _ Mr := ⟨hoff _ hM Mr (by simp)⟩
  have hn11 : Off _ Mk := ⟨hoff _ hM Mk (by simp)⟩
  have hml : mvs.length = T.rows.length := strs_len hMo.1
  have hml2 : mvs.length ≤ 100000 := by omega
  have fin : ∀ (P' : Pot) (vs' : List Value) (nr' : Nat) (ob' : Obj) (kvs' : List (Str × Value)) (mvs' : List Value) (nm' : Nat) (ok' : Obj) (kvm' : List (Str × Value)) (own' : List (Addr × Obj)) (T' : TS) (h' : Heap) (tk' : Nat),
      Fr h₀ L h' m → News h₀ L h' ((pot, P'.obj cells) :: (rw, listOf vs'.toArray nr') :: (bt, ob') :: (Mr, listOf mvs'.toArray nm') :: (Mk, ok') :: own') →
      P'.Ok → ob'.IsDictOf (strKind prog w) kvs' → ok'.IsDictOf (strKind prog w) kvm' → ImpRel T' vs' kvs' own' → ModRel T' mvs' kvm' → T'.Ok → T'.rows.length ≤ T.rows.length + 1 → OwnNew own own' [pot, rw, bt, Mr, Mk] →
      Q (.bool true) { s with heap := h', toks := tk' } :=
    fun P' vs' nr' ob' kvs' mvs' nm' ok' kvm' own' T' h' tk' F' N' e1 e2 e3 e4 e5 e6 e7 e8 => hret _ _ _ _ ⟨P', vs', nr', ob', kvs', mvs', nm', ok', kvm', own', T', rfl, rfl, e1, e2, e3, e4, e5, e6, e7, e8⟩ F' N'
  refine wpAny_call ?_
  k_dflt ktr_enter
  k_steps
  · simp only [List.push_toArray, hml] at *
    k_dflt (refine' ctr_use (issymI ?c1 ?c2 ?c3 ?c4 ?c5 ?c6 ?c7 ?c8 ?d1 ?d2 ?d3 ?d4 ?d5 ?d6 ?d7 ?d8 ?d9 ?e1 ?e2 ?e3 ?e4 ?e5) ?B ?F ?X ?N ?T ?kk ?dd ?uu ?_)
    case N => k_asm
    case c1 => k_mem
    case c2 => k_mem
    case c3 => k_mem
    case c4 => k_mem
    case c5 => k_mem
    case c6 => k_mem
    case c7 => k_asm
    case c8 => k_asm
    case d1 => k_mem
    case d2 => k_asm
    case d3 => k_mem
    case d4 => k_mem
    case d5 => k_asm
    case d6 => k_asm
    case d7 => assumption
    case d8 => k_ownIn
    case d9 => exact ModRel.fresh' (by assumption) (by assumption) _
    case e1 => exact TS.Ok.fresh (by assumption) _ (strOk_fresh (by assumption))
    case e2 => rw [TS.fresh_len]; omega
    case e3 => omega
    case e4 => exact TS.fresh_row
    case e5 => assumption
    case B => k_asm
    case F => k_asm
    case X => k_asm
    case T => k_asm
    case kk => first | assumption | exact rfl
    case dd => ktr_room
    case uu => ktr_units
    rintro r9 n9 h9 tk9 ⟨e9, e9'⟩ F9 N9
    subst e9 e9'
    k_steps
    refine' fin _ _ _ _ _ _ _ _ _ _ _ _ _ ?yF ?yN ?y1 ?y2 ?y3 ?y4 ?y5 ?y6 ?y7 ?y8
    case yF => assumption
    case yN => first | assumption | exact news_tail (by assumption) | exact news_tail (news_tail (by assumption))
    case y1 => assumption
    case y2 => assumption
    case y3 => assumption
    case y4 => assumption
    case y5 => first | assumption | exact ModRel.fresh' (by assumption) (by assumption) _
    case y6 => first | assumption | exact TS.Ok.fresh (by assumption) _ (strOk_fresh (by assumption))
    case y7 => first | omega | assumption | (rw [TS.fresh_len]; omega)
    case y8 => ktd_rel
  all_goals first | (ktr_rel; done) | skip
  all_goals try rw [beq_self_eq_true]
  all_goals (
    refine' fin _ _ _ _ _ _ _ _ _ _ _ _ _ ?yF ?yN ?y1 ?y2 ?y3 ?y4 ?y5 ?y6 ?y7 ?y8
    case yF => assumption
    case yN => first | assumption | exact news_tail (by assumption) | exact news_tail (news_tail (by assumption))
    case y1 => assumption
    case y2 => assumption
    case y3 => assumption
    case y4 => assumption
    case y5 => first | assumption | exact ModRel.fresh' (by assumption) (by assumption) _
    case y6 => first | assumption | exact TS.Ok.fresh (by assumption) _ (strOk_fresh (by assumption))
    case y7 => first | omega | assumption | (rw [TS.fresh_len]; omega)
    case y8 => ktd_rel)
end

-- the walk's own switch and caches as in a file of its own
theorem switch_13 : True := by
  w_top off
  exact trivial
def StrV (v : Value) (y : Str) : Prop := ∃ t, v = .str y t
def tit (D : List (Int × Str)) (k : Int) : Str := (getP D k).getD (Str.ofString "")
def setP (D : List (Int × Str)) (k : Int) (y : Str) : List (Int × Str) := match getP D k with
  | some _ => D
  | none => putP D k y
theorem titAt {D : List (Int × Str)} {os : List (Int × Value)} (h : PairsAre StrV os D) (k : Int) (tr : Tok) : ∃ t, (valueAt os k).getD (.str (Str.ofString "") tr) = .str (tit D k) t := by
  unfold tit
  cases e : getP D k with
  | none => rw [h.none_of e]; exact ⟨tr, rfl⟩
  | some y =>
    obtain ⟨v, hv, t, rfl⟩ := h.some_of e
    rw [hv]; exact ⟨t, rfl⟩
section
variable {prog : Program} {w : World} {p : Program} {loose : List Str} {mean : ExcName → Option Value} {mg mb : Str → Option Value}
  {x dx t ti oa : Addr} {last : Int} {lt : Tok} {K : Ks} {own news : List (Addr × Obj)} {oo : Obj} {os : List (Int × Value)} {D : List (Int × Str)} {g1 : Obj → List (Addr × Obj)}
theorem titleOf {k : Int} {tk : Tok} (hx : (x, instObj 178 dx) ∈ news) (hdx : (dx, namD t ti oa last lt K) ∈ news) (ho : (ti, oo) ∈ news) (hD : oo.IsDictOf (intKind prog w) os) (lo : (ti == sysModules) = false) (hP : PairsAre StrV os D) :
    Ctr prog w p loose mean mg mb 154 [.ref x, .int k tk] 30 300 news (fun r news' => ∃ tr, r = .str (tit D k) tr ∧ news' = news) := by
  refine Ctr.weak (nam_title_of hx hdx ho hD lo) (fun _ h => h) ?_
  rintro r n₁ ⟨⟨tr, rfl⟩, rfl⟩
  obtain ⟨t', e⟩ := titAt hP k tr
  exact ⟨_, ⟨t', e, rfl⟩, fun _ h => h⟩
theorem titleOf_k {k : Int} {tk : Tok} (hx : (x, instObj 178 dx) ∈ news) (hdx : (dx, namD t ti oa last lt K) ∈ news) (ho : (ti, oo) ∈ news) (hD : oo.IsDictOf (intKind prog w) os) (lo : (ti == sysModules) = false) (hP : PairsAre StrV os D) :
    CtrK prog w p loose mean mg mb 154 [.ref x, .int k tk] 30 300 news (fun Sx => ∀ tr, Sx (.str (tit D k) tr) (news)) :=
  CtrK.of (titleOf hx hdx ho hD lo hP) (by rintro Sx kx rx news1 ⟨tr, e1, e2⟩; subst e1; subst e2; exact kx tr)
theorem setTitle {k : Int} {y : Str} {tk tk2 : Tok} (U1 : UpdF ti oo news g1) (hx : (x, instObj 178 dx) ∈ news) (hdx : (dx, namD t ti oa last lt K) ∈ news) (hne : @Ne Nat x ti ∧ @Ne Nat dx ti) (hD : oo.IsDictOf (intKind prog w) os) (lo : (ti == sysModules) = false) (hP : PairsAre StrV os D) (hl : D.length ≤ 100000) :
    Ctr prog w p loose mean mg mb 147 [.ref x, .int k tk, .str y tk2] 30 300 news (fun r news' => ∃ oo' os', r = .none ∧ news' = g1 oo' ∧ oo'.IsDictOf (intKind prog w) os' ∧ PairsAre StrV os' (setP D k y)) := by
  have hl2 : os.length = D.length := hP.length
  have hl3 : os.length ≤ sizeLine := by rw [sizeLine_eq]; omega
  cases hk : getP D k with
  | none =>
    refine Ctr.weak (nam_set_title0 (k := k) (text := y) (tk := tk) (tk2 := tk2) (oo := oo) (own := offs [ti] news) (offs_off _) (mem_offs.mpr ⟨hx, by simp; exact hne.1⟩) (mem_offs.mpr ⟨hdx, by simp; exact hne.2⟩) hD lo hl3 (hP.none_of hk)) ?_ ?_
    · intro q hq
      rcases List.mem_cons.mp hq with rfl | hq
      · exact updF_self U1
      · exact (mem_offs.mp hq).1
    · rintro r n₁ ⟨oo', rfl, rfl, hd⟩
      refine ⟨_, ⟨oo', _, rfl, rfl, hd, ?_⟩, fun q hq => ?_⟩
      · unfold setP; rw [hk]; exact hP.stored ⟨tk2, rfl⟩
      · rcases updF_mem U1 hq with rfl | h
        · exact .head _
        · exact .tail _ h
  | some z =>
    obtain ⟨v, hv, t', rfl⟩ := hP.some_of hk
    refine Ctr.weak (nam_set_title1 (text := y) (tk := tk) (tk2 := tk2) hx hdx (updF_self U1) hD lo hv) (fun _ h => h) ?_
    rintro r n₁ ⟨rfl, rfl⟩
    refine ⟨_, ⟨oo, os, rfl, rfl, hD, ?_⟩, fun q hq => ?_⟩
    · unfold setP; rw [hk]; exact hP
    · rcases updF_mem U1 hq with rfl | h
      · exact updF_self U1
      · exact (mem_offs.mp h).1
theorem setTitle_k {k : Int} {y : Str} {tk tk2 : Tok} (U1 : UpdF ti oo news g1) (hx : (x, instObj 178 dx) ∈ news) (hdx : (dx, namD t ti oa last lt K) ∈ news) (hne : @Ne Nat x ti ∧ @Ne Nat dx ti) (hD : oo.IsDictOf (intKind prog w) os) (lo : (ti == sysModules) = false) (hP : PairsAre StrV os D) (hl : D.length ≤ 100000) :
    CtrK prog w p loose mean mg mb 147 [.ref x, .int k tk, .str y tk2] 30 300 news (fun Sx => ∀ oo' os', oo'.IsDictOf (intKind prog w) os' → PairsAre StrV os' (setP D k y) → Sx (.none) (g1 oo')) :=
  CtrK.of (setTitle U1 hx hdx hne hD lo hP hl) (by rintro Sx kx rx news1 ⟨oo', os', e1, e2, f0, f1⟩; subst e1; subst e2; exact kx oo' os' f0 f1)
end
section
variable {prog : Program} {w : World} {A : Around} {E : Value → Shared → Prop} {s : Shared} {h₀ : Heap} {L d : Addr} {news : List (Addr × Obj)} {o : Obj} {os : List (Int × Value)} {D : List (Int × Str)}
theorem get_title {k : Int} {tk tr : Tok} {Q : Value → Shared → Prop} (N : News h₀ L s.heap news) (hp : (d, o) ∈ news) (hd : o.IsDictOf (intKind prog w) os) (lo : (d == sysModules) = false) (hP : PairsAre StrV os D)
    (h : ∀ t, Q (.str (tit D k) t) { s with toks := s.toks + 1 }) : wpAny (model prog w) A (call (.builtin "dict.get") [.ref d, .int k tk, .str (Str.ofString "") tr]) Q E s := by
  obtain ⟨t, e⟩ := titAt hP k tr
  exact kdg_get2 (knd := intKind prog w) N hp hd lo (intKind_is _ _ _ _) _ rfl (e ▸ h t)
theorem notin_title {k : Int} {tk : Tok} {Q : Value → Shared → Prop} (N : News h₀ L s.heap news) (hp : (d, o) ∈ news) (hd : o.IsDictOf (intKind prog w) os) (lo : (d == sysModules) = false) (hP : PairsAre StrV os D)
    (h0 : getP D k = none → valueAt os k = none → Q (.bool true) { s with toks := s.toks + 1 }) (h1 : (∀ z, setP D k z = D) → Q (.bool false) { s with toks := s.toks + 1 }) : wpAny (model prog w) A (compareOp .NotIn (.int k tk) (.ref d)) Q E s := by
  cases e : getP D k with
  | none => exact notin_none (knd := intKind prog w) N hp hd lo (intKind_is _ _ _ _) (hP.none_of e) (h0 e (hP.none_of e))
  | some y =>
    obtain ⟨v, hv, t', rfl⟩ := hP.some_of e
    exact notin_some (knd := intKind prog w) N hp hd lo (intKind_is _ _ _ _) hv (h1 fun z => by unfold setP; rw [e])
theorem set_title {k : Int} {tk t : Tok} {y : Str} {m : Str → Option Value} {g : Obj → List (Addr × Obj)} {Q : Unit → Shared → Prop} (F : Fr h₀ L s.heap m) (N : News h₀ L s.heap news) (U : UpdF d o news g) (hd : o.IsDictOf (intKind prog w) os) (hP : PairsAre StrV os D) (hk : getP D k = none) (hsz : os.length ≤ sizeLine)
    (h : ∀ h' o' os', Fr h₀ L h' m → News h₀ L h' (g o') → o'.IsDictOf (intKind prog w) os' → PairsAre StrV os' (setP D k y) → Q () { s with heap := h', toks := s.toks + 1 }) : wpAny (model prog w) A (setItem (.ref d) (.int k tk) (.str y t)) Q E s :=
  kda_set (knd := intKind prog w) F N U hd (intKind_is _ _ _ _) hsz fun h' o' F' N' hd' => h h' o' _ F' N' hd' (by unfold setP; rw [hk]; exact hP.stored ⟨t, rfl⟩)
end
theorem news_sub {h₀ h : Heap} {A : Addr} {l l' : List (Addr × Obj)} (N : News h₀ A h l) (hs : ∀ q ∈ l', q ∈ l) : News h₀ A h l' := fun q hq => N q (hs q hq)
theorem same_refl_strs (ys : List Str) : PySem.Spec.same (.list (ys.map PyData.str)) (.list (ys.map PyData.str)) = true := by
  simp only [PySem.Spec.same]; rw [same_strs]; exact decide_eq_true rfl
section
variable {prog : Program} {w : World} {A : Around} {E : Value → Shared → Prop} {s : Shared} {h₀ : Heap} {L I C : Addr} {m : Str → Option Value} {news all : List (Addr × Obj)}
theorem kct_endL {D : Addr} {s₁ : Shared} {oI oC oD : Obj} {S : List (Addr × Obj) → Prop} {g : Int → Str} {k : Int} {y : Value} {t : Tok} {h' : Heap} {tk : Nat}
    (F : Fr h₀ L h' m) (N : News h₀ L h' all) (sub : ∀ q ∈ (I, oI) :: (C, oC) :: (D, oD) :: news, q ∈ all) (off : LCg.Off3 I C D news) (hS : S news) (e : y = .str (g k) t) :
    LCg.CompEnd h₀ L m s₁ I oI C oC D oD S (fun y news' => KCtEl news (g k) y news') y { s₁ with heap := h', toks := tk } := LCg.CompEnd.intro F N news sub off hS ⟨rfl, t, e⟩
theorem eq_titles {a b : Addr} {xs ys : List Value} {n n' : Nat} {ks : List Int} {f : Int → Str} {Q : Value → Shared → Prop} (N : News h₀ L s.heap news) (ha : (a, listOf xs.toArray n) ∈ news) (hb : (b, listOf ys.toArray n') ∈ news)
    (ca : CarriedAll xs (ks.map fun k => PyData.str (f k))) (cb : CarriedAll ys (ks.map fun k => PyData.str (f k))) (hf : ∀ k, PyData.strOk (f k) = true) (hu : A.units + 64 < cLine) (h : Q (.bool true) s) :
    wpAny (model prog w) A (compareOp .Eq (.ref a) (.ref b)) Q E s := by
  have e : (ks.map fun k => PyData.str (f k)) = (ks.map f).map PyData.str := by simp
  rw [e] at ca cb
  have hok : ∀ y ∈ ks.map f, PyData.strOk y = true := by
    intro y hy
    obtain ⟨k, _, rfl⟩ := List.mem_map.mp hy
    exact hf k
  exact eq_dataH_same (reads_newData (listAt N ha) ca) (reads_newData (listAt N hb) cb) (shaped_strs _ hok) (shaped_strs _ hok) hu (by simp only [SeqAt.noMix]; exact noMix_strs _ _) (by rw [same_refl_strs]; exact h)
end
theorem strOk_tit {D : List (Int × Str)} (h : ∀ q ∈ D, PyData.strOk q.2 = true) (k : Int) : PyData.strOk (tit D k) = true := by
  unfold tit getP
  cases e : D.find? (fun q => decide (q.1 = k)) with
  | none => exact strOk_ofString _
  | some q => exact h q (List.mem_of_find?_eq_some e)
theorem strOk_putP {D : List (Int × Str)} (h : ∀ q ∈ D, PyData.strOk q.2 = true) (k : Int) {y : Str} (hy : PyData.strOk y = true) : ∀ q ∈ putP D k y, PyData.strOk q.2 = true := by
  intro q hq
  unfold putP at hq
  split at hq
  · obtain ⟨p', hp, rfl⟩ := List.mem_map.mp hq
    split
    · exact hy
    · exact h p' hp
  · rcases List.mem_append.mp hq with hq | hq
    · exact h q hq
    · rw [List.mem_singleton.mp hq]; exact hy
theorem strOk_setP {D : List (Int × Str)} (h : ∀ q ∈ D, PyData.strOk q.2 = true) (k : Int) {y : Str} (hy : PyData.strOk y = true) : ∀ q ∈ setP D k y, PyData.strOk q.2 = true := by
  unfold setP
  cases getP D k with
  | none => exact strOk_putP h k hy
  | some _ => exact h
theorem setP_length (D : List (Int × Str)) (k : Int) (y : Str) : (setP D k y).length ≤ D.length + 1 := by
  unfold setP
  cases getP D k with
  | none => exact putP_length D k y
  | some _ => exact Nat.le_succ _
theorem lt_up1 {d : Addr} {l : List (Addr × Obj)} (h : ∀ q ∈ l, q.1 < d) : ∀ q ∈ l, q.1 < d + 1 := fun q hq => Nat.lt_succ_of_lt (h q hq)
theorem lt_up2 {d : Addr} {l : List (Addr × Obj)} (h : ∀ q ∈ l, q.1 < d) : ∀ q ∈ l, q.1 < d + 1 + 1 := lt_up1 (lt_up1 h)
theorem lt_up3 {d : Addr} {l : List (Addr × Obj)} (h : ∀ q ∈ l, q.1 < d) : ∀ q ∈ l, q.1 < d + 1 + 1 + 1 := lt_up1 (lt_up2 h)
theorem sub_ne {c : Addr} {l own : List (Addr × Obj)} (h : ∀ q ∈ l, q.1 < c) (hs : ∀ q ∈ own, q ∈ l) : ∀ q ∈ own, q.1 ≠ c := fun q hq => Nat.ne_of_lt (h q (hs q hq))
--LINES
local macro_rules | `(tactic| k_all) => `(tactic| exact sub_ne (by assumption) (by k_ownIn))
local macro_rules | `(tactic| ktn_open) => `(tactic| (refine' code_defC ?k1 ?k2 ?k3 ?k4 ?k5 ?kA ?kF ?kK ?k6 ?k7 ?k8 ?k9 ?kB ?kD ?_ ?c2 ?c3 ?c4; (case kA => exact rfl); (case kF => exact rfl); (case kK => first | assumption | exact rfl); (case k1 => k_asm); (case k2 => k_asm); (case k3 => k_asm); (case k4 => k_asm); (case k5 => k_asm); (case k6 => k_is); (case k7 => k_is); (case k8 => ktr_room); (case k9 => exact BindsTo.of_eq rfl); (case kB => exact rfl); (case kD => decide +kernel); (case c2 => exact rfl); (case c3 => exact rfl); (case c4 => exact rfl); k_whole; intro g' L' h' tk' cells' FG' F' N' Y' B' X' T' l1; (have l6 := lt_up1 l1); (have l5 := lt_up2 l1); (have l4 := lt_up3 l1); k_cells Y'; (try simp only [List.cons_append, List.nil_append] at N'); (try dsimp only); (try k_fold)))
example : True := by
  k_with "CompSrc" => (k_here; (rename PairsAre StrV _ _ => pX9); k_dflt (refine LCg.CompSrc.range (by rfl) (by k_asm) (by k_asm) (by assumption) (by first | decide | exact small_one (by l_bnd) (by l_bnd) (by l_bnd) (by l_bnd)) (by first | exact rangeSize_nat _ _ | rfl) (by exact Nat.le_of_ble_eq_true rfl) ?_; intro g'; (refine' kct_range _ (fun k' t' I' oI' C' oC' D' m' ys' h' tk' E' hlo' hhi' hC' hx' F' N' off' ne' => ?_) ?_); (all_goals (try (simp only [LCg.Off3, and_true] at off'))); (all_goals (try ((show KPfMark → _); intro hMark'))); kcf_last))
  k_with "CompEnd" => (k_dflt (refine' kct_endL ?ca ?cb ?cc ?cd ?ce ?cf; (case ca => assumption); (case cb => assumption); (case cc => kcf_all); (case cd => first | assumption | (simp only [LCg.Off3, and_true]; done) | (simp only [LCg.Off3, and_true]; assumption)); (case ce => first | lcg_src | assumption); (case cf => rfl)))
  k_with "compareOp Eq ref ref" => (k_here; (rename PairsAre StrV _ _ => pX9); k_dflt (refine' eq_titles ?k1 ?k2 ?k3 ?k4 ?k5 ?k6 ?k7 ?_; (case k1 => k_asm); (case k2 => k_mem); (case k3 => k_mem); (case k4 => with_reducible assumption); (case k5 => first | with_reducible assumption | ((rename (∀ z, setP _ _ z = _) => e9); rw [e9]; with_reducible assumption)); (case k6 => (intro kk9; exact strOk_tit (by first | assumption | exact strOk_setP (by assumption) _ (by assumption)) kk9)); (case k7 => (have hcL9 := cLine_is; (try dsimp only [ktrTop, Around.deeper]); omega))))
  k_with "call ref" => (k_here; (with_reducible show wpAny _ _ (call (Value.ref 154) _) _ _ _); k_dflt (refine' ctrk_use (titleOf_k ?c1 ?c2 ?c3 ?c4 ?c5 ?c6) ?B ?F ?X ?nN ?T ?kk ?dd ?uu ?_; (case nN => k_asm); (case c1 => k_mem); (case c2 => k_mem); (case c3 => k_mem); (case c4 => k_asm); (case c5 => k_asm); (case c6 => assumption); (case B => k_asm); (case F => k_asm); (case X => k_asm); (case T => k_asm); (case kk => first | assumption | exact rfl); (case dd => ktr_room); (case uu => ktr_units)); (try dsimp only); intro tr9 h9 tk9 F9 N9; (try k_sweep); (try dsimp only))
  k_with "call ref" => (k_here; (with_reducible show wpAny _ _ (call (Value.ref 147) _) _ _ _); k_dflt (refine' ctrk_use (setTitle_k ?c1 ?c2 ?c3 ?c4 ?c5 ?c6 ?c7 ?c8) ?B ?F ?X ?nN ?T ?kk ?dd ?uu ?_; (case nN => k_asm); (case c2 => k_mem); (case c3 => k_mem); (case c1 => k_updF); (case c4 => (refine ⟨?_, ?_⟩ <;> first | assumption | k_ne)); (case c5 => k_asm); (case c6 => k_asm); (case c7 => assumption); (case c8 => first | assumption | omega); (case B => k_asm); (case F => k_asm); (case X => k_asm); (case T => k_asm); (case kk => first | assumption | exact rfl); (case dd => ktr_room); (case uu => ktr_units)); (try dsimp only); intro oo9 os9 hd9 hP9 h9 tk9 F9 N9; (try dsimp only at N9); (try k_sweep); (try dsimp only))
  k_with "call builtin:dict.get" => (k_here; k_dflt (refine' get_title ?k1 ?k2 ?k3 ?k4 ?k5 ?_; (case k1 => k_asm); (case k2 => k_mem); (case k3 => k_asm); (case k4 => k_asm); (case k5 => assumption)); intro t9; (try dsimp only))
  k_with "setItem ref int" => (k_here; k_dflt (refine' set_title ?F ?nN ?U ?d ?hp ?hk ?z ?_; (case F => k_asm); (case nN => k_asm); (case U => k_updF); (case d => k_asm); (case hp => assumption); (case hk => assumption); (case z => assumption)); intro h' o' os' F' N' hd' hP'; (try dsimp only at N'); (try k_sweep))
  k_with "compareOp NotIn int ref" => (k_here; k_dflt (refine' notin_title ?k1 ?k2 ?k3 ?k4 ?k5 ?_ ?_; (case k1 => k_asm); (case k2 => k_mem); (case k3 => k_asm); (case k4 => k_asm); (case k5 => assumption)); intro g9; (try (with_reducible intro w9)))
  exact trivial
--END
section
variable {prog : Program} {w : World} {p : Program} {loose : List Str} {mean : ExcName → Option Value} {mg mb : Str → Option Value}
  {pot cells : Addr} {P : Pot} {cs : List Value} {ns : List Int} {nc : Nat}
  {x dx t ti oa : Addr} {last : Int} {lt : Tok} {K : Ks} {own : List (Addr × Obj)} {M Mr Mk Mt Mo : Addr} {oM oti omt : Obj} {lastM : Int} {tlM : Tok} {os ts : List (Int × Value)} {D : List (Int × Str)}
theorem by_titles (hch : (@LT.lt Nat _ pot ti) ∧ (@LT.lt Nat _ ti Mt)) (hoff : OwnOff own [pot, ti, Mt])
    (hc : (cells, listOf cs.toArray nc) ∈ own) (hIc : IntsAre cs ns) (hcl : ns.length ≤ 60) (hP : P.Ok)
    (hx : (x, instObj 178 dx) ∈ own) (hdx : (dx, namD t ti oa last lt K) ∈ own) (hM : (M, oM) ∈ own) (hMD : oM.IsDictOf (strKind prog w) (modK Mr Mk Mt Mo lastM tlM))
    (hti : oti.IsDictOf (intKind prog w) os) (lot : (ti == sysModules) = false) (hos : PairsAre StrV os D) (hmt : omt.IsDictOf (intKind prog w) ts) (lom : (Mt == sysModules) = false) (hts : PairsAre StrV ts D) (hDl : D.length ≤ 90000) (hDo : ∀ q ∈ D, PyData.strOk q.2 = true) :
    Ctr prog w p loose mean mg mb 228 [.ref pot, .ref x, .ref M] 60 600 ((pot, P.obj cells) :: (ti, oti) :: (Mt, omt) :: own)
      (fun r news' => ∃ (P' : Pot) (oti' omt' : Obj) (os' ts' : List (Int × Value)) (D' : List (Int × Str)), r = .bool true ∧ news' = (pot, P'.obj cells) :: (ti, oti') :: (Mt, omt') :: own ∧
        P'.Ok ∧ oti'.IsDictOf (intKind prog w) os' ∧ omt'.IsDictOf (intKind prog w) ts' ∧ PairsAre StrV os' D' ∧ PairsAre StrV ts' D' ∧ D'.length ≤ D.length + 1 ∧ (∀ q ∈ D', PyData.strOk q.2 = true)) := by
  intro dp un gd cn csc a ccd cl outer A₀ base h₀ L m s Q E B F X N Tp hk hd hu hret
  have hasc : AscL [pot, ti, Mt] := ⟨⟨hch.1, hch.2, trivial⟩⟩
  clear hch
  have hn1 : Off _ pot := ⟨hoff _ hc pot (by simp)⟩
  have hn2 : Off _ ti := ⟨hoff _ hx ti (by simp)⟩
  have hn3 : Off _ ti := ⟨hoff _ hdx ti (by simp)⟩
  have hn4 : Off _ Mt := ⟨hoff _ hM Mt (by simp)⟩
  have hl2 : ts.length = D.length := hts.length
  have hl3 : ts.length ≤ sizeLine := by rw [sizeLine_eq]; omega
  have fin : ∀ (P' : Pot) (oti' omt' : Obj) (os' ts' : List (Int × Value)) (D' : List (Int × Str)) (h' : Heap) (tk' : Nat),
      Fr h₀ L h' m → News h₀ L h' ((pot, P'.obj cells) :: (ti, oti') :: (Mt, omt') :: own) →
      P'.Ok → oti'.IsDictOf (intKind prog w) os' → omt'.IsDictOf (intKind prog w) ts' → PairsAre StrV os' D' → PairsAre StrV ts' D' → D'.length ≤ D.length + 1 → (∀ q ∈ D', PyData.strOk q.2 = true) →
      Q (.bool true) { s with heap := h', toks := tk' } :=
    fun P' oti' omt' os' ts' D' h' tk' F' N' e1 e2 e3 e4 e5 e6 e7 => hret _ _ _ _ ⟨P', oti', omt', os', ts', D', rfl, rfl, e1, e2, e3, e4, e5, e6, e7⟩ F' N'
  refine wpAny_call ?_
  k_dflt ktn_open
  k_steps
  · ktr_rel
  · refine' fin _ _ _ _ _ _ _ _ ?yF ?yN ?y1 ?y2 ?y3 ?y4 ?y5 ?y6 ?y7
    case yF => assumption
    case yN => exact news_sub (by assumption) (by k_ownIn)
    case y1 => assumption
    case y2 => assumption
    case y3 => assumption
    case y4 => assumption
    case y5 => assumption
    case y6 => exact setP_length _ _ _
    case y7 => exact strOk_setP (by assumption) _ (by assumption)
  · refine' fin _ _ _ _ _ D _ _ ?yF ?yN ?y1 ?y2 ?y3 ?y4 ?y5 ?y6 ?y7
    case yF => assumption
    case yN => exact news_sub (by assumption) (by k_ownIn)
    case y1 => assumption
    case y2 => assumption
    case y3 => assumption
    case y4 => rename (∀ z, setP _ _ z = _) => e9; rw [← e9]; assumption
    case y5 => assumption
    case y6 => omega
    case y7 => assumption
end

-- the walk's own switch and caches as in a file of its own
theorem switch_14 : True := by
  w_top off
  exact trivial
def IntV (v : Value) (b : Int) : Prop := ∃ t, v = .int b t
def opv (O : List (Int × Int)) (k : Int) : Int := (getP O k).getD (-1)
theorem opAt {O : List (Int × Int)} {os : List (Int × Value)} (h : PairsAre IntV os O) (k : Int) (tr : Tok) : ∃ t, (valueAt os k).getD (.int (-1) tr) = .int (opv O k) t := by
  unfold opv
  cases e : getP O k with
  | none => rw [h.none_of e]; exact ⟨tr, rfl⟩
  | some y =>
    obtain ⟨v, hv, t, rfl⟩ := h.some_of e
    rw [hv]; exact ⟨t, rfl⟩
section
variable {prog : Program} {w : World} {p : Program} {loose : List Str} {mean : ExcName → Option Value} {mg mb : Str → Option Value}
  {x dx t ti oa : Addr} {last : Int} {lt : Tok} {K : Ks} {own news : List (Addr × Obj)} {oo : Obj} {os : List (Int × Value)} {O : List (Int × Int)}
theorem opOf {k : Int} {tk : Tok} (hx : (x, instObj 178 dx) ∈ news) (hdx : (dx, namD t ti oa last lt K) ∈ news) (ho : (oa, oo) ∈ news) (hD : oo.IsDictOf (intKind prog w) os) (lo : (oa == sysModules) = false) (hP : PairsAre IntV os O) :
    Ctr prog w p loose mean mg mb 168 [.ref x, .int k tk] 30 300 news (fun r news' => ∃ tr, r = .int (opv O k) tr ∧ news' = news) := by
  refine Ctr.weak (nam_op_at hx hdx ho hD lo) (fun _ h => h) ?_
  rintro r n₁ ⟨⟨tr, rfl⟩, rfl⟩
  obtain ⟨t', e⟩ := opAt hP k tr
  exact ⟨_, ⟨t', e, rfl⟩, fun _ h => h⟩
theorem opOf_k {k : Int} {tk : Tok} (hx : (x, instObj 178 dx) ∈ news) (hdx : (dx, namD t ti oa last lt K) ∈ news) (ho : (oa, oo) ∈ news) (hD : oo.IsDictOf (intKind prog w) os) (lo : (oa == sysModules) = false) (hP : PairsAre IntV os O) :
    CtrK prog w p loose mean mg mb 168 [.ref x, .int k tk] 30 300 news (fun Sx => ∀ tr, Sx (.int (opv O k) tr) (news)) :=
  CtrK.of (opOf hx hdx ho hD lo hP) (by rintro Sx kx rx news1 ⟨tr, e1, e2⟩; subst e1; subst e2; exact kx tr)
end
section
variable {prog : Program} {w : World} {A : Around} {E : Value → Shared → Prop} {s : Shared} {h₀ : Heap} {L d : Addr} {news : List (Addr × Obj)} {o : Obj} {os : List (Int × Value)} {O : List (Int × Int)}
theorem get_op {k : Int} {tk tr : Tok} {Q : Value → Shared → Prop} (N : News h₀ L s.heap news) (hp : (d, o) ∈ news) (hd : o.IsDictOf (intKind prog w) os) (lo : (d == sysModules) = false) (hP : PairsAre IntV os O)
    (h : ∀ t, Q (.int (opv O k) t) { s with toks := s.toks + 1 }) : wpAny (model prog w) A (call (.builtin "dict.get") [.ref d, .int k tk, .int (-1) tr]) Q E s := by
  obtain ⟨t, e⟩ := opAt hP k tr
  exact kdg_get2 (knd := intKind prog w) N hp hd lo (intKind_is _ _ _ _) _ rfl (e ▸ h t)
end
/-- a mark: the walk is within _law_is_whole -/
structure WholeMark : Prop where
  here : True
def ReadJ (x : Str) (m₀ : Str → Option Value) (news : List (Addr × Obj)) (_i : Nat) (m : Str → Option Value) (nx : List (Addr × Obj)) : Prop := nx = news ∧ ∀ z, z ≠ x → m z = m₀ z
section
variable {prog : Program} {w : World} {A : Around} {E : Value → Shared → Prop} {s : Shared} {env : Env} {h₀ : Heap} {x : Str} {body : List Stmt} {Q : Flow → Shared → Prop}
/-- a loop over a range that changes nothing but its name -/
theorem range_read {r : Addr} {a₀ b₀ : Int} {t₀ u₀ v₀ : Tok} {n : Nat} {m₀ : Str → Option Value} {news : List (Addr × Obj)} (hh : A.handled = none) (hr : IsRange s.heap r a₀ b₀ 1 t₀ u₀ v₀) (hsmall : Builtin.Range.small a₀ b₀ 1 = true) (hn : Builtin.Range.rangeSize a₀ b₀ 1 = (n : Int))
    (F : Fr h₀ env.locals s.heap m₀) (N : News h₀ env.locals s.heap news)
    (turn : ∀ i k t h tk own, a₀ ≤ k → k < a₀ + (n : Int) → TbOff own news → Fr h₀ env.locals h (fun y => if y = x then some (.int k t) else m₀ y) → News h₀ env.locals h (news ++ own) →
      wpAny (model prog w) A (execs body env) (TbPost h₀ env.locals (ReadJ x m₀ news (i + 1)) own { s with heap := h, toks := tk } Q) E { s with heap := h, toks := tk })
    (done : ∀ (u : Str → Option Value) h tk, Fr h₀ env.locals h (fun y => if y = x then u y else m₀ y) → News h₀ env.locals h news → Q .next { s with heap := h, toks := tk }) :
    wpAny (model prog w) A (pyIter (.ref r)) (fun it s₂ => LoopAtV prog w A h₀ env x body Q E it s₂) E s := by
  refine tbr_invG (ReadJ x m₀ news) hh hr hsmall hn F N ⟨rfl, fun _ _ => rfl⟩ ?_ ?_
  · rintro i k t m₁ nx h tk own hk hoff ⟨rfl, hm⟩ F₁ N₁
    have e : (fun y => if y = x then some (Value.int k t) else m₁ y) = fun y => if y = x then some (Value.int k t) else m₀ y := by
      funext y
      by_cases h1 : y = x
      · simp [h1]
      · simp only [if_neg h1]; exact hm y h1
    rw [e] at F₁
    have hkm := mem_rangeKs (List.mem_of_getElem? hk)
    exact turn i k t h tk own hkm.1 hkm.2 hoff F₁ N₁
  · rintro m₁ nx h tk ⟨rfl, hm⟩ F₁ N₁
    refine done m₁ h tk ?_ N₁
    have e : (fun y => if y = x then m₁ y else m₀ y) = m₁ := by
      funext y
      by_cases h1 : y = x
      · simp [h1]
      · simp only [if_neg h1]; exact (hm y h1).symm
    rw [e]; exact F₁
theorem read_end {L : Addr} {m₀ : Str → Option Value} {v : Value} {news own all : List (Addr × Obj)} {i : Nat} {s₁ : Shared} {h' : Heap} {tk : Nat} (F : Fr h₀ L h' (fun y => if y = x then some v else m₀ y)) (N : News h₀ L h' all) (hn : ∀ q ∈ news, q ∈ all) (ho : ∀ q ∈ own, q ∈ all) (hoff : TbOff own news) :
    TbEnd h₀ L (ReadJ x m₀ news i) own s₁ { s₁ with heap := h', toks := tk } :=
  ⟨h', tk, _, all, news, rfl, F, N, hn, ho, hoff, rfl, fun z hz => by simp [hz]⟩
end
theorem app_l {a b : List (Addr × Obj)} : ∀ q ∈ a, q ∈ a ++ b := fun _ h => List.mem_append.mpr (.inl h)
theorem app_r {a b : List (Addr × Obj)} : ∀ q ∈ b, q ∈ a ++ b := fun _ h => List.mem_append.mpr (.inr h)
--LINES
local macro_rules | `(tactic| k_ownIn) => `(tactic| (intro q9 hq9; refine List.mem_append.mpr (.inl ?_); (repeat (first | exact hq9 | refine List.Mem.tail _ ?_)); done))
example : True := by
  k_with "exec For Name Call cons nil" => (k_here; (rename WholeMark => mk9); (rename Fr _ _ _ _ => lF'); (with_unfolding_all refine' For_invVF lF' ?k1 ?k2 ?_; (case k1 => exact rfl); (case k2 => exact rfl); k_whole))
  k_with "pyIter ref" => (k_here; (rename WholeMark => mk9); k_dflt (refine' range_read ?k1 ?k2 ?k3 ?k4 ?k5 ?k6 (fun i' k' t' h' tk' own' hlo' hhi' hoff' F' N' => ?_) (fun u' h' tk' F' N' => ?_); (case k1 => rfl); (case k2 => assumption); (case k3 => exact small_one (by l_bnd) (by l_bnd) (by l_bnd) (by l_bnd)); (case k4 => exact rangeSize_nat _ _); (case k5 => k_asm); (case k6 => k_asm)); (try dsimp only))
  k_with "TbEnd" => ((rename WholeMark => mk9); k_dflt (refine' read_end ?k1 ?k2 ?k3 ?k4 ?k5; (case k1 => assumption); (case k2 => assumption); (case k3 => exact app_l); (case k4 => exact app_r); (case k5 => assumption)))
  k_with "call ref" => (k_here; (with_reducible show wpAny _ _ (call (Value.ref 168) _) _ _ _); k_dflt (refine' ctrk_use (opOf_k ?c1 ?c2 ?c3 ?c4 ?c5 ?c6) ?B ?F ?X ?nN ?T ?kk ?dd ?uu ?_; (case nN => k_asm); (case c1 => k_mem); (case c2 => k_mem); (case c3 => k_mem); (case c4 => k_asm); (case c5 => k_asm); (case c6 => assumption); (case B => k_asm); (case F => k_asm); (case X => k_asm); (case T => k_asm); (case kk => first | assumption | exact rfl); (case dd => ktr_room); (case uu => ktr_units)); (try dsimp only); intro tr9 h9 tk9 F9 N9; (try k_sweep); (try dsimp only))
  k_with "call ref" => (k_here; (with_reducible show wpAny _ _ (call (Value.ref 91) _) _ _ _); k_dflt (refine' ctr_use (tab_size ?c1 ?c2 ?c3 ?c4) ?B ?F ?X ?nN ?T ?kk ?dd ?uu ?_; (case nN => k_asm); (case c1 => k_mem); (case c2 => k_mem); (case c3 => k_mem); (case c4 => first | assumption | omega); (case B => k_asm); (case F => k_asm); (case X => k_asm); (case T => k_asm); (case kk => first | assumption | exact rfl); (case dd => ktr_room); (case uu => ktr_units)); rintro r9 n9 h9 tk9 ⟨⟨tr9, e9⟩, e9'⟩ F9 N9; subst e9; subst e9'; (try k_sweep); (try dsimp only))
  k_with "call builtin:dict.get" => (k_here; k_dflt (refine' get_op ?k1 ?k2 ?k3 ?k4 ?k5 ?_; (case k1 => k_asm); (case k2 => k_mem); (case k3 => k_asm); (case k4 => k_asm); (case k5 => assumption)); intro t9; (try dsimp only))
  exact trivial
--END
section
variable {prog : Program} {w : World} {p : Program} {loose : List Str} {mean : ExcName → Option Value} {mg mb : Str → Option Value}
  {x dx ti oa : Addr} {last : Int} {lt : Tok} {K : Ks}
  {t dt rw bt : Addr} {h1 h2 : Int} {k1 k2 : Tok} {n nr : Nat} {own : List (Addr × Obj)} {ob oo omo : Obj} {kvs : List (Str × Value)} {vs : List Value}
  {M Mr Mk Mt Mo : Addr} {oM ok : Obj} {tlM : Tok} {mvs : List Value} {nm : Nat} {kvm : List (Str × Value)} {T : TS} {os ms : List (Int × Value)} {O : List (Int × Int)}
theorem is_whole
    (hx : (x, instObj 178 dx) ∈ own) (hdx : (dx, namD t ti oa last lt K) ∈ own) (ht : (t, instObj 94 dt) ∈ own) (hdt : (dt, tabD rw bt h1 h2 k1 k2 n) ∈ own) (hrw : (rw, listOf vs.toArray nr) ∈ own) (hbt : (bt, ob) ∈ own) (hoa : (oa, oo) ∈ own) (hMr : (Mr, listOf mvs.toArray nm) ∈ own) (hMk : (Mk, ok) ∈ own) (hMoo : (Mo, omo) ∈ own)
    (hD : ob.IsDictOf (strKind prog w) kvs) (lo : (bt == sysModules) = false)
    (hM : (M, oM) ∈ own) (hMD : oM.IsDictOf (strKind prog w) (modK Mr Mk Mt Mo last tlM)) (hKD : ok.IsDictOf (strKind prog w) kvm) (loK : (Mk == sysModules) = false)
    (hoo : oo.IsDictOf (intKind prog w) os) (loo : (oa == sysModules) = false) (hos : PairsAre IntV os O) (hmo : omo.IsDictOf (intKind prog w) ms) (lomo : (Mo == sysModules) = false) (hms : PairsAre IntV ms O)
    (hI : ImpRel T vs kvs own) (hMo : ModRel T mvs kvm) (hT : T.Ok) (hlen : T.rows.length ≤ 90000) :
    Ctr prog w p loose mean mg mb 245 [.ref x, .ref M] 60 600 own (fun r news' => r = .bool true ∧ news' = own) := by
  intro dp un gd cn csc a ccd cl outer A₀ base h₀ L m s Q E B F X N Tp hk hd hu hret
  have hml : mvs.length = T.rows.length := strs_len hMo.1
  have hvl : vs.length = T.rows.length := hI.1
  have hml2 : mvs.length ≤ 100000 := by omega
  have mk9 : WholeMark := ⟨trivial⟩
  refine wpAny_call ?_
  k_dflt ktn_open
  k_steps
  · ktr_rel
  · ktr_rel
  · refine hret _ _ _ _ ⟨rfl, rfl⟩ (by assumption) ?_
    exact news_sub (by assumption) (by k_ownIn)
end

-- the walk's own switch and caches as in a file of its own
theorem switch_15 : True := by
  w_top off
  exact trivial
section
variable {prog : Program} {w : World} {p : Program} {loose : List Str} {mean : ExcName → Option Value} {mg mb : Str → Option Value} {news : List (Addr × Obj)}
theorem mk_names : Ctr prog w p loose mean mg mb 178 [] 60 600 news (fun r news' => ∃ (x dx t dt rw bt ti oa : Addr) (ob oti oo : Obj) (lt : Tok) (K : Ks) (h1 h2 : Int) (k1 k2 : Tok) (n nr : Nat), r = .ref x ∧
    news' = (oa, oo) :: (ti, oti) :: (bt, ob) :: (rw, listOf ([] : List Value).toArray nr) :: (t, instObj 94 dt) :: (dt, tabD rw bt h1 h2 k1 k2 n) :: (x, instObj 178 dx) :: (dx, namD t ti oa 0 lt K) :: news ∧
    ob.IsDictOf (strKind prog w) [] ∧ oti.IsDictOf (intKind prog w) [] ∧ oo.IsDictOf (intKind prog w) [] ∧ (bt == sysModules) = false ∧ (ti == sysModules) = false ∧ (oa == sysModules) = false ∧
    AllLt dx news ∧ @LT.lt Nat _ dx x ∧ @LT.lt Nat _ x dt ∧ @LT.lt Nat _ dt t ∧ @LT.lt Nat _ t rw ∧ @LT.lt Nat _ rw bt ∧ @LT.lt Nat _ bt ti ∧ @LT.lt Nat _ ti oa) := by
  intro dp un gd cn csc a ccd cl outer A₀ base h₀ L m s Q E B F X N T hk hd hu hret
  k_steps
  refine hret _ _ _ _ ?_ (by assumption) (by assumption)
  refine ⟨_, _, _, _, _, _, _, _, _, _, _, _, ⟨_, _, _, _, _, _, _, _, _, _, _⟩, _, _, _, _, _, _, rfl, rfl, ?_, ?_, ?_, ?_, ?_, ?_, ?_, ?_, ?_, ?_, ?_, ?_, ?_, ?_⟩
  all_goals first | assumption | (refine ltN ?_; omega) | exact allLt_of (by assumption)
theorem mk_names_k :
    CtrK prog w p loose mean mg mb 178 [] 60 600 news (fun Sx => ∀ (x dx t dt rw bt ti oa : Addr) (ob oti oo : Obj) (lt : Tok) (K : Ks) (h1 h2 : Int) (k1 k2 : Tok) (n nr : Nat), ob.IsDictOf (strKind prog w) [] → oti.IsDictOf (intKind prog w) [] → oo.IsDictOf (intKind prog w) [] → (bt == sysModules) = false → (ti == sysModules) = false → (oa == sysModules) = false → AllLt dx news → @LT.lt Nat _ dx x → @LT.lt Nat _ x dt → @LT.lt Nat _ dt t → @LT.lt Nat _ t rw → @LT.lt Nat _ rw bt → @LT.lt Nat _ bt ti → @LT.lt Nat _ ti oa → Sx (.ref x) ((oa, oo) :: (ti, oti) :: (bt, ob) :: (rw, listOf ([] : List Value).toArray nr) :: (t, instObj 94 dt) :: (dt, tabD rw bt h1 h2 k1 k2 n) :: (x, instObj 178 dx) :: (dx, namD t ti oa 0 lt K) :: news)) :=
  CtrK.of (mk_names ) (by rintro Sx kx rx news1 ⟨x, dx, t, dt, rw, bt, ti, oa, ob, oti, oo, lt, K, h1, h2, k1, k2, n, nr, e1, e2, f0, f1, f2, f3, f4, f5, f6, f7, f8, f9, f10, f11, f12, f13⟩; subst e1; subst e2; exact kx x dx t dt rw bt ti oa ob oti oo lt K h1 h2 k1 k2 n nr f0 f1 f2 f3 f4 f5 f6 f7 f8 f9 f10 f11 f12 f13)
theorem mk_model : Ctr prog w p loose mean mg mb 202 [] 60 600 news (fun r news' => ∃ (M Mr Mk Mt Mo : Addr) (oM ok omt omo : Obj) (tl : Tok) (nm : Nat), r = .ref M ∧
    news' = (Mo, omo) :: (Mt, omt) :: (Mk, ok) :: (Mr, listOf ([] : List Value).toArray nm) :: (M, oM) :: news ∧
    oM.IsDictOf (strKind prog w) (modK Mr Mk Mt Mo 0 tl) ∧ ok.IsDictOf (strKind prog w) [] ∧ omt.IsDictOf (intKind prog w) [] ∧ omo.IsDictOf (intKind prog w) [] ∧ (Mk == sysModules) = false ∧ (Mt == sysModules) = false ∧ (Mo == sysModules) = false ∧
    AllLt M news ∧ @LT.lt Nat _ M Mr ∧ @LT.lt Nat _ Mr Mk ∧ @LT.lt Nat _ Mk Mt ∧ @LT.lt Nat _ Mt Mo) := by
  intro dp un gd cn csc a ccd cl outer A₀ base h₀ L m s Q E B F X N T hk hd hu hret
  refine wpAny_call ?_
  k_dflt ktr_enter
  k_steps
  refine hret _ _ _ _ ?_ (by assumption) (by assumption)
  refine' ⟨_, _, _, _, _, _, _, _, _, _, _, rfl, rfl, ?zM, ?_, ?_, ?_, ?_, ?_, ?_, ?_, ?_, ?_, ?_, ?_⟩
  case zM => with_unfolding_all assumption
  all_goals first | assumption | (refine ltN ?_; omega) | exact allLt_of (by assumption)
theorem mk_model_k :
    CtrK prog w p loose mean mg mb 202 [] 60 600 news (fun Sx => ∀ (M Mr Mk Mt Mo : Addr) (oM ok omt omo : Obj) (tl : Tok) (nm : Nat), oM.IsDictOf (strKind prog w) (modK Mr Mk Mt Mo 0 tl) → ok.IsDictOf (strKind prog w) [] → omt.IsDictOf (intKind prog w) [] → omo.IsDictOf (intKind prog w) [] → (Mk == sysModules) = false → (Mt == sysModules) = false → (Mo == sysModules) = false → AllLt M news → @LT.lt Nat _ M Mr → @LT.lt Nat _ Mr Mk → @LT.lt Nat _ Mk Mt → @LT.lt Nat _ Mt Mo → Sx (.ref M) ((Mo, omo) :: (Mt, omt) :: (Mk, ok) :: (Mr, listOf ([] : List Value).toArray nm) :: (M, oM) :: news)) :=
  CtrK.of (mk_model ) (by rintro Sx kx rx news1 ⟨M, Mr, Mk, Mt, Mo, oM, ok, omt, omo, tl, nm, e1, e2, f0, f1, f2, f3, f4, f5, f6, f7, f8, f9, f10, f11⟩; subst e1; subst e2; exact kx M Mr Mk Mt Mo oM ok omt omo tl nm f0 f1 f2 f3 f4 f5 f6 f7 f8 f9 f10 f11)
end

-- the walk's own switch and caches as in a file of its own
theorem switch_16 : True := by
  w_top off
  exact trivial
section
variable {prog : Program} {w : World} {A : Around} {E : Value → Shared → Prop} {s : Shared} {h₀ : Heap} {L : Addr} {m : Str → Option Value} {env : Env}
/-- a row of primitives: the text, its turn and 1 -/
abbrev rowT (v : Value) (i : Nat) (t t' : Tok) : Obj := { cls := .type "tuple", dict := none, data := .seq [v, .int (i : Int) t, .int 1 t'].toArray }
theorem elt_row {m₂ : Str → Option Value} {a b : Str} {pa pb pc pt : Pos} {k1 k2 : Nat} {v x : Value} {scope : Scope} {cl : List (Str × Addr)} {C : Addr} {Q : Value → Shared → Prop} (hn : s.heap.Ns (compEnvC scope cl C env).locals m₂) (hb : m₂ b = some v) (ha : m₂ a = some x)
    (hk : (compEnvC scope cl C env).scope.kind = .function) (hlb : (compEnvC scope cl C env).kindOf b = some .local) (hla : (compEnvC scope cl C env).kindOf a = some .local) (hdb : (b == ("__debug__" : Str)) = false) (hda : (a == ("__debug__" : Str)) = false)
    (h : Q (.ref s.heap.objs.size) { s with heap := s.heap.push { cls := .type "tuple", dict := none, data := .seq [v, x, .int 1 s.toks].toArray }, toks := s.toks + 1 }) : wpAny (model prog w) A (eval (.Tuple [.Name b pb, .Name a pa, .Constant (.int 1) k1 pc] k2 pt) (compEnvC scope cl C env)) Q E s := by
  refine wpAny_Tuple ?_
  refine spliced_more (ldVarK hn hb ?_ hk hlb hdb)
  refine spliced_more (ldVarK hn ha ?_ hk hla hda)
  refine spliced_more ?_
  refine wpAny_Constant_int ?_
  exact spliced_none ⟨by simp [sizeLine_eq], h⟩
/-- what is left of the comprehension, from turn i on -/
noncomputable def EnRest (Fin : List Value → List (Addr × Obj) → Prop) : Nat → List Value → List Value → List (Addr × Obj) → Prop
  | _, [], ys, nw => Fin ys nw
  | i, v :: r, ys, nw => ∀ (T : Addr) (t t' : Tok), LCg.Off1 T nw → EnRest Fin (i + 1) r (ys ++ [.ref T]) ((T, rowT v i t t') :: nw)
theorem EnRest.nil {Fin : List Value → List (Addr × Obj) → Prop} {i : Nat} {ys : List Value} {nw : List (Addr × Obj)} (h : Fin ys nw) : EnRest Fin i [] ys nw := h
theorem EnRest.cons {Fin : List Value → List (Addr × Obj) → Prop} {i : Nat} {v : Value} {r ys : List Value} {nw : List (Addr × Obj)} (h : ∀ (T : Addr) (t t' : Tok), LCg.Off1 T nw → EnRest Fin (i + 1) r (ys ++ [.ref T]) ((T, rowT v i t t') :: nw)) : EnRest Fin i (v :: r) ys nw := h
theorem off1_of {D : Addr} : ∀ {l : List (Addr × Obj)}, (∀ p ∈ l, p.1 ≠ D) → LCg.Off1 D l
  | [], _ => trivial
  | _ :: _, h => ⟨h _ List.mem_cons_self, off1_of fun p hp => h p (List.mem_cons_of_mem _ hp)⟩
/-- the source: an enumerate object over a list of the ledger -/
def EnSrc (prog : Program) (w : World) (A : Around) (h₀ : Heap) (L : Addr) (m : Str → Option Value) (Fin : Shared → List Value → List (Addr × Obj) → Prop) (xv : Value) (s₁ : Shared) : Prop :=
  ∃ (e it l : Addr) (vs : List Value) (news : List (Addr × Obj)), xv = .ref e ∧ A.handled = none ∧ e ≠ it ∧ l ≠ e ∧ l ≠ it ∧ it ≠ L ∧ e ≠ L ∧ h₀.get? e = none ∧ h₀.get? it = none ∧ (∀ p ∈ news, p.1 ≠ e ∧ p.1 ≠ it) ∧ l < s₁.heap.objs.size ∧
    Fr h₀ L s₁.heap m ∧ News h₀ L s₁.heap news ∧ IsEnum s₁.heap e it 0 .none ∧ s₁.heap.IsListIter it l 0 ∧ s₁.heap.IsList l vs.toArray ∧ (∃ ol, (l, ol) ∈ news ∧ ol.cls = .type "list" ∧ ∃ n, ol.data = .seq vs.toArray n) ∧ vs.length ≤ sizeLine ∧
    ∀ g : Heap, EnRest (Fin { s₁ with heap := g }) 0 vs [] news
theorem en_block {iter : PySem.Expr} {a b : Str} {pa pb tp pa' pb' pc pt : Pos} {kk k1 k2 : Nat} {scope : Scope} {cl : List (Str × Addr)} {pos : Pos} {s₂ : Shared} {e it l : Addr} {vs : List Value} {news : List (Addr × Obj)}
    {Fin : List Value → List (Addr × Obj) → Prop} {RR : Value → Addr → Result → Shared → Prop}
    (hh : A.handled = none) (hei : e ≠ it) (hle : l ≠ e) (hli : l ≠ it) (hiL : it ≠ L) (heL : e ≠ L) (he₀ : h₀.get? e = none) (hi₀ : h₀.get? it = none) (off : ∀ p ∈ news, p.1 ≠ e ∧ p.1 ≠ it) (hll : l < s₂.heap.objs.size)
    (F : Fr h₀ L s₂.heap m) (N : News h₀ L s₂.heap news) (hE : IsEnum s₂.heap e it 0 .none) (hI : s₂.heap.IsListIter it l 0) (hsz : vs.length ≤ sizeLine)
    (hL : ∃ ol, (l, ol) ∈ news ∧ ol.cls = .type "list" ∧ ∃ n, ol.data = .seq vs.toArray n)
    (hcell : ∀ y ∈ scope.names, y.2 ≠ .cell) (hkind : scope.kind = .function) (hxa : scope.names.lookup a = some .local) (hxb : scope.names.lookup b = some .local) (hab : ¬ a = b) (hda : (a == ("__debug__" : Str)) = false) (hdb : (b == ("__debug__" : Str)) = false)
    (R : EnRest Fin 0 vs [] news)
    (hRR : ∀ D C h tk m' ys news', Fr h₀ L h m → News h₀ L h ((D, LCg.lst ys) :: news') → LCg.Off1 D news' → h.Ns C m' → h₀.get? C = none → h₀.get? D = none → C ≠ L → D ≠ L → C ≠ D → (∀ p ∈ news', p.1 ≠ C) → Fin ys news' → RR (.ref D) C (.ok .next) { s₂ with heap := h, toks := tk }) :
    wpAny (model prog w) A (newList []) (fun acc s₃ => wpAny (model prog w) A (newFunctionEnv scope env.globals cl [] env.qual none .none (some env)) (fun cenv s₄ =>
      codeAny (model prog w) A (.compStart (.ListComp (.Tuple [.Name b pb', .Name a pa', .Constant (.int 1) k1 pc] k2 pt) [⟨.Tuple [.Name a pa, .Name b pb] kk tp, iter, [], 0⟩] scope pos) 0 (.ref e) acc { cenv with scope := relabel scope env }) (RR acc cenv.locals) s₄) E s₃) E s₂ := by
  refine wpAny_newObj_type (wpAny_newFunctionEnv hcell (by intro y hy; simp at hy) (fun h₁ hns₁ hsb₁ => ?_) hkind)
  dsimp only at hns₁ hsb₁ ⊢
  generalize hH2 : s₂.heap.push { cls := .type "list", dict := none, data := .seq ([] : List Value).toArray } = H2 at hns₁ hsb₁ ⊢
  have hC : H2.objs.size = s₂.heap.objs.size + 1 := by rw [← hH2, Heap.size_push]
  have hDC : s₂.heap.objs.size ≠ H2.objs.size := by rw [hC]; exact Nat.ne_of_lt (Nat.lt_succ_self _)
  have below : ∀ b, b < s₂.heap.objs.size → b ≠ H2.objs.size ∧ b ≠ s₂.heap.objs.size := fun b hb => ⟨by rw [hC]; exact Nat.ne_of_lt (Nat.lt_succ_of_lt hb), Nat.ne_of_lt hb⟩
  have helt : e < s₂.heap.objs.size := Heap.lt_size hE
  have hilt : it < s₂.heap.objs.size := by obtain ⟨_, x, _⟩ := hI; exact Heap.lt_size x
  have old : ∀ b o, s₂.heap.get? b = some o → h₁.get? b = some o := fun b o e => hsb₁.extBut b o (below b (Heap.lt_size e)).1 (Heap.get?_push_of_some _ (hH2 ▸ Heap.get?_push_of_some _ e))
  have hacc : h₁.get? s₂.heap.objs.size = some (LCg.lst []) := hsb₁.extBut _ _ hDC (Heap.get?_push_of_some _ (hH2 ▸ Heap.get?_push_size _ rfl))
  have fresh : ∀ a, s₂.heap.objs.size ≤ a → s₂.heap.get? a = none := fun a ha => by
    cases e : s₂.heap.get? a with
    | none => rfl
    | some o' => exact absurd (Heap.lt_size e) (Nat.not_lt.mpr ha)
  have fresh₀ : ∀ a, s₂.heap.objs.size ≤ a → h₀.get? a = none := fun a ha => by
    cases e : h₀.get? a with
    | none => rfl
    | some o' => have := F.keep a o' e; rw [fresh a ha] at this; cases this
  have hD₀ : h₀.get? s₂.heap.objs.size = none := fresh₀ _ (Nat.le_refl _)
  have hC₀ : h₀.get? H2.objs.size = none := fresh₀ _ (by rw [hC]; exact Nat.le_succ _)
  have hLlt : L < s₂.heap.objs.size := F.ns.lt
  have hDL : s₂.heap.objs.size ≠ L := Ne.symm (below L hLlt).2
  have hCL : H2.objs.size ≠ L := Ne.symm (below L hLlt).1
  have hCe : H2.objs.size ≠ e := Ne.symm (below e helt).1
  have hCi : H2.objs.size ≠ it := Ne.symm (below it hilt).1
  have hDe : s₂.heap.objs.size ≠ e := Ne.symm (below e helt).2
  have hDi : s₂.heap.objs.size ≠ it := Ne.symm (below it hilt).2
  have hlC : l ≠ H2.objs.size := (below l hll).1
  have hlD : l ≠ s₂.heap.objs.size := (below l hll).2
  have W := WalksT.enumerate (prog := prog) (w := w) (A := A) hh e it l hei hle hli vs.toArray
  have lists : ∀ h nw, News h₀ L h nw → (∃ ol, (l, ol) ∈ nw ∧ ol.cls = .type "list" ∧ ∃ n, ol.data = .seq vs.toArray n) → h.IsList l vs.toArray := fun h nw N' ⟨ol, hm, hc, n, hd⟩ => ⟨ol, (N' _ hm).1, hc, n, hd⟩
  have loop : ∀ s₃ : Shared, s₃ = { s₂ with heap := h₁, toks := s₂.toks + ([] : List (Str × Value)).length } →
      codeAny (model prog w) A (.compLoop (.ListComp (.Tuple [.Name b pb', .Name a pa', .Constant (.int 1) k1 pc] k2 pt) [⟨.Tuple [.Name a pa, .Name b pb] kk tp, iter, [], 0⟩] scope pos) 0 (.ref e) (.ref s₂.heap.objs.size) (compEnvC scope cl H2.objs.size env))
        (RR (.ref s₂.heap.objs.size) H2.objs.size) s₃ := by
    rintro s₃ rfl
    refine kcp_loop
      (fun k s' => ∃ h' tk i ys m' news', s' = { s₂ with heap := h', toks := tk } ∧ i ≤ vs.length ∧ k = vs.length + 1 - i ∧ ys.length = i ∧ (∃ old, IsEnum h' e it i old) ∧ h'.IsListIter it l i ∧ Fr h₀ L h' m ∧ h'.Ns H2.objs.size m' ∧
        News h₀ L h' ((s₂.heap.objs.size, LCg.lst ys) :: news') ∧ (∀ p ∈ news', p.1 ≠ e ∧ p.1 ≠ it ∧ p.1 ≠ H2.objs.size ∧ p.1 ≠ s₂.heap.objs.size) ∧ (∃ ol, (l, ol) ∈ news' ∧ ol.cls = .type "list" ∧ ∃ n, ol.data = .seq vs.toArray n) ∧ EnRest Fin i (vs.drop i) ys news') ?_ (vs.length + 1)
      ⟨h₁, _, 0, [], _, news, rfl, Nat.zero_le _, rfl, rfl, ⟨_, old _ _ hE⟩, hI.at fun o x => old it o x, F.keeps old, hns₁, fun p hp => ?_, fun p hp => ⟨(off p hp).1, (off p hp).2, (below _ (Heap.lt_size (N p hp).1)).1, (below _ (Heap.lt_size (N p hp).1)).2⟩, hL, by rw [List.drop_zero]; exact R⟩
    · rintro k s' ⟨h', tk, i, ys, m', news', rfl, hi, rfl, hyl, hE', hI', F', hn', N', off', hL', R'⟩
      have hl' : h'.IsList l vs.toArray := lists _ _ (fun p hp => N' p (List.mem_cons_of_mem _ hp)) hL'
      by_cases hlt : i < vs.length
      · refine W.item i _ _ _ (by simpa using hlt) ⟨hE', hI', hl'⟩ fun T vals h₂ tk₂ hP hTs hT hMd hk₂ => ?_
        obtain ⟨t, x, hx, rfl⟩ := hP
        have hTw := W.apart _ _ _ hMd
        refine W.go _ _ _ i T _ _ _ hMd fun h₃ hst₃ hk₃ => ?_
        obtain ⟨hE₃, hI₃, hl₃⟩ := hst₃
        have hT₃ : h₃.IsTuple T #[.int i t, x] := hT.at fun o y => hk₃ T o hTw y
        have up₃ : ∀ c o, c ≠ e → c ≠ it → h'.get? c = some o → h₃.get? c = some o := fun c o h1 h2 y => hk₃ c o (by simp [h1, h2]) (hk₂ c o (by simp [h1, h2]) y)
        refine kcp_assign (env := compEnvC scope cl H2.objs.size env) hh hT₃ (lookup_relabel_local hxa) (lookup_relabel_local hxb) (by simp [compEnvC, relabel, hkind]) (hn'.at' fun o y => up₃ _ o hCe hCi y) fun h₄ tk₄ hn₄ hs₄ => ?_
        have up : ∀ c o, c ≠ e → c ≠ it → c ≠ H2.objs.size → h'.get? c = some o → h₄.get? c = some o := fun c o h1 h2 h3 y => hs₄ c o h3 (up₃ c o h1 h2 y)
        refine elt_row (v := x) (x := .int (i : Int) t) hn₄ (by simp) (by simp [hab]) (by simp [compEnvC, relabel, hkind]) (lookup_relabel_local hxb) (lookup_relabel_local hxa) hdb hda ?_
        dsimp only
        have F₄ : Fr h₀ L h₄ m := ⟨F'.ns.at' fun o y => up _ o (Ne.symm heL) (Ne.symm hiL) (Ne.symm hCL) y, fun c o y => up c o (fun q => by rw [q, he₀] at y; cases y) (fun q => by rw [q, hi₀] at y; cases y) (fun q => by rw [q, hC₀] at y; cases y) (F'.keep c o y), F'.above⟩
        have N₄ : News h₀ L h₄ ((s₂.heap.objs.size, LCg.lst ys) :: news') := fun q hq => by
          have z := N' q hq
          rcases List.mem_cons.mp hq with rfl | hq
          · exact ⟨up _ _ hDe hDi hDC z.1, z.2⟩
          · exact ⟨up _ _ (off' q hq).1 (off' q hq).2.1 (off' q hq).2.2.1 z.1, z.2⟩
        have hlt₄ : ∀ p ∈ (s₂.heap.objs.size, LCg.lst ys) :: news', p.1 < h₄.objs.size := fun p hp => Heap.lt_size (N₄ p hp).1
        obtain ⟨old₃, hE₃⟩ := hE₃
        have hE₄ : IsEnum h₄ e it ((i + 1 : Nat) : Int) old₃ := hs₄ e _ (Ne.symm hCe) hE₃
        have hI₄ : h₄.IsListIter it l (i + 1) := hI₃.at fun o y => hs₄ it o (Ne.symm hCi) y
        have hn₄' : h₄.objs.size ≠ e := Nat.ne_of_gt (Heap.lt_size hE₄)
        have hi₄' : h₄.objs.size ≠ it := by obtain ⟨_, y, _⟩ := hI₄; exact Nat.ne_of_gt (Heap.lt_size y)
        have hC₄' : h₄.objs.size ≠ H2.objs.size := Nat.ne_of_gt hn₄.lt
        have hL₄ : L < h₄.objs.size := F₄.ns.lt
        have hx' : vs[i]? = some x := by simpa using hx
        have hdrop : vs.drop i = x :: vs.drop (i + 1) := by
          rw [List.drop_eq_getElem_cons hlt]
          congr 1
          exact Option.some.inj ((List.getElem?_eq_getElem hlt).symm.trans hx')
        rw [hdrop] at R'
        have zD := (N₄ _ List.mem_cons_self).1
        have zD' := Heap.get?_push_of_some ({ cls := .type "tuple", dict := none, data := .seq [x, .int (i : Int) t, .int 1 tk₄].toArray } : Obj) zD
        refine append_at (hsz := by show ys.toArray.size ≤ sizeLine; rw [List.size_toArray, hyl]; exact Nat.le_trans hi hsz) zD' fun h₆ hs₆ hD₆ => ?_
        have up₆ : ∀ c o, c ≠ s₂.heap.objs.size → h₄.get? c = some o → h₆.get? c = some o := fun c o h1 y => hs₆.extBut c o h1 (Heap.get?_push_of_some _ y)
        have hzD : h₄.objs.size ≠ s₂.heap.objs.size := Nat.ne_of_gt (hlt₄ _ List.mem_cons_self)
        refine ⟨vs.length + 1 - (i + 1), by omega, h₆, _, i + 1, ys ++ [.ref h₄.objs.size], _, (h₄.objs.size, rowT x i t tk₄) :: news', rfl, hlt, rfl, by rw [List.length_append, List.length_singleton, hyl], ⟨_, up₆ _ _ (Ne.symm hDe) hE₄⟩, hI₄.at fun o y => up₆ it o (Ne.symm hDi) y,
          ⟨F₄.ns.at' fun o y => up₆ _ o (Ne.symm hDL) y, fun c o y => up₆ c o (fun q => by rw [q, hD₀] at y; cases y) (F₄.keep c o y), F₄.above⟩, hn₄.at' fun o y => up₆ _ o (Ne.symm hDC) y, fun q hq => ?_, fun q hq => ?_, ?_, ?_⟩
        · rcases List.mem_cons.mp hq with rfl | hq
          · exact ⟨hD₆.trans (congrArg some (LCg.lst_snoc ys _)), hDL, hD₀⟩
          · rcases List.mem_cons.mp hq with rfl | hq
            · refine ⟨hs₆.extBut _ _ hzD (Heap.get?_push_size _ rfl), Nat.ne_of_gt hL₄, ?_⟩
              exact Heap.get?_none_of_le (Nat.le_of_lt (Nat.lt_of_le_of_lt F₄.above hL₄))
            · exact ⟨up₆ _ _ (off' q hq).2.2.2 (N₄ q (List.mem_cons_of_mem _ hq)).1, (N₄ q (List.mem_cons_of_mem _ hq)).2⟩
        · rcases List.mem_cons.mp hq with rfl | hq
          · exact ⟨hn₄', hi₄', hC₄', hzD⟩
          · exact off' q hq
        · obtain ⟨ol, hm, r⟩ := hL'
          exact ⟨ol, List.mem_cons_of_mem _ hm, r⟩
        · exact R' _ t tk₄ (off1_of fun p hp => Nat.ne_of_lt (hlt₄ p (List.mem_cons_of_mem _ hp)))
      · have hin : i = vs.length := Nat.le_antisymm hi (Nat.not_lt.mp hlt)
        subst hin
        rw [List.drop_length] at R'
        refine W.done _ _ _ (by rw [show vs.toArray.size = vs.length from List.size_toArray ..]; exact ⟨hE', hI', hl'⟩) fun h₂ tk₂ hk₂ => ?_
        have up : ∀ c o, c ≠ e → c ≠ it → h'.get? c = some o → h₂.get? c = some o := fun c o h1 h2 y => hk₂ c o (by simp [h1, h2]) y
        exact hRR _ _ h₂ tk₂ _ ys news' ⟨F'.ns.at' fun o y => up _ o (Ne.symm heL) (Ne.symm hiL) y, fun c o y => up c o (fun q => by rw [q, he₀] at y; cases y) (fun q => by rw [q, hi₀] at y; cases y) (F'.keep c o y), F'.above⟩
          (fun p hp => ⟨by
            rcases List.mem_cons.mp hp with rfl | hp'
            · exact up _ _ hDe hDi (N' _ hp).1
            · exact up _ _ (off' p hp').1 (off' p hp').2.1 (N' _ hp).1, (N' p hp).2⟩)
          (off1_of fun p hp => (off' p hp).2.2.2) (hn'.at' fun o y => up _ o hCe hCi y) hC₀ hD₀ hCL hDL (Ne.symm hDC) (fun p hp => (off' p hp).2.2.1) R'
    · rcases List.mem_cons.mp hp with rfl | hp
      · exact ⟨hacc, hDL, hD₀⟩
      · exact ⟨old _ _ (N p hp).1, (N p hp).2⟩
  exact codeAny_compStart_list (loop _ rfl) (wpAny_pyIter_enum (old _ _ hE) (loop _ rfl))
theorem en_ListComp {iter : PySem.Expr} {a b : Str} {pa pb tp pa' pb' pc pt : Pos} {kk k1 k2 : Nat} {scope : Scope} {cl : List (Str × Addr)} {pos : Pos} {Q : Value → Shared → Prop} (_F₀ : Fr h₀ L s.heap m)
    (hclos : closureFor scope env = pure cl) (hcell : ∀ y ∈ scope.names, y.2 ≠ .cell) (hkind : scope.kind = .function)
    (hnames : ∀ y ∈ scope.names, y.2 = .local → scope.names.lookup y.1 = some .local) (hxa : scope.names.lookup a = some .local) (hxb : scope.names.lookup b = some .local) (hab : ¬ a = b) (hda : (a == ("__debug__" : Str)) = false) (hdb : (b == ("__debug__" : Str)) = false)
    (h : wpAny (model prog w) A (eval iter env) (EnSrc prog w A h₀ L m (fun s₂ => LCg.FinE h₀ L m s₂ Q)) E s)
    (hs : ∀ x, foldedSetIterable iter env x = pure x := by intro _; rfl) :
    wpAny (model prog w) A (eval (.ListComp (.Tuple [.Name b pb', .Name a pa', .Constant (.int 1) k1 pc] k2 pt) [⟨.Tuple [.Name a pa, .Name b pb] kk tp, iter, [], 0⟩] scope pos) env) Q E s := by
  rw [eval_ListComp]
  refine wpAny_comprehension_free (use := none) rfl hs hclos hkind hnames (wpAny_mono h (fun xv s₁ h₁ => ?_) fun _ _ e => e)
  obtain ⟨e, it, l, vs, news, rfl, hh, hei, hle, hli, hiL, heL, he₀, hi₀, off, hll, F, N, hE, hI, _, hL, hsz, R⟩ := h₁
  refine wpAny_pyIter_enum hE ?_
  refine en_block (Fin := LCg.FinE h₀ L m s₁ Q) hh hei hle hli hiL heL he₀ hi₀ off hll F N hE hI hsz hL hcell hkind hxa hxb hab hda hdb (R s₁.heap) ?_
  intro D C h tk m' ys news' F' N' o1 hn hC₀ hD₀ hCL hDL hCD offC fin
  refine ⟨m', hn, fun h'' hs'' => fin D h'' tk (F'.change hs'' hCL hC₀) (fun p hp => ?_) o1⟩
  refine ⟨hs''.extBut _ _ ?_ (N' p hp).1, (N' p hp).2⟩
  rcases List.mem_cons.mp hp with rfl | hp
  · exact Ne.symm hCD
  · exact offC p hp
theorem en_call {l : Addr} {ol : Obj} {vs : List Value} {n : Nat} {news : List (Addr × Obj)} {Fin : Shared → List Value → List (Addr × Obj) → Prop} (hh : A.handled = none) (F : Fr h₀ L s.heap m) (N : News h₀ L s.heap news) (hm : (l, ol) ∈ news) (hc : ol.cls = .type "list") (hd : ol.data = .seq vs.toArray n) (hsz : vs.length ≤ sizeLine)
    (h : ∀ g : Heap, EnRest (Fin { s with heap := g }) 0 vs [] news) : wpAny (model prog w) A (call (.type "enumerate") [.ref l]) (EnSrc prog w A h₀ L m Fin) E s := by
  have hl : s.heap.IsList l vs.toArray := ⟨ol, (N _ hm).1, hc, n, hd⟩
  have hlt : l < s.heap.objs.size := Heap.lt_size (N _ hm).1
  have hLs : L < s.heap.objs.size := F.ns.lt
  have hab : h₀.objs.size ≤ L := F.above
  refine call_enumerate_list hl fun h' he hit hz hk => ?_
  refine ⟨_, _, l, vs, news, rfl, hh, Nat.succ_ne_self _, Nat.ne_of_lt (Nat.lt_succ_of_lt hlt), Nat.ne_of_lt hlt, Nat.ne_of_gt hLs, Nat.ne_of_gt (Nat.lt_succ_of_lt hLs), Heap.get?_none_of_le (Nat.le_trans hab (Nat.le_of_lt (Nat.lt_succ_of_lt hLs))), Heap.get?_none_of_le (Nat.le_trans hab (Nat.le_of_lt hLs)),
    fun p hp => ?_, ?_, ⟨F.ns.keeps hk, fun b o e => hk b o (F.keep b o e), F.above⟩, fun p hp => ⟨hk _ _ (N p hp).1, (N p hp).2⟩, he, hit, hl.at fun o x => hk l o x, ⟨ol, hm, hc, n, hd⟩, hsz, fun g => h g⟩
  · have := Heap.lt_size (N p hp).1
    exact ⟨Nat.ne_of_lt (Nat.lt_succ_of_lt this), Nat.ne_of_lt this⟩
  · show l < h'.objs.size
    exact Nat.lt_of_lt_of_le hlt (hz ▸ Nat.le_add_right _ _)
end

-- the walk's own switch and caches as in a file of its own
theorem switch_17 : True := by
  w_top off
  exact trivial
/-- a mark: the walk is within Names.give_ops -/
structure GiveMark : Prop where
  here : True
/-- the names behind i rows, and the primitives behind them -/
noncomputable def runT (T : TS) (tys : List Str) : Nat → TS
  | 0 => T
  | i + 1 => match tys[i]? with
    | some y => (runT T tys i).intern y
    | none => runT T tys i
noncomputable def runO (T : TS) (O : List (Int × Int)) (tys : List Str) : Nat → List (Int × Int)
  | 0 => O
  | i + 1 => match tys[i]? with
    | some y => putP (runO T O tys i) ((runT T tys i).numD y : Int) (i : Int)
    | none => runO T O tys i
section
variable {T : TS} {O : List (Int × Int)} {tys : List Str}
theorem runT_succ {i : Nat} {y : Str} (h : tys[i]? = some y) : runT T tys (i + 1) = (runT T tys i).intern y := by simp only [runT, h]
theorem runO_succ {i : Nat} {y : Str} (h : tys[i]? = some y) : runO T O tys (i + 1) = putP (runO T O tys i) ((runT T tys i).numD y : Int) (i : Int) := by simp only [runO, h]
theorem runT_ok (hT : T.Ok) (hy : ∀ y ∈ tys, PyData.strOk y = true) : ∀ i, (runT T tys i).Ok
  | 0 => hT
  | i + 1 => by
    cases h : tys[i]? with
    | none => simp only [runT, h]; exact runT_ok hT hy i
    | some y => rw [runT_succ h]; exact (runT_ok hT hy i).intern y (hy y (List.mem_of_getElem? h))
theorem runT_len : ∀ i, (runT T tys i).rows.length ≤ T.rows.length + i
  | 0 => Nat.le_refl _
  | i + 1 => by
    have ih := runT_len i
    cases h : tys[i]? with
    | none => simp only [runT, h]; omega
    | some y =>
      rw [runT_succ h]
      have := (runT T tys i).intern_len y
      omega
theorem runO_len : ∀ i, (runO T O tys i).length ≤ O.length + i
  | 0 => Nat.le_refl _
  | i + 1 => by
    have ih := runO_len i
    cases h : tys[i]? with
    | none => simp only [runO, h]; omega
    | some y =>
      rw [runO_succ h]
      have := putP_length (runO T O tys i) ((runT T tys i).numD y : Int) (i : Int)
      omega
end
/-- the rows of primitives stand in the ledger -/
def RowsAt (L : List (Addr × Obj)) (rvs : List Value) (tys : List Str) : Prop :=
  rvs.length = tys.length ∧ ∀ (i : Nat) (y : Str), tys[i]? = some y → ∃ (Ta : Addr) (ty t t' : Tok), rvs[i]? = some (.ref Ta) ∧ (Ta, rowT (.str y ty) i t t') ∈ L
section
variable {prog : Program} {w : World} {A : Around} {E : Value → Shared → Prop} {s : Shared} {h₀ : Heap} {L d : Addr} {news : List (Addr × Obj)} {o : Obj} {os : List (Int × Value)} {O : List (Int × Int)}
theorem set_op {k b : Int} {tk t : Tok} {m : Str → Option Value} {g : Obj → List (Addr × Obj)} {Q : Unit → Shared → Prop} (F : Fr h₀ L s.heap m) (N : News h₀ L s.heap news) (U : UpdF d o news g) (hd : o.IsDictOf (intKind prog w) os) (hP : PairsAre IntV os O) (hsz : O.length ≤ 100000)
    (h : ∀ h' o' os', Fr h₀ L h' m → News h₀ L h' (g o') → o'.IsDictOf (intKind prog w) os' → PairsAre IntV os' (putP O k b) → Q () { s with heap := h', toks := s.toks + 1 }) : wpAny (model prog w) A (setItem (.ref d) (.int k tk) (.int b t)) Q E s := by
  have hl : os.length = O.length := hP.length
  have hl2 : os.length ≤ sizeLine := by rw [sizeLine_eq]; omega
  exact kda_set (knd := intKind prog w) F N U hd (intKind_is _ _ _ _) hl2 fun h' o' F' N' hd' => h h' o' _ F' N' hd' (hP.stored ⟨t, rfl⟩)
theorem my_row {value slice : PySem.Expr} {a : Addr} {v : Value} {i : Nat} {t t' u : Tok} {Q : Value → Shared → Prop} (N : News h₀ L s.heap news) (hm : (a, rowT v i t t') ∈ news) (h : Q v s)
    (hs : subscripted slice false (.ref a) (.int 0 u) = operate [.ref a, .int 0 u] (getItem (.ref a) (.int 0 u)) := by with_unfolding_all rfl) :
    wpAny (model prog w) A (subscriptTail value slice (.ref a) (.int 0 u)) Q E s := by
  have ht : IsTup s.heap a #[v, .int (i : Int) t, .int 1 t'] := News.isTup N hm
  exact item_tupleT ht (by decide) (by decide) (j := 0) rfl rfl h hs
end
theorem app_in3 {a b c d : List (Addr × Obj)} {q : Addr × Obj} (h : q ∈ a ++ (b ++ d)) : q ∈ ((a ++ b) ++ c) ++ d := by
  simp only [List.mem_append] at h ⊢
  rcases h with h | h | h
  · exact .inl (.inl (.inl h))
  · exact .inl (.inl (.inr h))
  · exact .inr h
theorem app_it {a c d : List (Addr × Obj)} {q : Addr × Obj} (h : q ∈ c) : q ∈ (a ++ c) ++ d := List.mem_append.mpr (.inl (List.mem_append.mpr (.inr h)))
section
variable {prog : Program} {w : World} {A : Around} {E : Value → Shared → Prop} {s : Shared} {env : Env} {h₀ : Heap} {x : Str} {body : List Stmt} {Q : Flow → Shared → Prop}
def GiveJ (prog : Program) (w : World) (x : Str) (m₀ : Str → Option Value) (rw bt oa : Addr) (T : TS) (O : List (Int × Int)) (tys : List Str) (L own : List (Addr × Obj)) (i : Nat) (m : Str → Option Value) (nx : List (Addr × Obj)) : Prop :=
  (∃ (vs : List Value) (nr : Nat) (ob : Obj) (kvs : List (Str × Value)) (oo : Obj) (os : List (Int × Value)) (nw : List (Addr × Obj)),
    nx = (rw, listOf vs.toArray nr) :: (bt, ob) :: (oa, oo) :: (own ++ nw) ∧ ob.IsDictOf (strKind prog w) kvs ∧ oo.IsDictOf (intKind prog w) os ∧
    ImpRel (runT T tys i) vs kvs (L ++ nw) ∧ PairsAre IntV os (runO T O tys i) ∧ (∀ q ∈ nw, @LT.lt Nat _ rw q.1 ∧ @LT.lt Nat _ bt q.1 ∧ @LT.lt Nat _ oa q.1 ∧ ∀ p ∈ own, @LT.lt Nat _ p.1 q.1)) ∧ ∀ z, z ≠ x → m z = m₀ z
theorem give_range {r : Addr} {b₀ : Int} {t₀ u₀ v₀ : Tok} {n : Nat} {m₀ : Str → Option Value} {X DX t ti oa dt rw bt ra : Addr} {last : Int} {lt : Tok} {K : Ks} {h1 h2 : Int} {k1 k2 : Tok} {n' nr nra : Nat} {own L : List (Addr × Obj)} {ob oo : Obj} {kvs : List (Str × Value)} {vs rvs : List Value} {T : TS} {os : List (Int × Value)} {O : List (Int × Int)} {tys : List Str}
    (hh : A.handled = none) (hr : IsRange s.heap r 0 b₀ 1 t₀ u₀ v₀) (hsmall : Builtin.Range.small 0 b₀ 1 = true) (hn : Builtin.Range.rangeSize 0 b₀ 1 = (n : Int))
    (F : Fr h₀ env.locals s.heap m₀) (N : News h₀ env.locals s.heap ((rw, listOf vs.toArray nr) :: (bt, ob) :: (oa, oo) :: own))
    (hoff : OwnOff own [rw, bt, oa]) (hx : (X, instObj 178 DX) ∈ own) (hdx : (DX, namD t ti oa last lt K) ∈ own) (ht : (t, instObj 94 dt) ∈ own) (hdt : (dt, tabD rw bt h1 h2 k1 k2 n') ∈ own) (hra : (ra, listOf rvs.toArray nra) ∈ own) (hR : RowsAt own rvs tys)
    (hD : ob.IsDictOf (strKind prog w) kvs) (hoo : oo.IsDictOf (intKind prog w) os) (hos : PairsAre IntV os O) (hOl : O.length ≤ 90000) (hI : ImpRel T vs kvs L) (hL : ∀ q ∈ L, q ∈ own) (hT : T.Ok) (hlen : T.rows.length ≤ 90000) (hy : ∀ y ∈ tys, PyData.strOk y = true) (h3 : tys.length ≤ 3) (hnn : n = tys.length)
    (turn : ∀ (i : Nat) (t' : Tok) (h : Heap) (tk : Nat) (z it L₁ : List (Addr × Obj)) (T₁ : TS) (O₁ : List (Int × Int)) (vs : List Value) (nr : Nat) (ob : Obj) (kvs : List (Str × Value)) (oo : Obj) (os : List (Int × Value)) (y : Str) (ty : Tok) (Ta : Addr) (t1 t2 : Tok),
      ob.IsDictOf (strKind prog w) kvs → oo.IsDictOf (intKind prog w) os → ImpRel T₁ vs kvs L₁ → (∀ q ∈ L₁, q ∈ z) → PairsAre IntV os O₁ → T₁.Ok → T₁.rows.length ≤ 100000 → O₁.length ≤ 100000 → OwnOff z [rw, bt, oa] →
      (X, instObj 178 DX) ∈ z → (DX, namD t ti oa last lt K) ∈ z → (t, instObj 94 dt) ∈ z → (dt, tabD rw bt h1 h2 k1 k2 n') ∈ z → (ra, listOf rvs.toArray nra) ∈ z → rvs[(i : Int).toNat]? = some (.ref Ta) → (Ta, rowT (.str y ty) i t1 t2) ∈ z → 0 ≤ (i : Int) → (i : Int) < 2 ^ 63 →
      Fr h₀ env.locals h (fun y => if y = x then some (.int (i : Int) t') else m₀ y) → News h₀ env.locals h ((rw, listOf vs.toArray nr) :: (bt, ob) :: (oa, oo) :: z) →
      (∀ (h' : Heap) (tk' : Nat) (vs' : List Value) (nr' : Nat) (ob' : Obj) (kvs' : List (Str × Value)) (oo' : Obj) (os' : List (Int × Value)) (new : List (Addr × Obj)), Fr h₀ env.locals h' (fun y => if y = x then some (.int (i : Int) t') else m₀ y) → News h₀ env.locals h' ((rw, listOf vs'.toArray nr') :: (bt, ob') :: (oa, oo') :: (z ++ new)) →
        ob'.IsDictOf (strKind prog w) kvs' → oo'.IsDictOf (intKind prog w) os' → ImpRel (T₁.intern y) vs' kvs' (L₁ ++ new) → PairsAre IntV os' (putP O₁ (T₁.numD y : Int) (i : Int)) → (∀ q ∈ new, ∀ p ∈ ((rw, listOf vs.toArray nr) :: (bt, ob) :: (oa, oo) :: z), p.1 < q.1) →
        TbEnd h₀ env.locals (GiveJ prog w x m₀ rw bt oa T O tys L own (i + 1)) it { s with heap := h, toks := tk } { s with heap := h', toks := tk' }) →
      wpAny (model prog w) A (execs body env) (TbPost h₀ env.locals (GiveJ prog w x m₀ rw bt oa T O tys L own (i + 1)) it { s with heap := h, toks := tk } Q) E { s with heap := h, toks := tk })
    (done : ∀ (u : Str → Option Value) h tk (vs' : List Value) (nr' : Nat) (ob' : Obj) (kvs' : List (Str × Value)) (oo' : Obj) (os' : List (Int × Value)) (nw : List (Addr × Obj)), Fr h₀ env.locals h (fun y => if y = x then u y else m₀ y) → News h₀ env.locals h ((rw, listOf vs'.toArray nr') :: (bt, ob') :: (oa, oo') :: (own ++ nw)) →
      ob'.IsDictOf (strKind prog w) kvs' → oo'.IsDictOf (intKind prog w) os' → ImpRel (runT T tys tys.length) vs' kvs' (L ++ nw) → PairsAre IntV os' (runO T O tys tys.length) → (∀ q ∈ nw, @LT.lt Nat _ rw q.1 ∧ @LT.lt Nat _ bt q.1 ∧ @LT.lt Nat _ oa q.1 ∧ ∀ p ∈ own, @LT.lt Nat _ p.1 q.1) → Q .next { s with heap := h, toks := tk }) :
    wpAny (model prog w) A (pyIter (.ref r)) (fun it s₂ => LoopAtV prog w A h₀ env x body Q E it s₂) E s := by
  subst hnn
  refine tbr_invG (GiveJ prog w x m₀ rw bt oa T O tys L own) hh hr hsmall hn F N ⟨⟨vs, nr, ob, kvs, oo, os, [], by rw [List.append_nil], hD, hoo, by rw [List.append_nil]; exact hI, hos, fun _ h => nomatch h⟩, fun _ _ => rfl⟩ ?_ ?_
  · rintro i k t' m₁ nx h tk it hk hoffi ⟨⟨vs₁, nr₁, ob₁, kvs₁, oo₁, os₁, nw, rfl, hD₁, hoo₁, hI₁, hos₁, hnw⟩, hm⟩ F₁ N₁
    have hi : i < tys.length := by
      have := (List.getElem?_eq_some_iff.mp hk).1
      rwa [rangeKs_length] at this
    have e0 : (rangeKs 0 tys.length)[i]? = some (0 + (i : Int)) := by simp [rangeKs, hi]
    rw [e0, Int.zero_add] at hk
    obtain rfl : (i : Int) = k := Option.some.inj hk
    have hyi : tys[i]? = some tys[i] := List.getElem?_eq_getElem hi
    obtain ⟨Ta, ty, t1, t2, hr1, hr2⟩ := hR.2 i _ hyi
    have e : (fun y => if y = x then some (Value.int (i : Int) t') else m₁ y) = fun y => if y = x then some (Value.int (i : Int) t') else m₀ y := by
      funext y
      by_cases h1 : y = x
      · simp [h1]
      · simp only [if_neg h1]; exact hm y h1
    rw [e] at F₁
    have up : ∀ q ∈ own, q ∈ (own ++ nw) ++ it := fun q hq => List.mem_append.mpr (.inl (List.mem_append.mpr (.inl hq)))
    have hl1 := @runT_len T tys i
    have hl2 := @runO_len T O tys i
    have hz : OwnOff ((own ++ nw) ++ it) [rw, bt, oa] := by
      intro q hq b hb
      rcases List.mem_append.mp hq with hq | hq
      · rcases List.mem_append.mp hq with hq | hq
        · exact hoff q hq b hb
        · obtain ⟨g1, g2, g3, _⟩ := hnw q hq
          rcases List.mem_cons.mp hb with rfl | hb
          · exact Nat.ne_of_gt g1
          · rcases List.mem_cons.mp hb with rfl | hb
            · exact Nat.ne_of_gt g2
            · rw [List.mem_singleton.mp hb]; exact Nat.ne_of_gt g3
      · rcases List.mem_cons.mp hb with rfl | hb
        · exact hoffi q hq _ (.head _)
        · rcases List.mem_cons.mp hb with rfl | hb
          · exact hoffi q hq _ (.tail _ (.head _))
          · rw [List.mem_singleton.mp hb]; exact hoffi q hq _ (.tail _ (.tail _ (.head _)))
    refine turn i t' h tk ((own ++ nw) ++ it) it (L ++ nw) _ _ vs₁ nr₁ ob₁ kvs₁ oo₁ os₁ _ ty Ta t1 t2 hD₁ hoo₁ hI₁ ?_ hos₁ (runT_ok hT hy i) (by omega) (by omega) hz (up _ hx) (up _ hdx) (up _ ht) (up _ hdt) (up _ hra) (by simpa using hr1) (up _ hr2) (by omega) (by omega) F₁ ?_ ?_
    · intro q hq
      rcases List.mem_append.mp hq with hq | hq
      · exact up q (hL q hq)
      · exact List.mem_append.mpr (.inl (List.mem_append.mpr (.inr hq)))
    · simpa only [List.cons_append] using N₁
    · intro h' tk' vs' nr' ob' kvs' oo' os' new F' N' hD' hoo' hI' hos' hw
      refine ⟨h', tk', _, _, (rw, listOf vs'.toArray nr') :: (bt, ob') :: (oa, oo') :: (own ++ (nw ++ new)), rfl, F', N', ?_, ?_, ?_, ⟨vs', nr', ob', kvs', oo', os', nw ++ new, rfl, hD', hoo', ?_, ?_, ?_⟩, fun z hz => by simp [hz]⟩
      · intro q hq
        rcases List.mem_cons.mp hq with rfl | hq
        · exact .head _
        rcases List.mem_cons.mp hq with rfl | hq
        · exact .tail _ (.head _)
        rcases List.mem_cons.mp hq with rfl | hq
        · exact .tail _ (.tail _ (.head _))
        exact .tail _ (.tail _ (.tail _ (app_in3 hq)))
      · intro q hq
        exact .tail _ (.tail _ (.tail _ (app_it hq)))
      · intro q hq p' hp
        rcases List.mem_cons.mp hp with rfl | hp
        · exact hoffi q hq (rw, listOf vs₁.toArray nr₁) (.head _)
        rcases List.mem_cons.mp hp with rfl | hp
        · exact hoffi q hq (bt, ob₁) (.tail _ (.head _))
        rcases List.mem_cons.mp hp with rfl | hp
        · exact hoffi q hq (oa, oo₁) (.tail _ (.tail _ (.head _)))
        rw [← List.append_assoc] at hp
        rcases List.mem_append.mp hp with hp | hp
        · exact hoffi q hq _ (.tail _ (.tail _ (.tail _ hp)))
        · exact Nat.ne_of_lt (hw p' hp q (.tail _ (.tail _ (.tail _ (List.mem_append.mpr (.inr hq))))))
      · rw [runT_succ hyi, ← List.append_assoc]; exact hI'
      · rw [runO_succ hyi]; exact hos'
      · intro q hq
        rcases List.mem_append.mp hq with hq | hq
        · exact hnw q hq
        · exact ⟨hw q hq _ (.head _), hw q hq _ (.tail _ (.head _)), hw q hq _ (.tail _ (.tail _ (.head _))), fun p' hp => hw q hq p' (.tail _ (.tail _ (.tail _ (up _ hp))))⟩
  · rintro m₁ nx h tk ⟨⟨vs₁, nr₁, ob₁, kvs₁, oo₁, os₁, nw, rfl, hD₁, hoo₁, hI₁, hos₁, hnw⟩, hm⟩ F₁ N₁
    refine done m₁ h tk vs₁ nr₁ ob₁ kvs₁ oo₁ os₁ nw ?_ N₁ hD₁ hoo₁ hI₁ hos₁ hnw
    have e : (fun y => if y = x then m₁ y else m₀ y) = m₁ := by
      funext y
      by_cases h1 : y = x
      · simp [h1]
      · simp only [if_neg h1]; exact (hm y h1).symm
    rw [e]; exact F₁
end
theorem mem_up {L z c : List (Addr × Obj)} {q : Addr × Obj} (h : ∀ q ∈ L, q ∈ z) (hq : q ∈ L ++ c) : List.Mem q (z ++ c) :=
  List.mem_append.mpr ((List.mem_append.mp hq).elim (fun g => .inl (h q g)) .inr)
--LINES
local macro_rules | `(tactic| k_mem) => `(tactic| first | ((with_reducible refine' mem_up ?kb ?ka); (case ka => with_reducible assumption); (case kb => with_reducible assumption)) | fail "mem_up")
example : True := by
  k_with "exec For Name Call cons nil" => (k_here; (rename GiveMark => mk9); (rename Fr _ _ _ _ => lF'); (with_unfolding_all refine' For_invVF lF' ?k1 ?k2 ?_; (case k1 => exact rfl); (case k2 => exact rfl); k_whole))
  k_with "pyIter ref" => (k_here; (rename GiveMark => mk9); k_dflt (refine' give_range ?k1 ?k2 ?k3 ?k4 ?k5 ?k6 ?k7 ?k8 ?k9 ?l1 ?l2 ?l3 ?l4 ?l5 ?l6 ?l7 ?l8 ?l9 ?m1 ?m2 ?m3 ?m4 ?m5 ?m6 (fun i' t' h' tk' z' it' L1' T1' O1' vs' nr' ob' kvs' oo' os' y' ty' Ta' t1' t2' hD' hoo' hI' hL' hos' hT' hTl' hOl' hoff' hx' hdx' ht' hdt' hra' hr1' hr2' hi0' hi1' F' N' hend' => ?_) (fun u' h' tk' vs' nr' ob' kvs' oo' os' nw' F' N' hD' hoo' hI' hos' hnw' => ?_); (case k1 => rfl); (case k2 => assumption); (case k3 => exact small_one (by l_bnd) (by l_bnd) (by l_bnd) (by l_bnd)); (case k4 => exact rangeSize_nat _ _); (case k5 => k_asm); (case k6 => k_asm); (case k7 => k_asm); (case k8 => k_asm); (case k9 => k_asm); (case l1 => k_asm); (case l2 => k_asm); (case l3 => k_asm); (case l4 => k_asm); (case l5 => k_asm); (case l6 => k_asm); (case l7 => k_asm); (case l8 => k_asm); (case l9 => k_asm); (case m1 => k_asm); (case m2 => k_asm); (case m3 => k_asm); (case m4 => k_asm); (case m5 => k_asm); (case m6 => k_asm)); (try dsimp only))
  k_with "TbEnd" => ((rename GiveMark => mk9); (rename ∀ (h' : Heap) (tk' : Nat), _ => hend9); k_dflt (refine' hend9 _ _ _ _ _ _ _ _ _ ?k1 ?k2 ?k3 ?k4 ?k5 ?k6 ?k7; (case k1 => assumption); (case k2 => assumption); (case k3 => assumption); (case k4 => assumption); (case k5 => assumption); (case k6 => assumption); (case k7 => assumption)))
  k_with "subscriptTail" => (k_here; (rename GiveMark => mk9); (with_reducible show wpAny _ _ (subscriptTail _ _ (Value.ref _) (Value.int 0 _)) _ _ _); k_dflt (refine' my_row ?k1 ?k2 ?_; (case k1 => k_asm); (case k2 => k_mem)))
  k_with "subscriptTail" => (k_here; (rename GiveMark => mk9); (with_reducible show wpAny _ _ (subscriptTail _ _ (Value.ref _) (Value.int (Nat.cast _) _)) _ _ _); k_dflt (refine' my_item ?k1 ?k2 ?k3 ?k4 ?k5 ?_; (case k1 => k_asm); (case k2 => k_mem); (case k3 => with_reducible assumption); (case k4 => with_reducible assumption); (case k5 => with_reducible assumption); k_whole))
  k_with "setItem ref int" => (k_here; k_dflt (refine' set_op ?F ?nN ?U ?d ?hp ?z ?_; (case F => k_asm); (case nN => k_asm); (case U => k_updF); (case d => k_asm); (case hp => assumption); (case z => assumption)); intro h' o' os' F' N' hd' hP'; (try dsimp only at N'); (try k_sweep))
  exact trivial
--END
section
variable {prog : Program} {w : World} {p : Program} {loose : List Str} {mean : ExcName → Option Value} {mg mb : Str → Option Value}
  {x dx ti oa : Addr} {last : Int} {lt : Tok} {K : Ks}
  {t dt rw bt ra : Addr} {h1 h2 : Int} {k1 k2 : Tok} {n nr nra : Nat} {own news L : List (Addr × Obj)} {ob oo : Obj} {kvs : List (Str × Value)} {vs rvs : List Value} {T : TS} {os : List (Int × Value)} {O : List (Int × Int)} {tys : List Str}
theorem give_lit (hoff : OwnOff own [rw, bt, oa]) (h12 : @Ne Nat rw bt) (h13 : @Ne Nat rw oa) (h23 : @Ne Nat bt oa)
    (hx : (x, instObj 178 dx) ∈ own) (hdx : (dx, namD t ti oa last lt K) ∈ own) (ht : (t, instObj 94 dt) ∈ own) (hdt : (dt, tabD rw bt h1 h2 k1 k2 n) ∈ own) (hra : (ra, listOf rvs.toArray nra) ∈ own) (hR : RowsAt own rvs tys)
    (hD : ob.IsDictOf (strKind prog w) kvs) (lo : (bt == sysModules) = false) (hoo : oo.IsDictOf (intKind prog w) os) (loo : (oa == sysModules) = false) (hos : PairsAre IntV os O) (hOl : O.length ≤ 90000) (hI : ImpRel T vs kvs L) (hL : ∀ q ∈ L, q ∈ own) (hT : T.Ok) (hlen : T.rows.length ≤ 90000) (hy : ∀ y ∈ tys, PyData.strOk y = true) (h3 : tys.length ≤ 3) :
    Ctr prog w p loose mean mg mb 161 [.ref x, .ref ra] 45 450 ((rw, listOf vs.toArray nr) :: (bt, ob) :: (oa, oo) :: own)
      (fun r news' => ∃ (vs' : List Value) (nr' : Nat) (ob' : Obj) (kvs' : List (Str × Value)) (oo' : Obj) (os' : List (Int × Value)) (nw : List (Addr × Obj)), r = .none ∧ news' = (rw, listOf vs'.toArray nr') :: (bt, ob') :: (oa, oo') :: (own ++ nw) ∧
        ob'.IsDictOf (strKind prog w) kvs' ∧ oo'.IsDictOf (intKind prog w) os' ∧ ImpRel (runT T tys tys.length) vs' kvs' (L ++ nw) ∧ PairsAre IntV os' (runO T O tys tys.length) ∧ (∀ q ∈ nw, @LT.lt Nat _ rw q.1 ∧ @LT.lt Nat _ bt q.1 ∧ @LT.lt Nat _ oa q.1 ∧ ∀ p ∈ own, @LT.lt Nat _ p.1 q.1)) := by
  intro dp un gd cn csc a ccd cl outer A₀ base h₀ L₀ m s Q E B F X N Tp hk hd hu hret
  have mk9 : GiveMark := ⟨trivial⟩
  have hrt : rvs.length = tys.length := hR.1
  have hrl : rvs.length ≤ 100000 := by omega
  have hn2 : Off _ rw := ⟨hoff _ hx rw (by simp)⟩
  have hn3 : Off _ bt := ⟨hoff _ hx bt (by simp)⟩
  have hn4 : Off _ rw := ⟨hoff _ hdx rw (by simp)⟩
  have hn5 : Off _ bt := ⟨hoff _ hdx bt (by simp)⟩
  have hn6 : Off _ rw := ⟨hoff _ ht rw (by simp)⟩
  have hn7 : Off _ bt := ⟨hoff _ ht bt (by simp)⟩
  have hn8 : Off _ rw := ⟨hoff _ hdt rw (by simp)⟩
  have hn9 : Off _ bt := ⟨hoff _ hdt bt (by simp)⟩
  have hn12 : Off _ oa := ⟨hoff _ hx oa (by simp)⟩
  have hn13 : Off _ oa := ⟨hoff _ hdx oa (by simp)⟩
  refine wpAny_call ?_
  k_dflt ktr_enter
  k_steps

  exact hret _ _ _ _ ⟨_, _, _, _, _, _, _, rfl, rfl, by assumption, by assumption, by assumption, by assumption, by assumption⟩ (by assumption) (by assumption)
theorem mem3 {a b c : Addr} {o1 o2 o3 : Obj} {l : List (Addr × Obj)} {q : Addr × Obj} (h : q ∈ (a, o1) :: (b, o2) :: (c, o3) :: l) : q = (a, o1) ∨ q = (b, o2) ∨ q = (c, o3) ∨ q ∈ l := by
  simpa using h
theorem give {g1 : Obj → List (Addr × Obj)} {g2 : Obj → Obj → List (Addr × Obj)} {g3 : Obj → Obj → Obj → List (Addr × Obj)} (U1 : UpdF rw (listOf vs.toArray nr) news g1) (U2 : ∀ o, UpdF bt ob (g1 o) (g2 o)) (U3 : ∀ o o', UpdF oa oo (g2 o o') (g3 o o'))
    (hx : (x, instObj 178 dx) ∈ news) (hdx : (dx, namD t ti oa last lt K) ∈ news) (ht : (t, instObj 94 dt) ∈ news) (hdt : (dt, tabD rw bt h1 h2 k1 k2 n) ∈ news) (hra : (ra, listOf rvs.toArray nra) ∈ news)
    (hne : (@Ne Nat x rw ∧ @Ne Nat x bt ∧ @Ne Nat x oa) ∧ (@Ne Nat dx rw ∧ @Ne Nat dx bt ∧ @Ne Nat dx oa) ∧ (@Ne Nat t rw ∧ @Ne Nat t bt ∧ @Ne Nat t oa) ∧ (@Ne Nat dt rw ∧ @Ne Nat dt bt ∧ @Ne Nat dt oa) ∧ (@Ne Nat ra rw ∧ @Ne Nat ra bt ∧ @Ne Nat ra oa))
    (hne2 : @Ne Nat rw bt ∧ @Ne Nat rw oa ∧ @Ne Nat bt oa)
    {rl : List (Addr × Obj)} (hR : RowsAt rl rvs tys) (hrl : ∀ q ∈ rl, q ∈ news) (hro : OwnOff rl [rw, bt, oa])
    (hD : ob.IsDictOf (strKind prog w) kvs) (lo : (bt == sysModules) = false) (hoo : oo.IsDictOf (intKind prog w) os) (loo : (oa == sysModules) = false) (hos : PairsAre IntV os O) (hOl : O.length ≤ 90000) (hI : ImpRel T vs kvs L) (hL : ∀ q ∈ L, q ∈ news) (hLo : OwnOff L [rw, bt, oa]) (hT : T.Ok) (hlen : T.rows.length ≤ 90000) (hy : ∀ y ∈ tys, PyData.strOk y = true) (h3 : tys.length ≤ 3) :
    Ctr prog w p loose mean mg mb 161 [.ref x, .ref ra] 45 450 news
      (fun r news' => ∃ (vs' : List Value) (nr' : Nat) (ob' : Obj) (kvs' : List (Str × Value)) (oo' : Obj) (os' : List (Int × Value)) (new : List (Addr × Obj)), r = .none ∧ news' = new ++ g3 (listOf vs'.toArray nr') ob' oo' ∧
        ob'.IsDictOf (strKind prog w) kvs' ∧ oo'.IsDictOf (intKind prog w) os' ∧ ImpRel (runT T tys tys.length) vs' kvs' (L ++ new) ∧ PairsAre IntV os' (runO T O tys tys.length) ∧ (∀ q ∈ new, ∀ p ∈ news, p.1 < q.1)) := by
  have off : ∀ {c : Addr} {ob : Obj}, (c, ob) ∈ news → (@Ne Nat c rw ∧ @Ne Nat c bt ∧ @Ne Nat c oa) → (c, ob) ∈ offs [rw, bt, oa] news := fun hm h => mem_offs.mpr ⟨hm, by simp; exact h⟩
  have offq : ∀ {l : List (Addr × Obj)}, (∀ q ∈ l, q ∈ news) → OwnOff l [rw, bt, oa] → ∀ q ∈ l, q ∈ offs [rw, bt, oa] news := fun h ho q hq => mem_offs.mpr ⟨h q hq, fun hm => ho q hq _ hm rfl⟩
  have m1 : (rw, listOf vs.toArray nr) ∈ news := updF_self U1
  have m2 : (bt, ob) ∈ news := updF_other U1 U2
  have m3 : (oa, oo) ∈ news := by
    have h1 := updF_other (U2 (listOf #[] 0)) (fun o => U3 (listOf #[] 0) o)
    rcases updF_mem U1 h1 with h | h
    · exact absurd (congrArg Prod.fst h).symm hne2.2.1
    · exact (mem_offs.mp h).1
  have hR' : RowsAt (offs [rw, bt, oa] news) rvs tys := ⟨hR.1, fun i y h => by
    obtain ⟨Ta, ty, t1, t2, e1, e2⟩ := hR.2 i y h
    exact ⟨Ta, ty, t1, t2, e1, offq hrl hro _ e2⟩⟩
  refine Ctr.weak (give_lit (vs := vs) (nr := nr) (offs_off _) hne2.1 hne2.2.1 hne2.2.2 (off hx hne.1) (off hdx hne.2.1) (off ht hne.2.2.1) (off hdt hne.2.2.2.1) (off hra hne.2.2.2.2) hR' hD lo hoo loo hos hOl hI (offq hL hLo) hT hlen hy h3) ?_ ?_
  · intro q hq
    rcases mem3 hq with rfl | rfl | rfl | hq
    · exact m1
    · exact m2
    · exact m3
    · exact (mem_offs.mp hq).1
  · rintro r n₁ ⟨vs', nr', ob', kvs', oo', os', nw, rfl, rfl, hD', hoo', hI', hos', hw⟩
    refine ⟨_, ⟨vs', nr', ob', kvs', oo', os', nw, rfl, rfl, hD', hoo', hI', hos', ?_⟩, fun q hq => ?_⟩
    · intro q hq p' hp
      obtain ⟨w1, w2, w3, w4⟩ := hw q hq
      by_cases e1 : p'.1 = rw
      · rw [e1]; exact w1
      by_cases e2 : p'.1 = bt
      · rw [e2]; exact w2
      by_cases e3 : p'.1 = oa
      · rw [e3]; exact w3
      exact w4 p' (mem_offs.mpr ⟨hp, by simp; exact ⟨e1, e2, e3⟩⟩)
    · rcases List.mem_append.mp hq with h | h
      · exact .tail _ (.tail _ (.tail _ (List.mem_append.mpr (.inr h))))
      · rcases updF_mem (U3 _ _) h with rfl | h
        · exact .tail _ (.tail _ (.head _))
        · obtain ⟨h5, h6⟩ := mem_offs.mp h
          rcases List.mem_cons.mp (updF_mem2 U1 U2 h5) with rfl | h7
          · exact .head _
          · rcases List.mem_cons.mp h7 with rfl | h7
            · exact .tail _ (.head _)
            · obtain ⟨h8, h9⟩ := mem_offs.mp h7
              refine .tail _ (.tail _ (.tail _ (List.mem_append.mpr (.inl (mem_offs.mpr ⟨h8, ?_⟩)))))
              simp at h6 h9 ⊢
              exact ⟨h9.1, h9.2, h6⟩
theorem give_k {g1 : Obj → List (Addr × Obj)} {g2 : Obj → Obj → List (Addr × Obj)} {g3 : Obj → Obj → Obj → List (Addr × Obj)} (U1 : UpdF rw (listOf vs.toArray nr) news g1) (U2 : ∀ o, UpdF bt ob (g1 o) (g2 o)) (U3 : ∀ o o', UpdF oa oo (g2 o o') (g3 o o'))
    (hx : (x, instObj 178 dx) ∈ news) (hdx : (dx, namD t ti oa last lt K) ∈ news) (ht : (t, instObj 94 dt) ∈ news) (hdt : (dt, tabD rw bt h1 h2 k1 k2 n) ∈ news) (hra : (ra, listOf rvs.toArray nra) ∈ news)
    (hne : (@Ne Nat x rw ∧ @Ne Nat x bt ∧ @Ne Nat x oa) ∧ (@Ne Nat dx rw ∧ @Ne Nat dx bt ∧ @Ne Nat dx oa) ∧ (@Ne Nat t rw ∧ @Ne Nat t bt ∧ @Ne Nat t oa) ∧ (@Ne Nat dt rw ∧ @Ne Nat dt bt ∧ @Ne Nat dt oa) ∧ (@Ne Nat ra rw ∧ @Ne Nat ra bt ∧ @Ne Nat ra oa))
    (hne2 : @Ne Nat rw bt ∧ @Ne Nat rw oa ∧ @Ne Nat bt oa)
    {rl : List (Addr × Obj)} (hR : RowsAt rl rvs tys) (hrl : ∀ q ∈ rl, q ∈ news) (hro : OwnOff rl [rw, bt, oa])
    (hD : ob.IsDictOf (strKind prog w) kvs) (lo : (bt == sysModules) = false) (hoo : oo.IsDictOf (intKind prog w) os) (loo : (oa == sysModules) = false) (hos : PairsAre IntV os O) (hOl : O.length ≤ 90000) (hI : ImpRel T vs kvs L) (hL : ∀ q ∈ L, q ∈ news) (hLo : OwnOff L [rw, bt, oa]) (hT : T.Ok) (hlen : T.rows.length ≤ 90000) (hy : ∀ y ∈ tys, PyData.strOk y = true) (h3 : tys.length ≤ 3) :
    CtrK prog w p loose mean mg mb 161 [.ref x, .ref ra] 45 450 news
      (fun Sx => ∀ (vs' : List Value) (nr' : Nat) (ob' : Obj) (kvs' : List (Str × Value)) (oo' : Obj) (os' : List (Int × Value)) (new : List (Addr × Obj)), ob'.IsDictOf (strKind prog w) kvs' → oo'.IsDictOf (intKind prog w) os' → ImpRel (runT T tys tys.length) vs' kvs' (L ++ new) → PairsAre IntV os' (runO T O tys tys.length) → ((∀ q ∈ new, ∀ p ∈ news, p.1 < q.1)) → Sx (.none) (new ++ g3 (listOf vs'.toArray nr') ob' oo')) :=
  CtrK.of (give U1 U2 U3 hx hdx ht hdt hra hne hne2 hR hrl hro hD lo hoo loo hos hOl hI hL hLo hT hlen hy h3) (by rintro Sx kx rx news1 ⟨vs', nr', ob', kvs', oo', os', new, e1, e2, f0, f1, f2, f3, f4⟩; subst e1; subst e2; exact kx vs' nr' ob' kvs' oo' os' new f0 f1 f2 f3 f4)
end

-- the walk's own switch and caches as in a file of its own
theorem switch_18 : True := by
  w_top off
  exact trivial
/-- a mark: the walk is within _law_by_rows -/
structure RowsMark : Prop where
  here : True
theorem off1_at {D : Addr} : ∀ {l : List (Addr × Obj)}, LCg.Off1 D l → ∀ p ∈ l, p.1 ≠ D
  | [], _, _, h => nomatch h
  | _ :: _, x, p, h => by
    rcases List.mem_cons.mp h with rfl | h
    · exact x.1
    · exact off1_at x.2 p h
/-- the rows that the comprehension over enumerate makes, of any number -/
theorem en_all {Fin : List Value → List (Addr × Obj) → Prop} {V : List Value} {nw₀ : List (Addr × Obj)}
    (fin : ∀ (ys : List Value) (rl : List (Addr × Obj)), ys.length = V.length → (∀ j v, V[j]? = some v → ∃ (T : Addr) (t t' : Tok), ys[j]? = some (.ref T) ∧ (T, rowT v j t t') ∈ rl) → (∀ q ∈ rl, ∀ p ∈ nw₀, q.1 ≠ p.1) → Fin ys (rl ++ nw₀)) : EnRest Fin 0 V [] nw₀ := by
  have key : ∀ (vs : List Value) (i : Nat) (ys : List Value) (rl : List (Addr × Obj)), V.drop i = vs → ys.length = i → i ≤ V.length → (∀ j v, j < i → V[j]? = some v → ∃ (T : Addr) (t t' : Tok), ys[j]? = some (.ref T) ∧ (T, rowT v j t t') ∈ rl) → (∀ q ∈ rl, ∀ p ∈ nw₀, q.1 ≠ p.1) → EnRest Fin i vs ys (rl ++ nw₀) := by
    intro vs
    induction vs with
    | nil =>
      intro i ys rl hd hl hi hr ho
      have hil : V.length ≤ i := List.drop_eq_nil_iff.mp hd
      refine EnRest.nil (fin ys rl (by omega) (fun j v h => hr j v ?_ h) ho)
      have := (List.getElem?_eq_some_iff.mp h).1
      omega
    | cons v r ih =>
      intro i ys rl hd hl hi hr ho
      refine EnRest.cons fun T t t' o1 => ?_
      have hiv : V[i]? = some v := by
        have := congrArg (fun l => l[0]?) hd
        simpa using this
      have hlt : i < V.length := (List.getElem?_eq_some_iff.mp hiv).1
      have hd' : V.drop (i + 1) = r := by
        have := congrArg (List.drop 1) hd
        simpa [List.drop_drop, Nat.add_comm] using this
      have := ih (i + 1) (ys ++ [.ref T]) ((T, rowT v i t t') :: rl) hd' (by simp [hl]) hlt ?_ ?_
      · exact this
      · intro j v' hj hv'
        by_cases hji : j < i
        · obtain ⟨T', s, s', e1, e2⟩ := hr j v' hji hv'
          refine ⟨T', s, s', ?_, .tail _ e2⟩
          rw [List.getElem?_append_left (by omega)]; exact e1
        · have hji' : j = i := by omega
          subst hji'
          rw [hiv] at hv'
          obtain rfl := Option.some.inj hv'
          refine ⟨T, t, t', ?_, .head _⟩
          rw [List.getElem?_append_right (by omega)]
          simp [hl]
      · intro q hq p hp
        rcases List.mem_cons.mp hq with rfl | hq
        · exact Ne.symm (off1_at o1 p (List.mem_append.mpr (.inr hp)))
        · exact ho q hq p hp
  have := key V 0 [] [] (by simp) rfl (Nat.zero_le _) (fun j v h => absurd h (Nat.not_lt_zero _)) (fun _ h => nomatch h)
  simpa using this
theorem rowsAt_of {rl : List (Addr × Obj)} {V ys : List Value} {tys : List Str} (hs : StrsAre V tys) (hl : ys.length = V.length) (hr : ∀ j v, V[j]? = some v → ∃ (T : Addr) (t t' : Tok), ys[j]? = some (.ref T) ∧ (T, rowT v j t t') ∈ rl) : RowsAt rl ys tys := by
  refine ⟨by rw [hl, strs_len hs], fun i y h => ?_⟩
  obtain ⟨ty, hv⟩ := strs_get hs h
  obtain ⟨T, t, t', e1, e2⟩ := hr i _ hv
  exact ⟨T, ty, t, t', e1, e2⟩
theorem finE_rot {h₀ : Heap} {L : Addr} {m : Str → Option Value} {s : Shared} {Q : Value → Shared → Prop} {ys : List Value} {rl nw : List (Addr × Obj)} (h : LCg.FinE h₀ L m s Q ys (nw ++ rl)) : LCg.FinE h₀ L m s Q ys (rl ++ nw) := by
  intro D h' tk F N o1
  refine h D h' tk F (fun q hq => N q ?_) (off1_of fun p hp => off1_at o1 p ?_)
  · rcases List.mem_cons.mp hq with rfl | hq
    · exact .head _
    · exact .tail _ ((List.mem_append.mp hq).elim (fun h => List.mem_append.mpr (.inr h)) fun h => List.mem_append.mpr (.inl h))
  · exact (List.mem_append.mp hp).elim (fun h => List.mem_append.mpr (.inr h)) fun h => List.mem_append.mpr (.inl h)
theorem off_ne {rl l : List (Addr × Obj)} {d : Addr} {o : Obj} (h : ∀ q ∈ rl, ∀ p ∈ l, q.1 ≠ p.1) (hm : (d, o) ∈ l) : ∀ q ∈ rl, q.1 ≠ d := fun q hq => h q hq _ hm
theorem updF_addr {a : Addr} {oa o : Obj} {news : List (Addr × Obj)} {g : Obj → List (Addr × Obj)} (U : UpdF a oa news g) {q : Addr × Obj} (h : q ∈ g o) : ∃ o', (q.1, o') ∈ news := by
  rcases updF_mem U h with rfl | h
  · exact ⟨_, updF_self U⟩
  · exact ⟨_, (mem_offs.mp h).1⟩
theorem updF_keep {a : Addr} {oa o : Obj} {news : List (Addr × Obj)} {g : Obj → List (Addr × Obj)} (U : UpdF a oa news g) {q : Addr × Obj} (h : q ∈ news) (hne : q.1 ≠ a) : q ∈ g o := by
  obtain ⟨pre, post, rfl, hg, _, _⟩ := U.split
  rw [hg]
  rcases List.mem_append.mp h with h | h
  · exact List.mem_append.mpr (.inl h)
  · rcases List.mem_cons.mp h with rfl | h
    · exact absurd rfl hne
    · exact List.mem_append.mpr (.inr (.tail _ h))
theorem updF_self' {a : Addr} {oa o : Obj} {news : List (Addr × Obj)} {g : Obj → List (Addr × Obj)} (U : UpdF a oa news g) : (a, o) ∈ g o := by
  obtain ⟨pre, post, rfl, hg, _, _⟩ := U.split
  rw [hg]
  exact List.mem_append.mpr (.inr (.head _))
section
variable {prog : Program} {w : World} {A : Around} {E : Value → Shared → Prop} {s : Shared} {env : Env} {h₀ : Heap} {body : List Stmt} {Q : Flow → Shared → Prop}
def OpJ (prog : Program) (w : World) (a b : Str) (m₀ : Str → Option Value) (g3 : Obj → Obj → Obj → List (Addr × Obj)) (T : TS) (O : List (Int × Int)) (tys : List Str) (i : Nat) (m : Str → Option Value) (nx : List (Addr × Obj)) : Prop :=
  (∃ (mvs : List Value) (nm : Nat) (ok : Obj) (kvm : List (Str × Value)) (omo : Obj) (ms : List (Int × Value)), nx = g3 (listOf mvs.toArray nm) ok omo ∧ ok.IsDictOf (strKind prog w) kvm ∧ omo.IsDictOf (intKind prog w) ms ∧ ModRel (runT T tys i) mvs kvm ∧ PairsAre IntV ms (runO T O tys i)) ∧
    ∀ z, z ≠ a → z ≠ b → m z = m₀ z
theorem op_enum {a b : Str} {elts : List Expr} {k : Nat} {pos : Pos} {l : Addr} {lo : Obj} {ys : List Value} {n : Nat} {m₀ : Str → Option Value} {news : List (Addr × Obj)} {Mr Mk Mo : Addr} {mvs : List Value} {nm : Nat} {ok omo : Obj} {kvm : List (Str × Value)} {ms : List (Int × Value)} {T : TS} {O : List (Int × Int)} {tys : List Str}
    {g1 : Obj → List (Addr × Obj)} {g2 : Obj → Obj → List (Addr × Obj)} {g3 : Obj → Obj → Obj → List (Addr × Obj)}
    {oM : Obj} {Mt : Addr} {lastM : Int} {tlM : Tok}
    (hh : A.handled = none) (F : Fr h₀ env.locals s.heap m₀) (N : News h₀ env.locals s.heap news) (hm : (l, lo) ∈ news) (hc : lo.cls = .type "list") (hd : lo.data = .seq ys.toArray n)
    (_hMD : oM.IsDictOf (strKind prog w) (modK Mr Mk Mt Mo lastM tlM)) (_m1 : (Mr, listOf mvs.toArray nm) ∈ news) (_m2 : (Mk, ok) ∈ news) (_m3 : (Mo, omo) ∈ news)
    (U1 : UpdF Mr (listOf mvs.toArray nm) news g1) (U2 : ∀ o, UpdF Mk ok (g1 o) (g2 o)) (U3 : ∀ o o', UpdF Mo omo (g2 o o') (g3 o o'))
    (heq : g3 (listOf mvs.toArray nm) ok omo = news) (hl : @Ne Nat l Mr ∧ @Ne Nat l Mk ∧ @Ne Nat l Mo) (hS : StrsAre ys tys)
    (hKD : ok.IsDictOf (strKind prog w) kvm) (hmo : omo.IsDictOf (intKind prog w) ms) (hMo : ModRel T mvs kvm) (hms : PairsAre IntV ms O) (hT : T.Ok) (hlen : T.rows.length ≤ 90000) (hOl : O.length ≤ 90000) (hy : ∀ y ∈ tys, PyData.strOk y = true) (h3 : tys.length ≤ 3)
    (turn : ∀ (i : Nat) (T₁ : TS) (O₁ : List (Int × Int)) (mvs : List Value) (nm : Nat) (ok : Obj) (kvm : List (Str × Value)) (omo : Obj) (ms : List (Int × Value)) (y : Str) (ty : Tok) (Ta : Addr) (t : Tok) (h : Heap) (tk : Nat) (u : Str → Option Value) (I : Addr) (o1 o2 : Obj) (rest : (Str → Option Value) → List (Addr × Obj) → Prop),
      ok.IsDictOf (strKind prog w) kvm → omo.IsDictOf (intKind prog w) ms → ModRel T₁ mvs kvm → PairsAre IntV ms O₁ → T₁.Ok → T₁.rows.length ≤ 100000 → O₁.length ≤ 100000 → (∀ p ∈ news, p.1 < I) → IsTup h Ta #[.int (i : Int) t, .str y ty] →
      Fr h₀ env.locals h (fun z => if z = a then u z else if z = b then u z else m₀ z) → News h₀ env.locals h ((I + 1, o1) :: (I, o2) :: g3 (listOf mvs.toArray nm) ok omo) →
      (∀ (h' : Heap) (tk' : Nat) (m' : Str → Option Value) (mvs' : List Value) (nm' : Nat) (ok' : Obj) (kvm' : List (Str × Value)) (omo' : Obj) (ms' : List (Int × Value)), Fr h₀ env.locals h' m' → News h₀ env.locals h' ((I + 1, o1) :: (I, o2) :: g3 (listOf mvs'.toArray nm') ok' omo') →
        ok'.IsDictOf (strKind prog w) kvm' → omo'.IsDictOf (intKind prog w) ms' → ModRel (T₁.intern y) mvs' kvm' → PairsAre IntV ms' (putP O₁ (T₁.numD y : Int) (i : Int)) → (∀ z, z ≠ a → z ≠ b → m' z = m₀ z) →
        UnrEndW h₀ env.locals { s with heap := h, toks := tk } [(I + 1, o1), (I, o2)] rest { s with heap := h', toks := tk' }) →
      wpAny (model prog w) A (assign (.Tuple elts k pos) env (.ref Ta)) (fun _ s₂ => wpAny (model prog w) A (execs body env) (UnrPostW h₀ env.locals { s with heap := h, toks := tk } [(I + 1, o1), (I, o2)] rest Q) E s₂) E { s with heap := h, toks := tk })
    (done : ∀ (u : Str → Option Value) h tk (mvs' : List Value) (nm' : Nat) (ok' : Obj) (kvm' : List (Str × Value)) (omo' : Obj) (ms' : List (Int × Value)), Fr h₀ env.locals h (fun z => if z = a then u z else if z = b then u z else m₀ z) → News h₀ env.locals h (g3 (listOf mvs'.toArray nm') ok' omo') →
      ok'.IsDictOf (strKind prog w) kvm' → omo'.IsDictOf (intKind prog w) ms' → ModRel (runT T tys tys.length) mvs' kvm' → PairsAre IntV ms' (runO T O tys tys.length) → mvs'.length ≤ 100000 → Q .next { s with heap := h, toks := tk }) :
    wpAny (model prog w) A (call (.type "enumerate") [.ref l]) (fun xv s₁ => wpAny (model prog w) A (pyIter xv) (fun it s₂ => TurnsAt prog w A h₀ env (.Tuple elts k pos) body Q E it s₂) E s₁) E s := by
  have hysl : ys.length = tys.length := strs_len hS
  have frm : ∀ {m : Str → Option Value} {h : Heap}, (∀ z, z ≠ a → z ≠ b → m z = m₀ z) → Fr h₀ env.locals h m → Fr h₀ env.locals h (fun z => if z = a then m z else if z = b then m z else m₀ z) := by
    intro m h hz F
    have e : (fun z => if z = a then m z else if z = b then m z else m₀ z) = m := by
      funext z
      by_cases h1 : z = a
      · simp [h1]
      · by_cases h2 : z = b
        · simp [h2]
        · simp only [if_neg h1, if_neg h2]; exact (hz z h1 h2).symm
    rw [e]; exact F
  refine ktu_enum (xs := enumItems 0 ys) hh F N hm hc hd rfl fun I hI => ?_
  have key : ∀ (vs : List Value) (i : Nat) (m : Str → Option Value) (nx : List (Addr × Obj)), ys.drop i = vs → i ≤ ys.length → OpJ prog w a b m₀ g3 T O tys i m nx → ItemsRest prog w A E h₀ env (.Tuple elts k pos) body Q s [(I + 1, "enumerate"), (I, "list_iterator")] [(l, lo)] (enumItems i vs) m nx := by
    intro vs
    induction vs with
    | nil =>
      rintro i m nx hdr hi ⟨⟨mvs', nm', ok', kvm', omo', ms', rfl, q1, q2, q3, q4⟩, hmz⟩
      refine ItemsRest.zero fun h tk F₁ N₁ => ?_
      have hil : i = tys.length := by
        have := List.drop_eq_nil_iff.mp hdr
        omega
      subst hil
      refine done m h tk mvs' nm' ok' kvm' omo' ms' (frm hmz F₁) N₁ q1 q2 q3 q4 ?_
      have h5 := strs_len q3.1
      have h6 := @runT_len T tys tys.length
      omega
    | cons v r ih =>
      rintro i m nx hdr hi ⟨⟨mvs', nm', ok', kvm', omo', ms', rfl, q1, q2, q3, q4⟩, hmz⟩
      have hiv : ys[i]? = some v := by
        have := congrArg (fun l => l[0]?) hdr
        simpa using this
      have hlt : i < ys.length := (List.getElem?_eq_some_iff.mp hiv).1
      have hdr' : ys.drop (i + 1) = r := by
        have := congrArg (List.drop 1) hdr
        simpa [List.drop_drop, Nat.add_comm] using this
      have hyi : tys[i]? = some tys[i] := List.getElem?_eq_getElem (by omega)
      obtain ⟨ty, hv⟩ := strs_get hS hyi
      rw [hiv] at hv
      obtain rfl := Option.some.inj hv
      have hl1 := @runT_len T tys i
      have hl2 := @runO_len T O tys i
      refine ItemsRest.pair fun Ta t h tk hTa F₁ => AllObj.cons fun o1 _ => AllObj.cons fun o2 _ => AllObj.nil fun N₁ => ?_
      refine turn i _ _ mvs' nm' ok' kvm' omo' ms' _ ty Ta t h tk m I o1 o2 _ q1 q2 q3 q4 (runT_ok hT hy i) (by omega) (by omega) hI hTa (frm hmz F₁) (by simpa only [List.cons_append, List.nil_append] using N₁) ?_
      intro h' tk' m' mvs₂ nm₂ ok₂ kvm₂ omo₂ ms₂ F' N' r1 r2 r3 r4 hm'
      refine ⟨h', tk', m', g3 (listOf mvs₂.toArray nm₂) ok₂ omo₂, rfl, F', by simpa only [List.cons_append, List.nil_append] using N', ?_, ⟨?_, trivial⟩, ih (i + 1) m' _ hdr' hlt ⟨⟨mvs₂, nm₂, ok₂, kvm₂, omo₂, ms₂, rfl, r1, r2, ?_, ?_⟩, hm'⟩⟩
      · intro p hp q hq
        obtain ⟨p1, hp1⟩ := updF_addr (U3 _ _) hp
        obtain ⟨p2, hp2⟩ := updF_addr (U2 _) hp1
        obtain ⟨p3, hp3⟩ := updF_addr U1 hp2
        have hlt := hI _ hp3
        rcases List.mem_cons.mp hq with rfl | hq
        · exact Nat.ne_of_lt (Nat.lt_succ_of_lt hlt)
        · rw [List.mem_singleton.mp hq]; exact Nat.ne_of_lt hlt
      · exact updF_keep (U3 _ _) (updF_keep (U2 _) (updF_keep U1 hm hl.1) hl.2.1) hl.2.2
      · rw [runT_succ hyi]; exact r3
      · rw [runO_succ hyi]; exact r4
  exact key ys 0 m₀ news (by simp) (Nat.zero_le _) ⟨⟨mvs, nm, ok, kvm, omo, ms, heq.symm, hKD, hmo, hMo, hms⟩, fun _ _ _ => rfl⟩
end
theorem ownOff3 {l : List (Addr × Obj)} {a b c : Addr} (h1 : ∀ q ∈ l, q.1 ≠ a) (h2 : ∀ q ∈ l, q.1 ≠ b) (h3 : ∀ q ∈ l, q.1 ≠ c) : OwnOff l [a, b, c] := by
  intro q hq x hx
  rcases List.mem_cons.mp hx with rfl | hx
  · exact h1 q hq
  rcases List.mem_cons.mp hx with rfl | hx
  · exact h2 q hq
  rw [List.mem_singleton.mp hx]; exact h3 q hq

-- the walk's own switch and caches as in a file of its own
theorem switch_19 : True := by
  w_top off
  exact trivial
section
variable {h₀ : Heap} {L I C D : Addr} {m : Str → Option Value} {s₁ : Shared} {oI oC oD : Obj} {S : List (Addr × Obj) → Prop} {rest : Value → List (Addr × Obj) → Prop} {y : Value} {h' : Heap} {tk : Nat} {nw : List (Addr × Obj)} {q : Addr × Obj}
theorem end_same (F : Fr h₀ L h' m) (N : News h₀ L h' ((I, oI) :: (C, oC) :: (D, oD) :: nw)) (off : LCg.Off3 I C D nw) (hS : S nw) (r : rest y nw) : LCg.CompEnd h₀ L m s₁ I oI C oC D oD S rest y { s₁ with heap := h', toks := tk } := LCg.CompEnd.intro F N nw (fun _ h => h) off hS r
theorem end_one (F : Fr h₀ L h' m) (N : News h₀ L h' (q :: (I, oI) :: (C, oC) :: (D, oD) :: nw)) (off : LCg.Off3 I C D (q :: nw)) (hS : S (q :: nw)) (r : rest y (q :: nw)) : LCg.CompEnd h₀ L m s₁ I oI C oC D oD S rest y { s₁ with heap := h', toks := tk } :=
  LCg.CompEnd.intro F N (q :: nw) (fun a ha => by
    rcases List.mem_cons.mp ha with rfl | ha
    · exact .tail _ (.head _)
    · rcases List.mem_cons.mp ha with rfl | ha
      · exact .tail _ (.tail _ (.head _))
      · rcases List.mem_cons.mp ha with rfl | ha
        · exact .tail _ (.tail _ (.tail _ (.head _)))
        · rcases List.mem_cons.mp ha with rfl | ha
          · exact .head _
          · exact .tail _ (.tail _ (.tail _ (.tail _ ha)))) off hS r
end
/-- the texts drawn so far, and the pot behind them -/
def JP (cells : Addr) (g : Obj → List (Addr × Obj)) (i : Nat) (ys : List Value) (nw : List (Addr × Obj)) : Prop :=
  ∃ (P' : Pot) (tys : List Str), P'.Ok ∧ nw = g (P'.obj cells) ∧ StrsAre ys tys ∧ tys.length = i ∧ ∀ y ∈ tys, PyData.strOk y = true
theorem jp_snoc {cells : Addr} {g : Obj → List (Addr × Obj)} {i : Nat} {ys : List Value} {tys : List Str} {P' : Pot} {y : Str} {t : Tok} (hP : P'.Ok) (hs : StrsAre ys tys) (hl : tys.length = i) (ho : ∀ y ∈ tys, PyData.strOk y = true) (hy : PyData.strOk y = true) :
    JP cells g (i + 1) (ys ++ [Value.str y t]) (g (P'.obj cells)) :=
  ⟨P', tys ++ [y], hP, rfl, strs_snoc hs y t, by simp [hl], fun z hz => (List.mem_append.mp hz).elim (ho z) fun q => by rw [List.mem_singleton.mp q]; exact hy⟩
section
variable {prog : Program} {w : World} {A : Around} {h₀ : Heap} {L : Addr} {m : Str → Option Value} {env : Env} {elt : Expr} {x : Str} {scope : Scope} {cl : List (Str × Addr)} {s : Shared} {S : List (Addr × Obj) → Prop} {PP : Nat → Value → Prop} {Fin : List Value → List (Addr × Obj) → Prop} {news : List (Addr × Obj)}
theorem comp_dip {n : Nat} {cells pot : Addr} {P : Pot} {g : Obj → List (Addr × Obj)} (_hm : (pot, P.obj cells) ∈ news) (U : UpdF pot (P.obj cells) news g) (hP : P.Ok)
    (turn : ∀ i v ys tys (P' : Pot) I oI C oC D m₂ h tk (E' : Value → Shared → Prop), PP i v → P'.Ok → StrsAre ys tys → tys.length = i → (∀ y ∈ tys, PyData.strOk y = true) → LCg.NsObj oC m₂ → m₂ x = some v → Fr h₀ L h m → News h₀ L h ((I, oI) :: (C, oC) :: (D, LCg.lst ys) :: g (P'.obj cells)) → LCg.Off3 I C D (g (P'.obj cells)) → ((@Ne Nat I C) ∧ (@Ne Nat I D) ∧ (@Ne Nat C D)) →
      wpAny (model prog w) A (eval elt (compEnvC scope cl C env)) (LCg.CompEnd h₀ L m { s with heap := h, toks := tk } I oI C oC D (LCg.lst ys) S (fun y nw' => JP cells g (i + 1) (ys ++ [y]) nw')) E' { s with heap := h, toks := tk })
    (fin : ∀ ys tys (P' : Pot), P'.Ok → StrsAre ys tys → tys.length = n → (∀ y ∈ tys, PyData.strOk y = true) → Fin ys (g (P'.obj cells))) : LCg.CompRest prog w A h₀ L m env elt x scope cl s S PP Fin n 0 [] news := by
  have key : ∀ (j i : Nat) (ys : List Value) (nw : List (Addr × Obj)), i + j = n → JP cells g i ys nw → LCg.CompRest prog w A h₀ L m env elt x scope cl s S PP Fin j i ys nw := by
    intro j
    induction j with
    | zero =>
      rintro i ys nw hi ⟨P', tys, hP', rfl, hs, hl, ho⟩
      exact LCg.CompRest.zero (fin ys tys P' hP' hs (by omega) ho)
    | succ j ih =>
      rintro i ys nw hi ⟨P', tys, hP', rfl, hs, hl, ho⟩
      refine LCg.CompRest.succ ?_
      intro v I oI C oC D m₂ h tk E' hv hC hx F N off ne
      refine wpAny_mono (turn i v ys tys P' I oI C oC D m₂ h tk E' hv hP' hs hl ho hC hx F N off ne) (fun y s₂ hq => ?_) fun _ _ e => e
      obtain ⟨h', tk', nw', e, F', N', off', hS, hJ⟩ := hq
      exact ⟨h', tk', nw', e, F', N', off', hS, ih (i + 1) _ _ (by omega) hJ⟩
  obtain ⟨pre, post, rfl, hg, _, _⟩ := U.split
  exact key n 0 [] _ (by omega) ⟨P, [], hP, (hg _).symm, .nil, rfl, fun _ h => nomatch h⟩
end
theorem off3I {I C D : Addr} {l : List (Addr × Obj)} (h : LCg.Off3 I C D l) : ∀ p ∈ l, p.1 ≠ I := fun p hp => (h.mem p hp).1
theorem off3C {I C D : Addr} {l : List (Addr × Obj)} (h : LCg.Off3 I C D l) : ∀ p ∈ l, p.1 ≠ C := fun p hp => (h.mem p hp).2.1
theorem off3D {I C D : Addr} {l : List (Addr × Obj)} (h : LCg.Off3 I C D l) : ∀ p ∈ l, p.1 ≠ D := fun p hp => (h.mem p hp).2.2
theorem len3 {tys : List Str} {k : Int} (h : tys.length = (k - 0).toNat) (hk : k < 4) : tys.length ≤ 3 := by omega
--LINES
local macro_rules | `(tactic| k_all) => `(tactic| exact off_ne (by assumption) (by k_mem))
local macro_rules | `(tactic| k_ownIn) => `(tactic| (intro q9 hq9; (repeat (first | exact hq9 | refine List.Mem.tail _ ?_ | ((refine mem_app_r ?_); exact hq9) | refine mem_app_l ?_)); done))
example : True := by
  k_with "CompSrc" => (k_here; (rename RowsMark => mk9); k_dflt (refine' LCg.CompSrc.range (by rfl) (by k_asm) (by k_asm) (by assumption) ?q1 ?q2 ?q3 ?_; (case q1 => exact small_one (by l_bnd) (by l_bnd) (by l_bnd) (by l_bnd)); (case q2 => exact rangeSize_nat _ _); (case q3 => (rw [PySem.sizeLine_eq]; omega)); intro g'; (refine' comp_dip ?cM ?cU ?cP (fun i' v' ys' tys' P' I' oI' C' oC' D' m' h' tk' E' hv' hP' hs' hl' ho' hC' hx' F' N' off' ne' => ?_) (fun ys9 tys9 P9 hP9 hs9 hl9 ho9 => ?_); (case cM => k_mem); (case cU => k_updF); (case cP => assumption))); all_goals (first | (obtain ⟨t9', hv9'⟩ := hv'; subst hv9'; (try dsimp only at N' off'); (have oI' := off3I off'); (have oC' := off3C off'); (have oD' := off3D off'); (try k_fold)) | ((try dsimp only); (have hl39 : List.length tys9 ≤ 3 := len3 hl9 (by assumption)))))
  k_with "subscriptTail" => (k_here; (rename RowsMark => mk9); (with_reducible show wpAny _ _ (subscriptTail _ _ (Value.ref 183) (Value.int _ _)) _ _ _); k_dflt (refine' item_texts_K ?kF ?kX ?kl ?k2 ?k3 ?k4 ?k5 ?_; (case kF => k_asm); (case kX => k_asm); (case kl => k_is); (case k2 => decide +kernel); (case k3 => assumption); (case k4 => (simp only [List.length_cons, List.length_nil]; omega)); (case k5 => decide)); intro y9 ty9 hy9 ho9)
  k_with "CompEnd" => ((rename RowsMark => mk9); k_dflt (refine' end_same ?ca ?cb ?cc ?cd ?ce; (case ca => assumption); (case cb => assumption); (case cc => first | assumption | (simp only [LCg.Off3, and_true]; assumption)); (case cd => exact True.intro); (case ce => exact jp_snoc (by assumption) (by assumption) (by assumption) (by assumption) (by assumption))))
  k_with "eval ListComp" => (k_here; (rename RowsMark => mk9); (with_reducible show wpAny _ _ (eval (Expr.ListComp (Expr.Tuple _ _ _) _ _ _) _) _ _ _); (rename Fr _ _ _ _ => lF'); k_dflt (refine en_ListComp lF' (by rfl) (by decide) (by rfl) (by decide) (by rfl) (by rfl) (by decide) (by decide) (by decide) ?_))
  k_with "call type:enumerate" => (k_here; (rename RowsMark => mk9); (with_reducible show wpAny _ _ (call (Value.type _) [Value.ref _]) (EnSrc _ _ _ _ _ _ _) _ _); k_dflt (refine' en_call ?c1 ?c2 ?c3 ?c4 ?c5 ?c6 ?c7 ?_; (case c1 => rfl); (case c2 => assumption); (case c3 => assumption); (case c4 => k_mem); (case c5 => rfl); (case c6 => rfl); (case c7 => (rename StrsAre _ _ => hs9; (have hsl9 := strs_len hs9); rw [sizeLine_eq]; omega))); intro g')
  k_with "FinE" => ((rename RowsMark => mk9); (fail_if_success (rename PairsAre IntV _ (runO _ _ _ _) => hz9)); (unfold LCg.FinE); intro D' h' tk' F' N' o1'; (have o2' := off1_at o1'); clear o1'; (try simp only [List.nil_append, List.cons_append] at N' o2'); (try dsimp only))
  k_with "EnRest" => ((rename RowsMark => mk9); (refine en_all (fun ys9 rl9 hyl9 hrw9 hro9 => ?_)); (have hR9 := rowsAt_of (by assumption) hyl9 hrw9); (refine finE_rot ?_); (simp only [List.cons_append]))
  k_with "call ref" => (k_here; (with_reducible show wpAny _ _ (call (Value.ref 161) _) _ _ _); k_dflt (refine' ctrk_use (give_k ?c1 ?c2 ?c3 ?c4 ?c5 ?c6 ?c7 ?c8 ?c9 ?d1 ?d2 ?d3 ?d4 ?d5 ?d6 ?d7 ?d8 ?d9 ?e1 ?e2 ?e3 ?e4 ?e5 ?e6 ?e7 ?e8) ?B ?F ?X ?nN ?T ?kk ?dd ?uu ?_; (case nN => k_asm); (case c4 => k_mem); (case c5 => k_mem); (case c6 => k_mem); (case c7 => k_mem); (case c8 => k_mem); (case d2 => assumption); (case c1 => k_updF); (case c2 => (intro o9; (try dsimp only); k_updF)); (case c3 => (intro o9 o9'; (try dsimp only); k_updF)); (case c9 => (refine ⟨⟨?_, ?_, ?_⟩, ⟨?_, ?_, ?_⟩, ⟨?_, ?_, ?_⟩, ⟨?_, ?_, ?_⟩, ⟨?_, ?_, ?_⟩⟩ <;> first | assumption | k_ne)); (case d1 => (refine ⟨?_, ?_, ?_⟩ <;> first | assumption | k_ne)); (case d3 => k_ownIn); (case d4 => (refine ownOff3 ?_ ?_ ?_ <;> k_all)); (case d5 => k_asm); (case d6 => k_asm); (case d7 => k_asm); (case d8 => k_asm); (case d9 => assumption); (case e1 => first | assumption | omega); (case e2 => assumption); (case e3 => k_ownIn); (case e4 => (refine ownOff3 ?_ ?_ ?_ <;> k_all)); (case e5 => assumption); (case e6 => first | assumption | omega); (case e7 => assumption); (case e8 => assumption); (case B => k_asm); (case F => k_asm); (case X => k_asm); (case T => k_asm); (case kk => first | assumption | exact rfl); (case dd => ktr_room); (case uu => ktr_units)); (try dsimp only); intro vs9 nr9 ob9 kvs9 oo9 os9 new9 hD9 hoo9 hI9 hos9 hw9 h9 tk9 F9 N9; (try dsimp only at N9); (replace N9 := news_rot N9); (dsimp only [List.cons_append] at N9); (try k_sweep); (try dsimp only))
  k_with "exec For Tuple Call cons nil" => (k_here; (rename RowsMark => mk9); (rename Fr _ _ _ _ => lF'); (with_unfolding_all refine' For_turns lF' ?_; k_whole))
  k_with "call type:enumerate" => (k_here; (rename RowsMark => mk9); (with_reducible show wpAny _ _ (call (Value.type _) [Value.ref _]) (fun xv s₁ => wpAny _ _ (pyIter xv) (fun it s₂ => TurnsAt _ _ _ _ _ _ _ _ _ it s₂) _ s₁) _ _); k_dflt (refine' op_enum (a := Str.ofString "_law_op") (b := Str.ofString "_law_text") ?c1 ?c2 ?c3 ?c4 ?c5 ?c6 ?c7 ?c8 ?c9 ?d1 ?d2 ?d3 ?d4 ?d5 ?d6 ?d7 ?d8 ?d9 ?e1 ?e2 ?e3 ?e4 ?e5 ?e6 ?e7 (fun i' T1' O1' mvs' nm' ok' kvm' omo' ms' y' ty' Ta' t' h' tk' u' I' o1' o2' rest' hKD' hmo' hMo' hms' hT' hTl' hOl' hI' hTa' F' N' hend' => ?_) (fun u' h' tk' mvs' nm' ok' kvm' omo' ms' F' N' hKD' hmo' hMo' hms' hml' => ?_); (case c1 => rfl); (case c2 => assumption); (case c3 => assumption); (case c4 => k_mem); (case c5 => rfl); (case c6 => exact rfl); (case c7 => assumption); (case c8 => k_mem); (case c9 => k_mem); (case d1 => k_mem); (case d2 => k_updF); (case d3 => (intro o9; (try dsimp only); k_updF)); (case d4 => (intro o9 o9'; (try dsimp only); k_updF)); (case d5 => rfl); (case d6 => (refine ⟨?_, ?_, ?_⟩ <;> first | assumption | k_ne)); (case d7 => assumption); (case d8 => k_asm); (case d9 => k_asm); (case e1 => assumption); (case e2 => assumption); (case e3 => assumption); (case e4 => first | assumption | omega); (case e5 => first | assumption | omega); (case e6 => assumption); (case e7 => assumption)); (try k_lt hI'); (try dsimp only at N'); (try dsimp only))
  k_with "UnrEndW" => ((rename RowsMark => mk9); (rename ∀ (h' : Heap) (tk' : Nat), _ => hend9); k_dflt (refine' hend9 _ _ _ _ _ _ _ _ _ ?k1 ?k2 ?k3 ?k4 ?k5 ?k6 ?k7; (case k1 => assumption); (case k2 => assumption); (case k3 => assumption); (case k4 => assumption); (case k5 => assumption); (case k6 => assumption); (case k7 => (intro z9 h19 h29; simp [h19, h29]))))
  exact trivial
--END
section
variable {prog : Program} {w : World} {p : Program} {loose : List Str} {mean : ExcName → Option Value} {mg mb : Str → Option Value}
  {pot cells : Addr} {P : Pot} {cs : List Value} {ns : List Int} {nc : Nat}
  {x dx ti oa : Addr} {last : Int} {lt : Tok} {K : Ks}
  {t dt rw bt : Addr} {h1 h2 : Int} {k1 k2 : Tok} {n nr : Nat} {own : List (Addr × Obj)} {ob oo omo : Obj} {kvs : List (Str × Value)} {vs : List Value}
  {M Mr Mk Mt Mo : Addr} {oM ok : Obj} {lastM : Int} {tlM : Tok} {mvs : List Value} {nm : Nat} {kvm : List (Str × Value)} {T : TS} {os ms : List (Int × Value)} {O : List (Int × Int)}
theorem by_rows
    (hch : (@LT.lt Nat _ pot rw) ∧ (@LT.lt Nat _ rw bt) ∧ (@LT.lt Nat _ bt oa) ∧ (@LT.lt Nat _ oa Mr) ∧ (@LT.lt Nat _ Mr Mk) ∧ (@LT.lt Nat _ Mk Mo)) (hoff : OwnOff own [pot, rw, bt, oa, Mr, Mk, Mo])
    (hc : (cells, listOf cs.toArray nc) ∈ own) (hIc : IntsAre cs ns) (hcl : ns.length ≤ 60) (hP : P.Ok)
    (hx : (x, instObj 178 dx) ∈ own) (hdx : (dx, namD t ti oa last lt K) ∈ own) (ht : (t, instObj 94 dt) ∈ own) (hdt : (dt, tabD rw bt h1 h2 k1 k2 n) ∈ own) (hD : ob.IsDictOf (strKind prog w) kvs) (lo : (bt == sysModules) = false)
    (hM : (M, oM) ∈ own) (hMD : oM.IsDictOf (strKind prog w) (modK Mr Mk Mt Mo lastM tlM)) (hKD : ok.IsDictOf (strKind prog w) kvm) (loK : (Mk == sysModules) = false)
    (hoo : oo.IsDictOf (intKind prog w) os) (loo : (oa == sysModules) = false) (hos : PairsAre IntV os O) (hmo : omo.IsDictOf (intKind prog w) ms) (lomo : (Mo == sysModules) = false) (hms : PairsAre IntV ms O) (hOl : O.length ≤ 90000)
    (hI : ImpRel T vs kvs own) (hMo : ModRel T mvs kvm) (hT : T.Ok) (hlen : T.rows.length ≤ 90000) :
    Ctr prog w p loose mean mg mb 233 [.ref pot, .ref x, .ref M] 60 600 ((pot, P.obj cells) :: (rw, listOf vs.toArray nr) :: (bt, ob) :: (oa, oo) :: (Mr, listOf mvs.toArray nm) :: (Mk, ok) :: (Mo, omo) :: own)
      (fun r news' => ∃ (P' : Pot) (vs' : List Value) (nr' : Nat) (ob' : Obj) (kvs' : List (Str × Value)) (mvs' : List Value) (nm' : Nat) (ok' : Obj) (kvm' : List (Str × Value)) (oo' omo' : Obj) (os' ms' : List (Int × Value)) (O' : List (Int × Int)) (own' : List (Addr × Obj)) (T' : TS), r = .bool true ∧
        news' = (pot, P'.obj cells) :: (rw, listOf vs'.toArray nr') :: (bt, ob') :: (oa, oo') :: (Mr, listOf mvs'.toArray nm') :: (Mk, ok') :: (Mo, omo') :: own' ∧
        P'.Ok ∧ ob'.IsDictOf (strKind prog w) kvs' ∧ ok'.IsDictOf (strKind prog w) kvm' ∧ ImpRel T' vs' kvs' own' ∧ ModRel T' mvs' kvm' ∧ T'.Ok ∧ T'.rows.length ≤ T.rows.length + 3 ∧
        oo'.IsDictOf (intKind prog w) os' ∧ omo'.IsDictOf (intKind prog w) ms' ∧ PairsAre IntV os' O' ∧ PairsAre IntV ms' O' ∧ O'.length ≤ O.length + 3 ∧
        OwnNew own own' [pot, rw, bt, oa, Mr, Mk, Mo]) := by
  intro dp un gd cn csc a ccd cl outer A₀ base h₀ L m s Q E B F X N Tp hk hd hu hret
  have mk9 : RowsMark := ⟨trivial⟩
  have hasc : AscL [pot, rw, bt, oa, Mr, Mk, Mo] := ⟨⟨hch.1, hch.2.1, hch.2.2.1, hch.2.2.2.1, hch.2.2.2.2.1, hch.2.2.2.2.2, trivial⟩⟩
  clear hch
  have hn1 : Off _ pot := ⟨hoff _ hc pot (by simp)⟩
  have hn2 : Off _ rw := ⟨hoff _ hx rw (by simp)⟩
  have hn3 : Off _ bt := ⟨hoff _ hx bt (by simp)⟩
  have hn4 : Off _ rw := ⟨hoff _ hdx rw (by simp)⟩
  have hn5 : Off _ bt := ⟨hoff _ hdx bt (by simp)⟩
  have hn6 : Off _ rw := ⟨hoff _ ht rw (by simp)⟩
  have hn7 : Off _ bt := ⟨hoff _ ht bt (by simp)⟩
  have hn8 : Off _ rw := ⟨hoff _ hdt rw (by simp)⟩
  have hn9 : Off _ bt := ⟨hoff _ hdt bt (by simp)⟩
  have hn10 : Off _ Mr := ⟨hoff _ hM Mr (by simp)⟩
  have hn11 : Off _ Mk := ⟨hoff _ hM Mk (by simp)⟩
  have hn12 : Off _ oa := ⟨hoff _ hx oa (by simp)⟩
  have hn13 : Off _ oa := ⟨hoff _ hdx oa (by simp)⟩
  have hn14 : Off _ Mo := ⟨hoff _ hM Mo (by simp)⟩
  have hn15 : Off _ oa := ⟨hoff _ ht oa (by simp)⟩
  have hn16 : Off _ oa := ⟨hoff _ hdt oa (by simp)⟩
  have fin : ∀ (P' : Pot) (vs' : List Value) (nr' : Nat) (ob' : Obj) (kvs' : List (Str × Value)) (mvs' : List Value) (nm' : Nat) (ok' : Obj) (kvm' : List (Str × Value)) (oo' omo' : Obj) (os' ms' : List (Int × Value)) (new l : List (Addr × Obj)) (tys : List Str) (h' : Heap) (tk' : Nat),
      Fr h₀ L h' m → News h₀ L h' l → (pot, P'.obj cells) ∈ l → (rw, listOf vs'.toArray nr') ∈ l → (bt, ob') ∈ l → (oa, oo') ∈ l → (Mr, listOf mvs'.toArray nm') ∈ l → (Mk, ok') ∈ l → (Mo, omo') ∈ l → P'.Ok → ob'.IsDictOf (strKind prog w) kvs' → ok'.IsDictOf (strKind prog w) kvm' → ImpRel (runT T tys tys.length) vs' kvs' (own ++ new) → ModRel (runT T tys tys.length) mvs' kvm' → oo'.IsDictOf (intKind prog w) os' → omo'.IsDictOf (intKind prog w) ms' → PairsAre IntV os' (runO T O tys tys.length) → PairsAre IntV ms' (runO T O tys tys.length) →
      tys.length ≤ 3 → (∀ y ∈ tys, PyData.strOk y = true) → OwnNew own (own ++ new) [pot, rw, bt, oa, Mr, Mk, Mo] →
      (∀ q ∈ own ++ new, q ∈ l) →
      Q (.bool true) { s with heap := h', toks := tk' } := by
    intro P' vs' nr' ob' kvs' mvs' nm' ok' kvm' oo' omo' os' ms' new l tys h' tk' F' N' n1 n2 n3 n4 n5 n6 n7 e1 e2 e3 e4 e5 e6 e7 e8 e9 e10 e11 e12 hs
    have l1 := @runT_len T tys tys.length
    have l2 := @runO_len T O tys tys.length
    refine hret _ _ _ _ ⟨P', vs', nr', ob', kvs', mvs', nm', ok', kvm', oo', omo', os', ms', _, own ++ new, _, rfl, rfl, e1, e2, e3, e4, e5, runT_ok hT e11 _, by omega, e6, e7, e8, e9, by omega, e12⟩ F' (news_sub N' ?_)
    intro q hq
    rcases List.mem_cons.mp hq with rfl | hq
    · exact n1
    rcases List.mem_cons.mp hq with rfl | hq
    · exact n2
    rcases List.mem_cons.mp hq with rfl | hq
    · exact n3
    rcases List.mem_cons.mp hq with rfl | hq
    · exact n4
    rcases List.mem_cons.mp hq with rfl | hq
    · exact n5
    rcases List.mem_cons.mp hq with rfl | hq
    · exact n6
    rcases List.mem_cons.mp hq with rfl | hq
    · exact n7
    exact hs q hq
  refine wpAny_call ?_
  k_dflt ktn_open
  k_steps
  refine' fin _ _ _ _ _ _ _ _ _ _ _ _ _ _ _ _ _ _ ?y1 ?y2 ?w1 ?w2 ?w3 ?w4 ?w5 ?w6 ?w7 ?y3 ?y4 ?y5 ?y6 ?y7 ?y8 ?y9 ?z1 ?z2 ?z3 ?z4 ?z5 ?z6
  case y1 => assumption
  case y2 => assumption
  case w1 => k_mem
  case w2 => k_mem
  case w3 => k_mem
  case w4 => k_mem
  case w5 => k_mem
  case w6 => k_mem
  case w7 => k_mem
  case y3 => assumption
  case y6 => assumption
  case y7 => assumption
  case y4 => k_asm
  case y5 => k_asm
  case y8 => k_asm
  case y9 => k_asm
  case z1 => assumption
  case z2 => assumption
  case z3 => assumption
  case z4 => assumption
  case z5 => ktd_rel
  case z6 =>
    intro q hq
    simp only [List.mem_cons, List.mem_append] at hq ⊢
    rcases hq with h | h <;> simp [h]
end

-- the walk's own switch and caches as in a file of its own
theorem switch_20 : True := by
  w_top off
  exact trivial
set_option genInjectivity false
set_option genSizeOfSpec false
/-- the addresses of one table of names and of its model -/
structure Side where
  (x dx t dt rw bt ti oa M Mr Mk Mt Mo : Addr)
  (h1 h2 : Int)
  (k1 k2 : Tok)
  (n : Nat)
def Side.muts (A : Side) : List Addr := [A.dx, A.rw, A.bt, A.ti, A.oa, A.M, A.Mr, A.Mk, A.Mt, A.Mo]
/-- what stands at them -/
structure St where
  (last : Int)
  (lt : Tok)
  (K : Ks)
  (vs : List Value)
  (nr : Nat)
  (ob : Obj)
  (kvs : List (Str × Value))
  (oti oo : Obj)
  (os ps : List (Int × Value))
  (oM : Obj)
  (tlM : Tok)
  (mvs : List Value)
  (nm : Nat)
  (ok : Obj)
  (kvm : List (Str × Value))
  (omt : Obj)
  (ts : List (Int × Value))
  (omo : Obj)
  (ms : List (Int × Value))
  (T : TS)
  (D : List (Int × Str))
  (O : List (Int × Int))
def St.led (A : Side) (S : St) : List (Addr × Obj) := [(A.dx, namD A.t A.ti A.oa S.last S.lt S.K), (A.rw, listOf S.vs.toArray S.nr), (A.bt, S.ob), (A.ti, S.oti), (A.oa, S.oo), (A.M, S.oM), (A.Mr, listOf S.mvs.toArray S.nm), (A.Mk, S.ok), (A.Mt, S.omt), (A.Mo, S.omo)]
structure Stat (A : Side) (own : List (Addr × Obj)) : Prop where
  hx : (A.x, instObj 178 A.dx) ∈ own
  ht : (A.t, instObj 94 A.dt) ∈ own
  hdt : (A.dt, tabD A.rw A.bt A.h1 A.h2 A.k1 A.k2 A.n) ∈ own
  lo : (A.bt == sysModules) = false
  lot : (A.ti == sysModules) = false
  loo : (A.oa == sysModules) = false
  loK : (A.Mk == sysModules) = false
  lom : (A.Mt == sysModules) = false
  lomo : (A.Mo == sysModules) = false
structure Good (prog : Program) (w : World) (A : Side) (S : St) (own : List (Addr × Obj)) : Prop where
  hD : S.ob.IsDictOf (strKind prog w) S.kvs
  hMD : S.oM.IsDictOf (strKind prog w) (modK A.Mr A.Mk A.Mt A.Mo S.last S.tlM)
  hKD : S.ok.IsDictOf (strKind prog w) S.kvm
  hti : S.oti.IsDictOf (intKind prog w) S.os
  hoo : S.oo.IsDictOf (intKind prog w) S.ps
  hmt : S.omt.IsDictOf (intKind prog w) S.ts
  hmo : S.omo.IsDictOf (intKind prog w) S.ms
  hI : ImpRel S.T S.vs S.kvs own
  hMo : ModRel S.T S.mvs S.kvm
  hT : S.T.Ok
  hos : PairsAre StrV S.os S.D
  hts : PairsAre StrV S.ts S.D
  hDo : ∀ q ∈ S.D, PyData.strOk q.2 = true
  hps : PairsAre IntV S.ps S.O
  hms : PairsAre IntV S.ms S.O
def Chain (pot : Addr) (A : Side) : Prop := @LT.lt Nat _ pot A.dx ∧ @LT.lt Nat _ A.dx A.rw ∧ @LT.lt Nat _ A.rw A.bt ∧ @LT.lt Nat _ A.bt A.ti ∧ @LT.lt Nat _ A.ti A.oa ∧ @LT.lt Nat _ A.oa A.M ∧ @LT.lt Nat _ A.M A.Mr ∧ @LT.lt Nat _ A.Mr A.Mk ∧ @LT.lt Nat _ A.Mk A.Mt ∧ @LT.lt Nat _ A.Mt A.Mo
theorem chain_asc {pot : Addr} {A : Side} (h : Chain pot A) : Asc [pot, A.dx, A.rw, A.bt, A.ti, A.oa, A.M, A.Mr, A.Mk, A.Mt, A.Mo] := ⟨h.1, h.2.1, h.2.2.1, h.2.2.2.1, h.2.2.2.2.1, h.2.2.2.2.2.1, h.2.2.2.2.2.2.1, h.2.2.2.2.2.2.2.1, h.2.2.2.2.2.2.2.2.1, h.2.2.2.2.2.2.2.2.2, trivial⟩
def Small (S : St) (k : Nat) : Prop := S.T.rows.length ≤ k ∧ S.O.length ≤ k ∧ S.D.length ≤ k
def Grow (S S' : St) : Prop := S'.T.rows.length ≤ S.T.rows.length + 3 ∧ S'.O.length ≤ S.O.length + 3 ∧ S'.D.length ≤ S.D.length + 3
def DonePost (prog : Program) (w : World) (A : Side) (S : St) (own : List (Addr × Obj)) (pot cells : Addr) (r : Value) (news' : List (Addr × Obj)) : Prop :=
  ∃ (P' : Pot) (S' : St) (own' : List (Addr × Obj)), r = .bool true ∧ news' = (pot, P'.obj cells) :: (S'.led A ++ own') ∧ P'.Ok ∧ Good prog w A S' own' ∧ Grow S S' ∧ OwnNew own own' (pot :: A.muts)

/-- no symbol and no dict of a symbol -/
def NotSym (o : Obj) : Prop := (∀ d, o ≠ instObj 31 d) ∧ ∀ n y g1 g2 q1 q2 tn tt nx, o ≠ symD n y g1 g2 q1 q2 tn tt nx
theorem notSym_nam {t ti oa : Addr} {last : Int} {lt : Tok} {K : Ks} : NotSym (namD t ti oa last lt K) := by
  refine ⟨fun d e => ?_, fun n y g1 g2 q1 q2 tn tt nx e => ?_⟩
  · exact absurd (congrArg Obj.data e) (by intro h; cases h)
  · have := congrArg Obj.data e
    simp at this
section
variable {prog : Program} {w : World}
theorem notSym_int {o : Obj} {kvs : List (Int × Value)} (h : o.IsDictOf (intKind prog w) kvs) : NotSym o := by
  obtain ⟨es, ep, _, hd, hk, _, _⟩ := h
  refine ⟨fun d e => ?_, fun n y g1 g2 q1 q2 tn tt nx e => ?_⟩
  · subst e; cases hd
  · subst e
    injection hd with h1 h2
    subst h1
    obtain ⟨k, hk1, _⟩ := hk ⟨g1, .str (Str.ofString "number") q1, .int n tn⟩ (by simp)
    cases hk1
theorem notSym_mod {o : Obj} {Mr Mk Mt Mo : Addr} {last : Int} {tl : Tok} (h : o.IsDictOf (strKind prog w) (modK Mr Mk Mt Mo last tl)) : NotSym o := by
  obtain ⟨es, ep, _, hd, _, hp, _⟩ := h
  refine ⟨fun d e => ?_, fun n y g1 g2 q1 q2 tn tt nx e => ?_⟩
  · subst e; cases hd
  · subst e
    injection hd with h1 h2
    subst h1
    have := hp.length
    simp at this
theorem impRel_offs {T : TS} {vs : List Value} {kvs : List (Str × Value)} {L : List (Addr × Obj)} {as : List Addr} {h₀ h : Heap} {A : Addr} (N : News h₀ A h L) (hI : ImpRel T vs kvs L) (hp : ∀ a ∈ as, ∃ o, (a, o) ∈ L ∧ NotSym o) : ImpRel T vs kvs (offs as L) := by
  refine ⟨hI.1, hI.2.1, fun n y e => ?_⟩
  obtain ⟨x, h1, dx, g1, g2, q1, q2, tn, tt, nx, m1, m2⟩ := hI.2.2 n y e
  refine ⟨x, h1, dx, g1, g2, q1, q2, tn, tt, nx, mem_offs.mpr ⟨m1, fun hm => ?_⟩, mem_offs.mpr ⟨m2, fun hm => ?_⟩⟩
  · obtain ⟨o, ho, hs⟩ := hp _ hm
    have e1 := (N _ ho).1
    rw [(N _ m1).1] at e1
    exact hs.1 _ (Option.some.inj e1).symm
  · obtain ⟨o, ho, hs⟩ := hp _ hm
    have e1 := (N _ ho).1
    rw [(N _ m2).1] at e1
    exact hs.2 _ _ _ _ _ _ _ _ _ (Option.some.inj e1).symm
variable {p : Program} {loose : List Str} {mean : ExcName → Option Value} {mg mb : Str → Option Value} {f : Addr} {as : List Value} {d u : Nat} {news : List (Addr × Obj)} {R : Value → List (Addr × Obj) → Prop}
theorem Ctr.weakN {news₁ : List (Addr × Obj)} {R₁ : Value → List (Addr × Obj) → Prop} (C : Ctr prog w p loose mean mg mb f as d u news₁ R₁) (h1 : ∀ q ∈ news₁, q ∈ news)
    (h2 : ∀ r n₁ h₀ L h', News h₀ L h' n₁ → R₁ r n₁ → ∃ n', R r n' ∧ ∀ q ∈ n', q ∈ n₁) : Ctr prog w p loose mean mg mb f as d u news R := by
  intro dp un gd cn cs a ccd cl outer A₀ base h₀ L m s Q E B F X N T hk hd hu hret
  refine C _ _ _ _ _ _ _ _ _ _ _ _ _ _ _ _ _ B F X (fun q hq => N q (h1 q hq)) T hk hd hu fun r n₁ h' tk' hR F' N' => ?_
  obtain ⟨n', hR', hs⟩ := h2 r n₁ h₀ L h' N' hR
  exact hret r n' h' tk' hR' F' fun q hq => N' q (hs q hq)
end
/-- the entries that a callee left as they were, taken out of its ledger's rest -/
theorem own_fold {pre own own₁ : List (Addr × Obj)} {adr as adr' : List Addr} (hpre : pre.map (·.1) = as) (hoff : OwnOff own as) (h : OwnNew (pre ++ own) own₁ adr) (ha : ∀ a ∈ adr', a ∈ adr ∨ a ∈ as) : OwnNew own (offs as own₁) adr' := by
  subst hpre
  refine ⟨fun q hq => mem_offs.mpr ⟨h.1 q (List.mem_append.mpr (.inr hq)), fun hm => hoff q hq _ hm rfl⟩, fun q hq => ?_⟩
  obtain ⟨h1, h2⟩ := mem_offs.mp hq
  rcases h.2 q h1 with h3 | ⟨h3, h4⟩
  · rcases List.mem_append.mp h3 with h3 | h3
    · exact absurd (List.mem_map.mpr ⟨q, h3, rfl⟩) h2
    · exact .inl h3
  · exact .inr ⟨fun hm => (ha _ hm).elim h3 h2, fun p' hp => h4 p' (List.mem_append.mpr (.inr hp))⟩
theorem ownOff_pre {pre own : List (Addr × Obj)} {adr : List Addr} (h1 : ∀ a ∈ pre.map (·.1), ∀ b ∈ adr, a ≠ b) (h2 : OwnOff own adr) : OwnOff (pre ++ own) adr := by
  intro q hq b hb
  rcases List.mem_append.mp hq with hq | hq
  · exact h1 _ (List.mem_map.mpr ⟨q, hq, rfl⟩) b hb
  · exact h2 q hq b hb
theorem ownOff_nth {own : List (Addr × Obj)} {adr : List Addr} {l : List Nat} (is js : List Nat) (h : Asc l) (hc : (is.all fun i => js.all fun j => decide (i < l.length) && decide (j < l.length) && decide (i ≠ j)) = true) (ho : own.map (·.1) = is.map (nth l)) (ha : adr = js.map (nth l)) : OwnOff own adr := by
  subst ha
  intro q hq b hb
  exact off_nth h hc q.1 (ho ▸ List.mem_map.mpr ⟨q, hq, rfl⟩) b hb
theorem nth_lt {l : List Nat} (h : Asc l) {i j : Nat} (hj : j < l.length) (hij : i < j) : nth l i < nth l j := by
  have e : ∀ {k : Nat} (hk : k < l.length), nth l k = l[k] := fun hk => by simp [nth, hk]
  rw [e hj, e (Nat.lt_trans hij hj)]
  exact List.pairwise_iff_getElem.mp h.pairwise i j _ hj hij
theorem sub_nth {α : Type} (l : List α) (d : α) (is : List Nat) (hc : (is.all fun i => decide (i < l.length)) = true) : ∀ q ∈ is.map (fun i => l.getD i d), q ∈ l := by
  intro q hq
  obtain ⟨i, hi, rfl⟩ := List.mem_map.mp hq
  have hlt := of_decide_eq_true (List.all_eq_true.mp hc i hi)
  have e : l.getD i d = l[i] := by simp [hlt]
  show l.getD i d ∈ l
  rw [e]
  exact List.getElem_mem hlt
theorem sub_app {α : Type} (l : List α) (d : α) (is : List Nat) (own : List α) (hc : (is.all fun i => decide (i < l.length)) = true) : ∀ q ∈ is.map (fun i => l.getD i d) ++ own, q ∈ l ++ own := by
  intro q hq
  rcases List.mem_append.mp hq with hq | hq
  · exact List.mem_append.mpr (.inl (sub_nth l d is hc q hq))
  · exact List.mem_append.mpr (.inr hq)
/-- the caller's ledger out of the callee's: new entries, old ones that still lie in the rest, and the rest less the old ones -/
theorem sub_back (new pre : List (Addr × Obj)) (d : Addr × Obj) (is : List Nat) {as : List Addr} {own₁ : List (Addr × Obj)} (hpre : ∀ q ∈ pre, q ∈ own₁) (hc : (is.all fun i => decide (i < (new ++ pre).length)) = true) :
    ∀ q ∈ is.map (fun i => (new ++ pre).getD i d) ++ offs as own₁, q ∈ new ++ own₁ := by
  intro q hq
  rcases List.mem_append.mp hq with hq | hq
  · rcases List.mem_append.mp (sub_nth _ d is hc q hq) with h | h
    · exact List.mem_append.mpr (.inl h)
    · exact List.mem_append.mpr (.inr (hpre q h))
  · exact List.mem_append.mpr (.inr (mem_offs.mp hq).1)
theorem ownOff_sub {own : List (Addr × Obj)} {adr adr' : List Addr} (h : OwnOff own adr) (hs : ∀ a ∈ adr', a ∈ adr) : OwnOff own adr' := fun q hq b hb => h q hq b (hs b hb)
section
variable {prog : Program} {w : World} {p : Program} {loose : List Str} {mean : ExcName → Option Value} {mg mb : Str → Option Value}
  {pot cells : Addr} {P : Pot} {cs : List Value} {ns : List Int} {nc : Nat} {A : Side} {S : St} {own : List (Addr × Obj)}
theorem done_symbols {deed : Int} {td : Tok} (hch : Chain pot A) (hoff : OwnOff own (pot :: A.muts)) (hc : (cells, listOf cs.toArray nc) ∈ own) (hIc : IntsAre cs ns) (hcl : ns.length ≤ 60) (hP : P.Ok)
    (hSt : Stat A own) (hG : Good prog w A S own) (hs : Small S 80000) (hd0 : 0 ≤ deed) (hd1 : deed < 6) :
    Ctr prog w p loose mean mg mb 223 [.ref pot, .ref A.x, .ref A.M, .int deed td] 60 600 ((pot, P.obj cells) :: (S.led A ++ own)) (DonePost prog w A S own pot cells) := by
  have hasc := chain_asc hch
  obtain ⟨c1, c2, c3, c4, c5, c6, c7, c8, c9, c10⟩ := id hch
  have up : ∀ q ∈ own, q ∈ [(A.dx, namD A.t A.ti A.oa S.last S.lt S.K), (A.ti, S.oti), (A.oa, S.oo), (A.M, S.oM), (A.Mt, S.omt), (A.Mo, S.omo)] ++ own := fun q hq => List.mem_append.mpr (.inr hq)
  refine Ctr.weakN (by_symbols (own := [(A.dx, namD A.t A.ti A.oa S.last S.lt S.K), (A.ti, S.oti), (A.oa, S.oo), (A.M, S.oM), (A.Mt, S.omt), (A.Mo, S.omo)] ++ own) (vs := S.vs) (nr := S.nr) (ob := S.ob) (mvs := S.mvs) (nm := S.nm) (ok := S.ok)
    ⟨by omega, by omega, by omega, by omega⟩ ?_ (up _ hc) hIc hcl hP (up _ hSt.hx) (.head _) (up _ hSt.ht) (up _ hSt.hdt) hG.hD hSt.lo (.tail _ (.tail _ (.tail _ (.head _)))) hG.hMD hG.hKD hSt.loK (hG.hI.mono up) hG.hMo hG.hT (by have := hs.1; omega) hd0 hd1) ?_ ?_
  · exact ownOff_pre (off_nth hasc (is := [1, 4, 5, 6, 9, 10]) (js := [0, 2, 3, 7, 8]) rfl) (ownOff_sub hoff (sub_nth (pot :: A.muts) 0 [0, 2, 3, 7, 8] rfl))
  · exact sub_app ((pot, P.obj cells) :: S.led A) (pot, P.obj cells) [0, 2, 3, 7, 8, 1, 4, 5, 6, 9, 10] own rfl
  · rintro r n₁ h₀ L h' N' ⟨P', vs', nr', ob', kvs', mvs', nm', ok', kvm', own₁, T', rfl, rfl, hP', hD', hKD', hI', hMo', hT', hl', hw⟩
    have hpre : ∀ q ∈ [(A.dx, namD A.t A.ti A.oa S.last S.lt S.K), (A.ti, S.oti), (A.oa, S.oo), (A.M, S.oM), (A.Mt, S.omt), (A.Mo, S.omo)], q ∈ own₁ := fun q hq => hw.1 q (List.mem_append.mpr (.inl hq))
    have N₁ : News h₀ L h' own₁ := fun q hq => N' q (.tail _ (.tail _ (.tail _ (.tail _ (.tail _ hq)))))
    refine ⟨_, ⟨P', { S with vs := vs', nr := nr', ob := ob', kvs := kvs', mvs := mvs', nm := nm', ok := ok', kvm := kvm', T := T' }, offs [A.dx, A.ti, A.oa, A.M, A.Mt, A.Mo] own₁, rfl, rfl, hP', ⟨hD', hG.hMD, hKD', hG.hti, hG.hoo, hG.hmt, hG.hmo, impRel_offs N₁ hI' ?_, hMo', hT', hG.hos, hG.hts, hG.hDo, hG.hps, hG.hms⟩, ⟨?_, ?_, ?_⟩, own_fold rfl (ownOff_sub hoff ?_) hw ?_⟩, ?_⟩
    · intro a ha
      simp only [List.mem_cons, List.not_mem_nil, or_false] at ha
      rcases ha with rfl | rfl | rfl | rfl | rfl | rfl
      · exact ⟨_, hpre _ (.head _), notSym_nam⟩
      · exact ⟨_, hpre _ (by simp only [List.mem_cons, true_or, or_true]), notSym_int hG.hti⟩
      · exact ⟨_, hpre _ (by simp only [List.mem_cons, true_or, or_true]), notSym_int hG.hoo⟩
      · exact ⟨_, hpre _ (by simp only [List.mem_cons, true_or, or_true]), notSym_mod hG.hMD⟩
      · exact ⟨_, hpre _ (by simp only [List.mem_cons, true_or, or_true]), notSym_int hG.hmt⟩
      · exact ⟨_, hpre _ (by simp only [List.mem_cons, true_or, or_true]), notSym_int hG.hmo⟩
    · show T'.rows.length ≤ S.T.rows.length + 3; omega
    · show S.O.length ≤ S.O.length + 3; omega
    · show S.D.length ≤ S.D.length + 3; omega
    · exact sub_nth (pot :: A.muts) 0 [1, 4, 5, 6, 9, 10] rfl
    · exact fun a ha => List.mem_append.mp (sub_nth ([pot, A.rw, A.bt, A.Mr, A.Mk] ++ [A.dx, A.ti, A.oa, A.M, A.Mt, A.Mo]) 0 [0, 5, 1, 2, 6, 7, 8, 3, 4, 9, 10] rfl a ha)
    · exact sub_back [(pot, P'.obj cells), (A.rw, listOf vs'.toArray nr'), (A.bt, ob'), (A.Mr, listOf mvs'.toArray nm'), (A.Mk, ok')] [(A.dx, namD A.t A.ti A.oa S.last S.lt S.K), (A.ti, S.oti), (A.oa, S.oo), (A.M, S.oM), (A.Mt, S.omt), (A.Mo, S.omo)] (pot, P'.obj cells) [0, 5, 1, 2, 6, 7, 8, 3, 4, 9, 10] hpre rfl
theorem done_titles (hch : Chain pot A) (hoff : OwnOff own (pot :: A.muts)) (hc : (cells, listOf cs.toArray nc) ∈ own) (hIc : IntsAre cs ns) (hcl : ns.length ≤ 60) (hP : P.Ok)
    (hSt : Stat A own) (hG : Good prog w A S own) (hs : Small S 80000) :
    Ctr prog w p loose mean mg mb 228 [.ref pot, .ref A.x, .ref A.M] 60 600 ((pot, P.obj cells) :: (S.led A ++ own)) (DonePost prog w A S own pot cells) := by
  have hasc := chain_asc hch
  obtain ⟨c1, c2, c3, c4, c5, c6, c7, c8, c9, c10⟩ := id hch
  have up : ∀ q ∈ own, q ∈ [(A.dx, namD A.t A.ti A.oa S.last S.lt S.K), (A.rw, listOf S.vs.toArray S.nr), (A.bt, S.ob), (A.oa, S.oo), (A.M, S.oM), (A.Mr, listOf S.mvs.toArray S.nm), (A.Mk, S.ok), (A.Mo, S.omo)] ++ own := fun q hq => List.mem_append.mpr (.inr hq)
  refine Ctr.weak (by_titles (own := [(A.dx, namD A.t A.ti A.oa S.last S.lt S.K), (A.rw, listOf S.vs.toArray S.nr), (A.bt, S.ob), (A.oa, S.oo), (A.M, S.oM), (A.Mr, listOf S.mvs.toArray S.nm), (A.Mk, S.ok), (A.Mo, S.omo)] ++ own)
    ⟨by omega, by omega⟩ ?_ (up _ hc) hIc hcl hP (up _ hSt.hx) (.head _) (.tail _ (.tail _ (.tail _ (.tail _ (.head _))))) hG.hMD hG.hti hSt.lot hG.hos hG.hmt hSt.lom hG.hts (by have := hs.2.2; omega) hG.hDo) ?_ ?_
  · exact ownOff_pre (off_nth hasc (is := [1, 2, 3, 5, 6, 7, 8, 10]) (js := [0, 4, 9]) rfl) (ownOff_sub hoff (sub_nth (pot :: A.muts) 0 [0, 4, 9] rfl))
  · exact sub_app ((pot, P.obj cells) :: S.led A) (pot, P.obj cells) [0, 4, 9, 1, 2, 3, 5, 6, 7, 8, 10] own rfl
  · rintro r n₁ ⟨P', oti', omt', os', ts', D', rfl, rfl, hP', h1, h2, h3, h4, h5, h6⟩
    refine ⟨_, ⟨P', { S with oti := oti', omt := omt', os := os', ts := ts', D := D' }, own, rfl, rfl, hP', ⟨hG.hD, hG.hMD, hG.hKD, h1, hG.hoo, h2, hG.hmo, hG.hI, hG.hMo, hG.hT, h3, h4, h6, hG.hps, hG.hms⟩, ⟨?_, ?_, ?_⟩, .refl⟩, ?_⟩
    · show S.T.rows.length ≤ S.T.rows.length + 3; omega
    · show S.O.length ≤ S.O.length + 3; omega
    · show D'.length ≤ S.D.length + 3; omega
    · exact sub_app [(pot, P'.obj cells), (A.ti, oti'), (A.Mt, omt'), (A.dx, namD A.t A.ti A.oa S.last S.lt S.K), (A.rw, listOf S.vs.toArray S.nr), (A.bt, S.ob), (A.oa, S.oo), (A.M, S.oM), (A.Mr, listOf S.mvs.toArray S.nm), (A.Mk, S.ok), (A.Mo, S.omo)] (pot, P'.obj cells) [0, 3, 4, 5, 1, 6, 7, 8, 9, 2, 10] own rfl
theorem done_rows (hch : Chain pot A) (hoff : OwnOff own (pot :: A.muts)) (hc : (cells, listOf cs.toArray nc) ∈ own) (hIc : IntsAre cs ns) (hcl : ns.length ≤ 60) (hP : P.Ok)
    (hSt : Stat A own) (hG : Good prog w A S own) (hs : Small S 80000) :
    Ctr prog w p loose mean mg mb 233 [.ref pot, .ref A.x, .ref A.M] 60 600 ((pot, P.obj cells) :: (S.led A ++ own)) (DonePost prog w A S own pot cells) := by
  have hasc := chain_asc hch
  obtain ⟨c1, c2, c3, c4, c5, c6, c7, c8, c9, c10⟩ := id hch
  have up : ∀ q ∈ own, q ∈ [(A.dx, namD A.t A.ti A.oa S.last S.lt S.K), (A.ti, S.oti), (A.M, S.oM), (A.Mt, S.omt)] ++ own := fun q hq => List.mem_append.mpr (.inr hq)
  refine Ctr.weakN (by_rows (own := [(A.dx, namD A.t A.ti A.oa S.last S.lt S.K), (A.ti, S.oti), (A.M, S.oM), (A.Mt, S.omt)] ++ own) (vs := S.vs) (nr := S.nr) (ob := S.ob) (oo := S.oo) (mvs := S.mvs) (nm := S.nm) (ok := S.ok) (omo := S.omo)
    ⟨by omega, by omega, by omega, by omega, by omega, by omega⟩ ?_ (up _ hc) hIc hcl hP (up _ hSt.hx) (.head _) (up _ hSt.ht) (up _ hSt.hdt) hG.hD hSt.lo (.tail _ (.tail _ (.head _))) hG.hMD hG.hKD hSt.loK hG.hoo hSt.loo hG.hps hG.hmo hSt.lomo hG.hms (by have := hs.2.1; omega) (hG.hI.mono up) hG.hMo hG.hT (by have := hs.1; omega)) ?_ ?_
  · exact ownOff_pre (off_nth hasc (is := [1, 4, 6, 9]) (js := [0, 2, 3, 5, 7, 8, 10]) rfl) (ownOff_sub hoff (sub_nth (pot :: A.muts) 0 [0, 2, 3, 5, 7, 8, 10] rfl))
  · exact sub_app ((pot, P.obj cells) :: S.led A) (pot, P.obj cells) [0, 2, 3, 5, 7, 8, 10, 1, 4, 6, 9] own rfl
  · rintro r n₁ h₀ L h' N' ⟨P', vs', nr', ob', kvs', mvs', nm', ok', kvm', oo', omo', os', ms', O', own₁, T', rfl, rfl, hP', hD', hKD', hI', hMo', hT', hl', hoo', hmo', hps', hms', hOl', hw⟩
    have hpre : ∀ q ∈ [(A.dx, namD A.t A.ti A.oa S.last S.lt S.K), (A.ti, S.oti), (A.M, S.oM), (A.Mt, S.omt)], q ∈ own₁ := fun q hq => hw.1 q (List.mem_append.mpr (.inl hq))
    have N₁ : News h₀ L h' own₁ := fun q hq => N' q (.tail _ (.tail _ (.tail _ (.tail _ (.tail _ (.tail _ (.tail _ hq)))))))
    refine ⟨_, ⟨P', { S with vs := vs', nr := nr', ob := ob', kvs := kvs', mvs := mvs', nm := nm', ok := ok', kvm := kvm', oo := oo', omo := omo', ps := os', ms := ms', O := O', T := T' }, offs [A.dx, A.ti, A.M, A.Mt] own₁, rfl, rfl, hP', ⟨hD', hG.hMD, hKD', hG.hti, hoo', hG.hmt, hmo', impRel_offs N₁ hI' ?_, hMo', hT', hG.hos, hG.hts, hG.hDo, hps', hms'⟩, ⟨hl', hOl', ?_⟩, own_fold rfl (ownOff_sub hoff ?_) hw ?_⟩, ?_⟩
    · intro a ha
      simp only [List.mem_cons, List.not_mem_nil, or_false] at ha
      rcases ha with rfl | rfl | rfl | rfl
      · exact ⟨_, hpre _ (.head _), notSym_nam⟩
      · exact ⟨_, hpre _ (by simp only [List.mem_cons, true_or, or_true]), notSym_int hG.hti⟩
      · exact ⟨_, hpre _ (by simp only [List.mem_cons, true_or, or_true]), notSym_mod hG.hMD⟩
      · exact ⟨_, hpre _ (by simp only [List.mem_cons, true_or, or_true]), notSym_int hG.hmt⟩
    · show S.D.length ≤ S.D.length + 3; omega
    · exact sub_nth (pot :: A.muts) 0 [1, 4, 6, 9] rfl
    · exact fun a ha => List.mem_append.mp (sub_nth ([pot, A.rw, A.bt, A.oa, A.Mr, A.Mk, A.Mo] ++ [A.dx, A.ti, A.M, A.Mt]) 0 [0, 7, 1, 2, 8, 3, 9, 4, 5, 10, 6] rfl a ha)
    · exact sub_back [(pot, P'.obj cells), (A.rw, listOf vs'.toArray nr'), (A.bt, ob'), (A.oa, oo'), (A.Mr, listOf mvs'.toArray nm'), (A.Mk, ok'), (A.Mo, omo')] [(A.dx, namD A.t A.ti A.oa S.last S.lt S.K), (A.ti, S.oti), (A.M, S.oM), (A.Mt, S.omt)] (pot, P'.obj cells) [0, 7, 1, 2, 8, 3, 9, 4, 5, 10, 6] hpre rfl
end

-- the walk's own switch and caches as in a file of its own
theorem switch_21 : True := by
  w_top off
  exact trivial
section
variable {prog : Program} {w : World} {p : Program} {loose : List Str} {mean : ExcName → Option Value} {mg mb : Str → Option Value} {f : Addr} {vs : List Value} {d u : Nat} {news own : List (Addr × Obj)} {A : Side} {S : St} {pot cells : Addr}
theorem done_k (C : Ctr prog w p loose mean mg mb f vs d u news (DonePost prog w A S own pot cells)) :
    CtrK prog w p loose mean mg mb f vs d u news (fun Sx => ∀ (P' : Pot) (S' : St) (own' : List (Addr × Obj)), P'.Ok → Good prog w A S' own' → Grow S S' → OwnNew own own' (pot :: A.muts) → Sx (.bool true) ((pot, P'.obj cells) :: (S'.led A ++ own'))) :=
  CtrK.of C (by rintro Sx kx rx news1 ⟨P', S', own', e1, e2, f0, f1, f2, f3⟩; subst e1; subst e2; exact kx P' S' own' f0 f1 f2 f3)
end
theorem mod_stored {Mr Mk Mt Mo : Addr} {last v : Int} {tl t : Tok} : stored (modK Mr Mk Mt Mo last tl) (Str.ofString "last") (Value.int v t) = modK Mr Mk Mt Mo v t := by
  simp only [PySem.stored, modK, List.any_cons, List.any_nil, List.map_cons, List.map_nil]
  rfl
section
variable {prog : Program} {w : World} {A : Around} {E : Value → Shared → Prop} {s : Shared} {h₀ : Heap} {L d : Addr} {news : List (Addr × Obj)} {o : Obj}
theorem set_last {v : Int} {tk t : Tok} {Mr Mk Mt Mo : Addr} {last : Int} {tl : Tok} {m : Str → Option Value} {g : Obj → List (Addr × Obj)} {Q : Unit → Shared → Prop} (F : Fr h₀ L s.heap m) (N : News h₀ L s.heap news) (U : UpdF d o news g) (hd : o.IsDictOf (strKind prog w) (modK Mr Mk Mt Mo last tl))
    (h : ∀ h' o', Fr h₀ L h' m → News h₀ L h' (g o') → o'.IsDictOf (strKind prog w) (modK Mr Mk Mt Mo v t) → Q () { s with heap := h', toks := s.toks + 1 }) : wpAny (model prog w) A (setItem (.ref d) (.str (Str.ofString "last") tk) (.int v t)) Q E s :=
  kda_set (knd := strKind prog w) F N U hd (strKind_is _ _ _ _) (by simp [sizeLine_eq]) fun h' o' F' N' hd' => h h' o' F' N' (mod_stored ▸ hd')
end
section
variable {prog : Program} {w : World} {p : Program} {loose : List Str} {mean : ExcName → Option Value} {mg mb : Str → Option Value}
  {x dx ti oa t : Addr} {last : Int} {lt : Tok} {K : Ks} {news : List (Addr × Obj)} {g1 : Obj → List (Addr × Obj)}
theorem fresh_last (U1 : UpdF dx (namD t ti oa last lt K) news g1) (hx : (x, instObj 178 dx) ∈ news) (hne : @Ne Nat x dx) :
    Ctr prog w p loose mean mg mb 119 [.ref x] 30 300 news (fun r news' => ∃ (tr lt' : Tok) (K' : Ks), r = .int (last + 1) tr ∧ news' = g1 (namD t ti oa (last + 1) lt' K')) := by
  refine Ctr.weak (nam_fresh (t := t) (ti := ti) (oa := oa) (last := last) (lt := lt) (K := K) (own := offs [dx] news) (tk := lt) (offs_off _) (mem_offs.mpr ⟨hx, by simp; exact hne⟩)) ?_ ?_
  · intro q hq
    rcases List.mem_cons.mp hq with rfl | hq
    · exact updF_self U1
    · exact (mem_offs.mp hq).1
  · rintro r n₁ ⟨tr, lt', K', rfl, rfl⟩
    refine ⟨_, ⟨tr, lt', K', rfl, rfl⟩, fun q hq => ?_⟩
    rcases updF_mem U1 hq with rfl | h
    · exact .head _
    · exact .tail _ h
theorem fresh_last_k (U1 : UpdF dx (namD t ti oa last lt K) news g1) (hx : (x, instObj 178 dx) ∈ news) (hne : @Ne Nat x dx) :
    CtrK prog w p loose mean mg mb 119 [.ref x] 30 300 news (fun Sx => ∀ (tr lt' : Tok) (K' : Ks), Sx (.int (last + 1) tr) (g1 (namD t ti oa (last + 1) lt' K'))) :=
  CtrK.of (fresh_last U1 hx hne) (by rintro Sx kx rx news1 ⟨tr, lt', K', e1, e2⟩; subst e1; subst e2; exact kx tr lt' K')
end
--LINES
example : True := by
  k_with "setItem ref str" => (k_here; (with_reducible show wpAny _ _ (setItem (Value.ref _) (Value.str (Str.ofString "last") _) (Value.int _ _)) _ _ _); k_dflt (refine' set_last ?F ?nN ?U ?d ?_; (case F => k_asm); (case nN => k_asm); (case d => assumption); (case U => k_updF)); intro h' o' F' N' hd'; (try dsimp only at N'); (try k_sweep))
  k_with "call ref" => (k_here; (with_reducible show wpAny _ _ (call (Value.ref 119) _) _ _ _); k_dflt (refine' ctrk_use (fresh_last_k ?c1 ?c2 ?c3) ?B ?F ?X ?nN ?T ?kk ?dd ?uu ?_; (case nN => k_asm); (case c2 => k_mem); (case c1 => k_updF); (case c3 => first | assumption | k_ne); (case B => k_asm); (case F => k_asm); (case X => k_asm); (case T => k_asm); (case kk => first | assumption | exact rfl); (case dd => ktr_room); (case uu => ktr_units)); (try dsimp only); intro tr9 lt9 K9 h9 tk9 F9 N9; (try dsimp only at N9); (try k_sweep); (try dsimp only))
  k_with "call ref" => (k_here; (with_reducible show wpAny _ _ (call (Value.ref 175) _) _ _ _); k_dflt (refine' ctrk_use (nam_fold_k ?c1) ?B ?F ?X ?nN ?T ?kk ?dd ?uu ?_; (case nN => k_asm); (case c1 => k_mem); (case B => k_asm); (case F => k_asm); (case X => k_asm); (case T => k_asm); (case kk => first | assumption | exact rfl); (case dd => ktr_room); (case uu => ktr_units)); (try dsimp only); intro  h9 tk9 F9 N9; (try k_sweep); (try dsimp only))
  k_with "call ref" => (k_here; (with_reducible show wpAny _ _ (call (Value.ref 223) _) _ _ _); k_dflt (refine' ctrk_use (done_k (done_symbols ?c1 ?c2 ?c3 ?c4 ?c5 ?c6 ?c7 ?c8 ?c9 ?d1 ?d2)) ?B ?F ?X ?nN ?T ?kk ?dd ?uu ?_; (case c7 => assumption); (case c8 => assumption); (case c1 => assumption); (case c2 => assumption); (case c3 => assumption); (case c4 => assumption); (case c5 => assumption); (case nN => k_asm); (case c6 => assumption); (case c9 => assumption); (case d1 => first | assumption | omega); (case d2 => first | assumption | omega); (case B => k_asm); (case F => k_asm); (case X => k_asm); (case T => k_asm); (case kk => first | assumption | exact rfl); (case dd => ktr_room); (case uu => ktr_units)); (try dsimp only); intro P9 S9 own9 hP9 hG9 hGr9 hw9 h9 tk9 F9 N9; (try k_sweep); (try dsimp only))
  k_with "call ref" => (k_here; (with_reducible show wpAny _ _ (call (Value.ref 228) _) _ _ _); k_dflt (refine' ctrk_use (done_k (done_titles ?c1 ?c2 ?c3 ?c4 ?c5 ?c6 ?c7 ?c8 ?c9)) ?B ?F ?X ?nN ?T ?kk ?dd ?uu ?_; (case c7 => assumption); (case c8 => assumption); (case c1 => assumption); (case c2 => assumption); (case c3 => assumption); (case c4 => assumption); (case c5 => assumption); (case nN => k_asm); (case c6 => assumption); (case c9 => assumption); (case B => k_asm); (case F => k_asm); (case X => k_asm); (case T => k_asm); (case kk => first | assumption | exact rfl); (case dd => ktr_room); (case uu => ktr_units)); (try dsimp only); intro P9 S9 own9 hP9 hG9 hGr9 hw9 h9 tk9 F9 N9; (try k_sweep); (try dsimp only))
  k_with "call ref" => (k_here; (with_reducible show wpAny _ _ (call (Value.ref 233) _) _ _ _); k_dflt (refine' ctrk_use (done_k (done_rows ?c1 ?c2 ?c3 ?c4 ?c5 ?c6 ?c7 ?c8 ?c9)) ?B ?F ?X ?nN ?T ?kk ?dd ?uu ?_; (case c7 => assumption); (case c8 => assumption); (case c1 => assumption); (case c2 => assumption); (case c3 => assumption); (case c4 => assumption); (case c5 => assumption); (case nN => k_asm); (case c6 => assumption); (case c9 => assumption); (case B => k_asm); (case F => k_asm); (case X => k_asm); (case T => k_asm); (case kk => first | assumption | exact rfl); (case dd => ktr_room); (case uu => ktr_units)); (try dsimp only); intro P9 S9 own9 hP9 hG9 hGr9 hw9 h9 tk9 F9 N9; (try k_sweep); (try dsimp only))
  exact trivial
--END
section
variable {prog : Program} {w : World} {p : Program} {loose : List Str} {mean : ExcName → Option Value} {mg mb : Str → Option Value}
  {pot cells : Addr} {P : Pot} {cs : List Value} {ns : List Int} {nc : Nat} {A : Side} {S : St} {own : List (Addr × Obj)}
theorem is_done (hch : Chain pot A) (hoff : OwnOff own (pot :: A.muts)) (hc : (cells, listOf cs.toArray nc) ∈ own) (hIc : IntsAre cs ns) (hcl : ns.length ≤ 60) (hP : P.Ok)
    (hSt : Stat A own) (hG : Good prog w A S own) (hs : Small S 80000) :
    Ctr prog w p loose mean mg mb 240 [.ref pot, .ref A.x, .ref A.M] 80 800 ((pot, P.obj cells) :: (S.led A ++ own)) (DonePost prog w A S own pot cells) := by
  intro dp un gd cn csc a ccd cl outer A₀ base h₀ L m s Q E B F X N Tp hk hd hu hret
  simp only [St.led, List.cons_append, List.nil_append] at N
  have hasc : AscL [pot, A.dx, A.rw, A.bt, A.ti, A.oa, A.M, A.Mr, A.Mk, A.Mt, A.Mo] := ⟨chain_asc hch⟩
  have hx := hSt.hx
  have hMD := hG.hMD
  have hn1 : Off cells pot := ⟨hoff _ hc pot (.head _)⟩
  have hn2 : Off A.x A.dx := ⟨hoff _ hx A.dx (.tail _ (.head _))⟩
  have hof : OwnOff own [pot, A.dx, A.rw, A.bt, A.ti, A.oa, A.M, A.Mr, A.Mk, A.Mt, A.Mo] := hoff
  refine wpAny_call ?_
  k_dflt ktr_enter
  k_steps
  · exact hret _ _ _ _ ⟨_, _, _, rfl, rfl, by assumption, by assumption, by assumption, by assumption⟩ (by assumption) (by assumption)
  · refine' hret _ _ _ _ ⟨_, { S with last := S.last + 1, lt := _, K := _, oM := _, tlM := _ }, own, rfl, rfl, ?y1, ⟨hG.hD, ?y2, hG.hKD, hG.hti, hG.hoo, hG.hmt, hG.hmo, hG.hI, hG.hMo, hG.hT, hG.hos, hG.hts, hG.hDo, hG.hps, hG.hms⟩, ⟨Nat.le_add_right _ _, Nat.le_add_right _ _, Nat.le_add_right _ _⟩, OwnNew.refl⟩ ?y3 ?y4
    case y3 => assumption
    case y4 =>
      simp only [St.led, List.cons_append, List.nil_append]
      exact news_tail (by assumption)
    case y1 => assumption
    case y2 => assumption
  · exact absurd rfl (by assumption)
  · exact hret _ _ _ _ ⟨_, _, _, rfl, rfl, by assumption, by assumption, by assumption, by assumption⟩ (by assumption) (by assumption)
  · exact hret _ _ _ _ ⟨_, _, _, rfl, rfl, by assumption, by assumption, by assumption, by assumption⟩ (by assumption) (by assumption)
end

-- the walk's own switch and caches as in a file of its own
theorem switch_22 : True := by
  w_top off
  exact trivial
/-- a mark: the walk is within law -/
structure LawMark : Prop where
  here : True
/-- the walk stops here -/
structure LawStop (P : Prop) : Prop where
  h : P
theorem lawStop {P : Prop} (h : LawStop P) : P := h.h
section
variable {prog : Program} {w : World} {p : Program} {loose : List Str} {mean : ExcName → Option Value} {mg mb : Str → Option Value}
  {pot cells bl ml : Addr} {cs : List Value} {ns : List Int} {nc nb nl : Nat} {A B : Side}
theorem notSym_list {l : List Value} {n : Nat} : NotSym (listOf l.toArray n) := by
  refine ⟨fun d e => ?_, fun n y g1 g2 q1 q2 tn tt nx e => ?_⟩
  · exact absurd (congrArg Obj.data e) (by intro h; cases h)
  · exact absurd (congrArg Obj.data e) (by intro h; cases h)
theorem notSym_bt {o : Obj} {T : TS} {vs : List Value} {kvs : List (Str × Value)} {L : List (Addr × Obj)} (h : o.IsDictOf (strKind prog w) kvs) (hI : ImpRel T vs kvs L) : NotSym o := by
  obtain ⟨es, ep, _, hd, _, hp, _⟩ := h
  refine ⟨fun d e => ?_, fun n y g1 g2 q1 q2 tn tt nx e => ?_⟩
  · subst e; cases hd
  · subst e
    injection hd with h1 h2
    subst h1
    cases hp with
    | @cons e kv es kvs' _ hv hp' =>
      have hP := hI.2.1
      generalize hk : T.known = kn at hP
      cases hP with
      | cons hb _ =>
        obtain ⟨hlt, _⟩ := List.getElem?_eq_some_iff.mp hb
        rw [hI.1] at hlt
        obtain ⟨x, hx, _⟩ := hI.2.2 _ _ (List.getElem?_eq_getElem hlt)
        rw [hb] at hx
        have := Option.some.inj hx
        simp at hv
        subst hv
        cases this
theorem notSym_mk {o : Obj} {T : TS} {vs : List Value} {kvs : List (Str × Value)} (h : o.IsDictOf (strKind prog w) kvs) (hM : ModRel T vs kvs) : NotSym o := by
  obtain ⟨es, ep, _, hd, _, hp, _⟩ := h
  refine ⟨fun d e => ?_, fun n y g1 g2 q1 q2 tn tt nx e => ?_⟩
  · subst e; cases hd
  · subst e
    injection hd with h1 h2
    subst h1
    cases hp with
    | @cons e kv es kvs' _ hv hp' =>
      cases hp' with
      | @cons e2 kv2 es2 kvs2 _ hv2 hp2 =>
        have hP := hM.2
        generalize hk : T.known = kn at hP
        cases hP with
        | cons hb hP' =>
          cases hP' with
          | cons hb2 _ =>
            obtain ⟨t, ht⟩ := hb2
            simp at hv2 ht
            subst ht
            cases hv2
theorem notSym_led {S : St} {own : List (Addr × Obj)} (hG : Good prog w A S own) : ∀ q ∈ S.led A, NotSym q.2 := by
  intro q hq
  simp only [St.led, List.mem_cons, List.not_mem_nil, or_false] at hq
  rcases hq with rfl | rfl | rfl | rfl | rfl | rfl | rfl | rfl | rfl | rfl
  · exact notSym_nam
  · exact notSym_list
  · exact notSym_bt hG.hD hG.hI
  · exact notSym_int hG.hti
  · exact notSym_int hG.hoo
  · exact notSym_mod hG.hMD
  · exact notSym_list
  · exact notSym_mk hG.hKD hG.hMo
  · exact notSym_int hG.hmt
  · exact notSym_int hG.hmo
theorem led_muts {S : St} : (S.led A).map (·.1) = A.muts := rfl
theorem Stat.mono {own own' : List (Addr × Obj)} (h : Stat A own) (hs : ∀ q ∈ own, q ∈ own') : Stat A own' := ⟨hs _ h.hx, hs _ h.ht, hs _ h.hdt, h.lo, h.lot, h.loo, h.loK, h.lom, h.lomo⟩
theorem Good.mono {S : St} {own own' : List (Addr × Obj)} (h : Good prog w A S own) (hs : ∀ q ∈ own, q ∈ own') : Good prog w A S own' := ⟨h.hD, h.hMD, h.hKD, h.hti, h.hoo, h.hmt, h.hmo, h.hI.mono hs, h.hMo, h.hT, h.hos, h.hts, h.hDo, h.hps, h.hms⟩
/-- the addresses of the two sides are apart -/
def Apart (pot : Addr) (A B : Side) : Prop := Chain pot A ∧ Chain pot B ∧ ∀ a ∈ A.muts, ∀ b ∈ B.muts, a ≠ b
theorem Apart.swap {pot : Addr} (h : Apart pot A B) : Apart pot B A := ⟨h.2.1, h.1, fun a ha b hb e => h.2.2 b hb a ha e.symm⟩
theorem chain_pot {pot : Addr} (h : Chain pot A) : ∀ a ∈ A.muts, a ≠ pot := by
  exact fun a ha => off_nth (chain_asc h) (is := [1, 2, 3, 4, 5, 6, 7, 8, 9, 10]) (js := [0]) rfl a ha pot (.head _)
/-- a deed on one side of the two -/
theorem done_one {P : Pot} {SA SB : St} {own : List (Addr × Obj)} (hA : Apart pot A B) (hoA : OwnOff own (pot :: A.muts)) (hoB : OwnOff own B.muts) (hc : (cells, listOf cs.toArray nc) ∈ own) (hIc : IntsAre cs ns) (hcl : ns.length ≤ 60) (hP : P.Ok)
    (hSt : Stat A own) (hG : Good prog w A SA own) (hGB : Good prog w B SB own) (hs : Small SA 80000) :
    Ctr prog w p loose mean mg mb 240 [.ref pot, .ref A.x, .ref A.M] 80 800 ((pot, P.obj cells) :: (SA.led A ++ (SB.led B ++ own)))
      (fun r news' => ∃ (P' : Pot) (SA' : St) (own' : List (Addr × Obj)), r = .bool true ∧ news' = (pot, P'.obj cells) :: (SA'.led A ++ (SB.led B ++ own')) ∧ P'.Ok ∧ Good prog w A SA' own' ∧ Good prog w B SB own' ∧ Grow SA SA' ∧ OwnNew own own' (pot :: (A.muts ++ B.muts))) := by
  have up : ∀ q ∈ own, q ∈ SB.led B ++ own := fun q hq => List.mem_append.mpr (.inr hq)
  have hoff : OwnOff (SB.led B ++ own) (pot :: A.muts) := by
    refine ownOff_pre (fun a ha b hb => ?_) hoA
    rw [led_muts] at ha
    rcases List.mem_cons.mp hb with rfl | hb
    · exact chain_pot hA.2.1 a ha
    · exact fun e => hA.2.2 b hb a ha e.symm
  refine Ctr.weakN (is_done hA.1 hoff (up _ hc) hIc hcl hP (hSt.mono up) (hG.mono up) hs) (fun q hq => hq) ?_
  rintro r n₁ h₀ L h' N' ⟨P', S', own₁, rfl, rfl, hP', hG', hGr, hw⟩
  have N₁ : News h₀ L h' own₁ := fun q hq => N' q (.tail _ (List.mem_append.mpr (.inr hq)))
  have hw' : OwnNew own (offs B.muts own₁) (pot :: (A.muts ++ B.muts)) := own_fold led_muts hoB hw (fun a ha => by
    rcases List.mem_cons.mp ha with h | h
    · exact .inl (by rw [h]; exact List.mem_cons_self)
    · exact (List.mem_append.mp h).elim (fun h => .inl (List.mem_cons_of_mem _ h)) .inr)
  refine ⟨_, ⟨P', S', offs B.muts own₁, rfl, rfl, hP', ?_, hGB.mono hw'.1, hGr, hw'⟩, fun q hq => ?_⟩
  · have hns : ∀ a ∈ B.muts, ∃ o, (a, o) ∈ own₁ ∧ NotSym o := by
      intro a ha
      rw [← led_muts (S := SB)] at ha
      obtain ⟨q, hq, rfl⟩ := List.mem_map.mp ha
      exact ⟨q.2, hw.1 q (List.mem_append.mpr (.inl hq)), notSym_led hGB q hq⟩
    exact ⟨hG'.hD, hG'.hMD, hG'.hKD, hG'.hti, hG'.hoo, hG'.hmt, hG'.hmo, impRel_offs N₁ hG'.hI hns, hG'.hMo, hG'.hT, hG'.hos, hG'.hts, hG'.hDo, hG'.hps, hG'.hms⟩
  · rcases List.mem_cons.mp hq with rfl | hq
    · exact .head _
    · refine .tail _ ?_
      rcases List.mem_append.mp hq with hq | hq
      · exact List.mem_append.mpr (.inl hq)
      · refine List.mem_append.mpr (.inr ?_)
        rcases List.mem_append.mp hq with hq | hq
        · exact hw.1 q (List.mem_append.mpr (.inl hq))
        · exact (mem_offs.mp hq).1
/-- all that stands behind the pot, after i turns -/
def LawR (prog : Program) (w : World) (pot cells bl ml : Addr) (cs : List Value) (nc nb nl : Nat) (A B : Side) (i : Nat) (own R : List (Addr × Obj)) : Prop :=
  ∃ (SA SB : St), R = SA.led A ++ (SB.led B ++ own) ∧ Good prog w A SA own ∧ Good prog w B SB own ∧ Small SA (3 * i) ∧ Small SB (3 * i) ∧ OwnOff own (pot :: (A.muts ++ B.muts)) ∧ Stat A own ∧ Stat B own ∧
    (cells, listOf cs.toArray nc) ∈ own ∧ (bl, listOf [Value.ref A.x, Value.ref B.x].toArray nb) ∈ own ∧ (ml, listOf [Value.ref A.M, Value.ref B.M].toArray nl) ∈ own
theorem off_new {own own' : List (Addr × Obj)} {adr : List Addr} (h : OwnOff own adr) (hw : OwnNew own own' adr) : OwnOff own' adr := by
  intro q hq b hb
  rcases hw.2 q hq with h1 | ⟨h1, _⟩
  · exact h q h1 b hb
  · exact fun e => h1 (e ▸ hb)
theorem law_doneA {P : Pot} {i : Nat} {own R : List (Addr × Obj)} (hA : Apart pot A B) (hIc : IntsAre cs ns) (hcl : ns.length ≤ 60) (hP : P.Ok) (hi : i ≤ 40) (hR : LawR prog w pot cells bl ml cs nc nb nl A B i own R) :
    Ctr prog w p loose mean mg mb 240 [.ref pot, .ref A.x, .ref A.M] 80 800 ((pot, P.obj cells) :: R)
      (fun r news' => ∃ (P' : Pot) (own' R' : List (Addr × Obj)), r = .bool true ∧ news' = (pot, P'.obj cells) :: R' ∧ P'.Ok ∧ LawR prog w pot cells bl ml cs nc nb nl A B (i + 1) own' R' ∧ OwnNew own own' (pot :: (A.muts ++ B.muts))) := by
  obtain ⟨SA, SB, rfl, hGA, hGB, hsA, hsB, hoff, hSA, hSB, hc, hb, hm⟩ := hR
  refine Ctr.weak (done_one hA (ownOff_sub hoff fun a ha => ?_) (ownOff_sub hoff fun a ha => ?_) hc hIc hcl hP hSA hGA hGB ⟨?_, ?_, ?_⟩) (fun _ h => h) ?_
  · rcases List.mem_cons.mp ha with rfl | ha
    · exact List.mem_cons_self
    · exact List.mem_cons_of_mem _ (List.mem_append.mpr (.inl ha))
  · exact List.mem_cons_of_mem _ (List.mem_append.mpr (.inr ha))
  · have := hsA.1; omega
  · have := hsA.2.1; omega
  · have := hsA.2.2; omega
  · rintro r n₁ ⟨P', SA', own', rfl, rfl, hP', hGA', hGB', hGr, hw⟩
    obtain ⟨s1, s2, s3⟩ := hsA
    obtain ⟨t1, t2, t3⟩ := hsB
    obtain ⟨u1, u2, u3⟩ := hGr
    exact ⟨_, ⟨P', own', _, rfl, rfl, hP', ⟨SA', SB, rfl, hGA', hGB', ⟨by omega, by omega, by omega⟩, ⟨by omega, by omega, by omega⟩, off_new hoff hw, hSA.mono hw.1, hSB.mono hw.1, hw.1 _ hc, hw.1 _ hb, hw.1 _ hm⟩, hw⟩, fun _ h => h⟩
theorem law_doneA_k {P : Pot} {i : Nat} {own R : List (Addr × Obj)} (hA : Apart pot A B) (hIc : IntsAre cs ns) (hcl : ns.length ≤ 60) (hP : P.Ok) (hi : i ≤ 40) (hR : LawR prog w pot cells bl ml cs nc nb nl A B i own R) :
    CtrK prog w p loose mean mg mb 240 [.ref pot, .ref A.x, .ref A.M] 80 800 ((pot, P.obj cells) :: R)
      (fun Sx => ∀ (P' : Pot) (own' R' : List (Addr × Obj)), P'.Ok → LawR prog w pot cells bl ml cs nc nb nl A B (i + 1) own' R' → OwnNew own own' (pot :: (A.muts ++ B.muts)) → Sx (.bool true) ((pot, P'.obj cells) :: R')) :=
  CtrK.of (law_doneA hA hIc hcl hP hi hR) (by rintro Sx kx rx news1 ⟨P', own', R', e1, e2, f0, f1, f2⟩; subst e1; subst e2; exact kx P' own' R' f0 f1 f2)
theorem law_doneB {P : Pot} {i : Nat} {own R : List (Addr × Obj)} (hA : Apart pot A B) (hIc : IntsAre cs ns) (hcl : ns.length ≤ 60) (hP : P.Ok) (hi : i ≤ 40) (hR : LawR prog w pot cells bl ml cs nc nb nl A B i own R) :
    Ctr prog w p loose mean mg mb 240 [.ref pot, .ref B.x, .ref B.M] 80 800 ((pot, P.obj cells) :: R)
      (fun r news' => ∃ (P' : Pot) (own' R' : List (Addr × Obj)), r = .bool true ∧ news' = (pot, P'.obj cells) :: R' ∧ P'.Ok ∧ LawR prog w pot cells bl ml cs nc nb nl A B (i + 1) own' R' ∧ OwnNew own own' (pot :: (A.muts ++ B.muts))) := by
  obtain ⟨SA, SB, rfl, hGA, hGB, hsA, hsB, hoff, hSA, hSB, hc, hb, hm⟩ := hR
  have perm : ∀ {X Y : List (Addr × Obj)} {o : List (Addr × Obj)} {e : Addr × Obj}, ∀ q ∈ e :: (Y ++ (X ++ o)), q ∈ e :: (X ++ (Y ++ o)) := by
    intro X Y o e q hq
    simp only [List.mem_cons, List.mem_append] at hq ⊢
    rcases hq with h | h | h | h <;> simp [h]
  have padr : ∀ {a : Addr}, a ∈ pot :: (A.muts ++ B.muts) → a ∈ pot :: (B.muts ++ A.muts) := by
    intro a hq
    simp only [List.mem_cons, List.mem_append] at hq ⊢
    rcases hq with h | h | h <;> simp [h]
  refine Ctr.weak (done_one hA.swap (ownOff_sub hoff fun a ha => ?_) (ownOff_sub hoff fun a ha => ?_) hc hIc hcl hP hSB hGB hGA ⟨?_, ?_, ?_⟩) perm ?_
  · rcases List.mem_cons.mp ha with rfl | ha
    · exact List.mem_cons_self
    · exact List.mem_cons_of_mem _ (List.mem_append.mpr (.inr ha))
  · exact List.mem_cons_of_mem _ (List.mem_append.mpr (.inl ha))
  · have := hsB.1; omega
  · have := hsB.2.1; omega
  · have := hsB.2.2; omega
  · rintro r n₁ ⟨P', SB', own', rfl, rfl, hP', hGB', hGA', hGr, hw⟩
    obtain ⟨s1, s2, s3⟩ := hsA
    obtain ⟨t1, t2, t3⟩ := hsB
    obtain ⟨u1, u2, u3⟩ := hGr
    have hw' : OwnNew own own' (pot :: (A.muts ++ B.muts)) := ⟨hw.1, fun q hq => (hw.2 q hq).imp id fun ⟨h1, h2⟩ => ⟨fun hm => h1 (padr hm), h2⟩⟩
    exact ⟨_, ⟨P', own', _, rfl, rfl, hP', ⟨SA, SB', rfl, hGA', hGB', ⟨by omega, by omega, by omega⟩, ⟨by omega, by omega, by omega⟩, off_new hoff hw', hSA.mono hw.1, hSB.mono hw.1, hw.1 _ hc, hw.1 _ hb, hw.1 _ hm⟩, hw'⟩, perm⟩
theorem law_doneB_k {P : Pot} {i : Nat} {own R : List (Addr × Obj)} (hA : Apart pot A B) (hIc : IntsAre cs ns) (hcl : ns.length ≤ 60) (hP : P.Ok) (hi : i ≤ 40) (hR : LawR prog w pot cells bl ml cs nc nb nl A B i own R) :
    CtrK prog w p loose mean mg mb 240 [.ref pot, .ref B.x, .ref B.M] 80 800 ((pot, P.obj cells) :: R)
      (fun Sx => ∀ (P' : Pot) (own' R' : List (Addr × Obj)), P'.Ok → LawR prog w pot cells bl ml cs nc nb nl A B (i + 1) own' R' → OwnNew own own' (pot :: (A.muts ++ B.muts)) → Sx (.bool true) ((pot, P'.obj cells) :: R')) :=
  CtrK.of (law_doneB hA hIc hcl hP hi hR) (by rintro Sx kx rx news1 ⟨P', own', R', e1, e2, f0, f1, f2⟩; subst e1; subst e2; exact kx P' own' R' f0 f1 f2)
theorem whole_one {S : St} {news own : List (Addr × Obj)} (hSt : Stat A own) (hG : Good prog w A S own) (hs : Small S 80000) (h1 : ∀ q ∈ S.led A, q ∈ news) (h2 : ∀ q ∈ own, q ∈ news) :
    Ctr prog w p loose mean mg mb 245 [.ref A.x, .ref A.M] 60 600 news (fun r news' => r = .bool true ∧ news' = news) := by
  have hm : ∀ q, q ∈ [(A.dx, namD A.t A.ti A.oa S.last S.lt S.K), (A.rw, listOf S.vs.toArray S.nr), (A.bt, S.ob), (A.ti, S.oti), (A.oa, S.oo), (A.M, S.oM), (A.Mr, listOf S.mvs.toArray S.nm), (A.Mk, S.ok), (A.Mt, S.omt), (A.Mo, S.omo)] → q ∈ news := h1
  refine is_whole (last := S.last) (lt := S.lt) (K := S.K) (vs := S.vs) (nr := S.nr) (ob := S.ob) (oo := S.oo) (mvs := S.mvs) (nm := S.nm) (ok := S.ok) (omo := S.omo) (h2 _ hSt.hx) (hm _ (.head _)) (h2 _ hSt.ht) (h2 _ hSt.hdt) (hm _ (by simp)) (hm _ (by simp)) (hm _ (by simp)) (hm _ (by simp)) (hm _ (by simp)) (hm _ (by simp)) hG.hD hSt.lo (hm _ (by simp)) hG.hMD hG.hKD hSt.loK hG.hoo hSt.loo hG.hps hG.hmo hSt.lomo hG.hms (hG.hI.mono h2) hG.hMo hG.hT (by have := hs.1; omega)
theorem law_wholeA {P : Pot} {i : Nat} {own R : List (Addr × Obj)} (hi : i ≤ 40) (hR : LawR prog w pot cells bl ml cs nc nb nl A B i own R) :
    Ctr prog w p loose mean mg mb 245 [.ref A.x, .ref A.M] 60 600 ((pot, P.obj cells) :: R) (fun r news' => r = .bool true ∧ news' = (pot, P.obj cells) :: R) := by
  obtain ⟨SA, SB, rfl, hGA, hGB, ⟨s1, s2, s3⟩, hsB, hoff, hSA, hSB, hc, hb, hm⟩ := hR
  refine whole_one hSA hGA ⟨by omega, by omega, by omega⟩ (fun q hq => ?_) (fun q hq => ?_)
  · exact List.mem_cons_of_mem _ (List.mem_append.mpr (.inl hq))
  · exact List.mem_cons_of_mem _ (List.mem_append.mpr (.inr (List.mem_append.mpr (.inr hq))))
theorem law_wholeA_k {P : Pot} {i : Nat} {own R : List (Addr × Obj)} (hi : i ≤ 40) (hR : LawR prog w pot cells bl ml cs nc nb nl A B i own R) :
    CtrK prog w p loose mean mg mb 245 [.ref A.x, .ref A.M] 60 600 ((pot, P.obj cells) :: R) (fun Sx => Sx (.bool true) ((pot, P.obj cells) :: R)) :=
  CtrK.of (law_wholeA hi hR) (by rintro Sx kx rx news1 ⟨e1, e2⟩; subst e1; subst e2; exact kx)
theorem law_wholeB {P : Pot} {i : Nat} {own R : List (Addr × Obj)} (hi : i ≤ 40) (hR : LawR prog w pot cells bl ml cs nc nb nl A B i own R) :
    Ctr prog w p loose mean mg mb 245 [.ref B.x, .ref B.M] 60 600 ((pot, P.obj cells) :: R) (fun r news' => r = .bool true ∧ news' = (pot, P.obj cells) :: R) := by
  obtain ⟨SA, SB, rfl, hGA, hGB, hsA, ⟨s1, s2, s3⟩, hoff, hSA, hSB, hc, hb, hm⟩ := hR
  refine whole_one hSB hGB ⟨by omega, by omega, by omega⟩ (fun q hq => ?_) (fun q hq => ?_)
  · exact List.mem_cons_of_mem _ (List.mem_append.mpr (.inr (List.mem_append.mpr (.inl hq))))
  · exact List.mem_cons_of_mem _ (List.mem_append.mpr (.inr (List.mem_append.mpr (.inr hq))))
theorem law_wholeB_k {P : Pot} {i : Nat} {own R : List (Addr × Obj)} (hi : i ≤ 40) (hR : LawR prog w pot cells bl ml cs nc nb nl A B i own R) :
    CtrK prog w p loose mean mg mb 245 [.ref B.x, .ref B.M] 60 600 ((pot, P.obj cells) :: R) (fun Sx => Sx (.bool true) ((pot, P.obj cells) :: R)) :=
  CtrK.of (law_wholeB hi hR) (by rintro Sx kx rx news1 ⟨e1, e2⟩; subst e1; subst e2; exact kx)
end

-- the walk's own switch and caches as in a file of its own
theorem switch_23 : True := by
  w_top off
  exact trivial
theorem notSym_iter {x left step : Int} : NotSym { cls := .type "range_iterator", dict := none, data := .fields #[rawInt x, rawInt left, rawInt step], slots := #[] } := by
  refine ⟨fun d e => ?_, fun n y g1 g2 q1 q2 tn tt nx e => ?_⟩
  · exact absurd (congrArg Obj.data e) (by intro h; cases h)
  · exact absurd (congrArg Obj.data e) (by intro h; cases h)
section
variable {prog : Program} {w : World} {pot cells bl ml : Addr} {cs : List Value} {nc nb nl : Nat} {A B : Side}
theorem lawR_mem {i : Nat} {own R : List (Addr × Obj)} (h : LawR prog w pot cells bl ml cs nc nb nl A B i own R) : ∀ q ∈ own, q ∈ R := by
  obtain ⟨SA, SB, rfl, _⟩ := h
  exact fun q hq => List.mem_append.mpr (.inr (List.mem_append.mpr (.inr hq)))
theorem lawR_pot {i : Nat} {own R : List (Addr × Obj)} (hA : Apart pot A B) (h : LawR prog w pot cells bl ml cs nc nb nl A B i own R) : ∀ q ∈ R, q.1 ≠ pot := by
  obtain ⟨SA, SB, rfl, _, _, _, _, hoff, _⟩ := h
  intro q hq
  rcases List.mem_append.mp hq with hq | hq
  · exact chain_pot hA.1 _ (by rw [← led_muts (S := SA)]; exact List.mem_map.mpr ⟨q, hq, rfl⟩)
  · rcases List.mem_append.mp hq with hq | hq
    · exact chain_pot hA.2.1 _ (by rw [← led_muts (S := SB)]; exact List.mem_map.mpr ⟨q, hq, rfl⟩)
    · exact hoff q hq _ List.mem_cons_self
/-- the loop's own objects come in -/
theorem lawR_in {i : Nat} {own it R : List (Addr × Obj)} (h : LawR prog w pot cells bl ml cs nc nb nl A B i own R) (ho : TbOff it ((pot, Pot.obj cells ⟨0, 0, 0, 0, 0⟩) :: R)) :
    LawR prog w pot cells bl ml cs nc nb nl A B i (own ++ it) (R ++ it) := by
  obtain ⟨SA, SB, rfl, hGA, hGB, hsA, hsB, hoff, hSA, hSB, hc, hb, hm⟩ := h
  have up : ∀ q ∈ own, q ∈ own ++ it := fun q hq => List.mem_append.mpr (.inl hq)
  refine ⟨SA, SB, by simp only [List.append_assoc], hGA.mono up, hGB.mono up, hsA, hsB, fun q hq b hb => ?_, hSA.mono up, hSB.mono up, up _ hc, up _ hb, up _ hm⟩
  rcases List.mem_append.mp hq with hq | hq
  · exact hoff q hq b hb
  · rcases List.mem_cons.mp hb with rfl | hb
    · exact ho q hq _ (.head _)
    · rcases List.mem_append.mp hb with hb | hb
      · rw [← led_muts (S := SA)] at hb
        obtain ⟨e, he, rfl⟩ := List.mem_map.mp hb
        exact ho q hq e (.tail _ (List.mem_append.mpr (.inl he)))
      · rw [← led_muts (S := SB)] at hb
        obtain ⟨e, he, rfl⟩ := List.mem_map.mp hb
        exact ho q hq e (.tail _ (List.mem_append.mpr (.inr (List.mem_append.mpr (.inl he)))))
/-- and go out again -/
theorem lawR_out {h₀ hp : Heap} {L I : Addr} {o : Obj} {i j : Nat} {own it own' R R' : List (Addr × Obj)} (h : LawR prog w pot cells bl ml cs nc nb nl A B i own R) (hI : ∀ q ∈ R, q.1 ≠ I) (hit : (I, o) ∈ it) (hns : NotSym o)
    (h2 : LawR prog w pot cells bl ml cs nc nb nl A B j own' R') (hw : OwnNew (own ++ it) own' (pot :: (A.muts ++ B.muts))) (N : News h₀ L hp R') :
    ∃ R'', LawR prog w pot cells bl ml cs nc nb nl A B j (offs [I] own') R'' ∧ (∀ q ∈ R'', q ∈ R') ∧ (∀ q ∈ R'', q.1 ≠ I) := by
  obtain ⟨SA, SB, rfl, hGA, hGB, hsA, hsB, hoff, hSA, hSB, hc, hb, hm⟩ := h
  obtain ⟨SA', SB', rfl, hGA', hGB', hsA', hsB', hoff', _, _, _, _, _⟩ := h2
  have up : ∀ q ∈ own, q ∈ offs [I] own' := fun q hq => mem_offs.mpr ⟨hw.1 q (List.mem_append.mpr (.inl hq)), fun h => hI q (List.mem_append.mpr (.inr (List.mem_append.mpr (.inr hq)))) (List.mem_singleton.mp h)⟩
  have dn : ∀ q ∈ offs [I] own', q ∈ own' := fun q hq => (mem_offs.mp hq).1
  have N' : News h₀ L hp own' := fun q hq => N q (List.mem_append.mpr (.inr (List.mem_append.mpr (.inr hq))))
  have hn : ∀ a ∈ [I], ∃ o, (a, o) ∈ own' ∧ NotSym o := fun a ha => ⟨o, by rw [List.mem_singleton.mp ha]; exact hw.1 _ (List.mem_append.mpr (.inr hit)), hns⟩
  have neA : ∀ a ∈ A.muts, a ≠ I := fun a ha => by
    rw [← led_muts (S := SA)] at ha
    obtain ⟨e, he, rfl⟩ := List.mem_map.mp ha
    exact hI e (List.mem_append.mpr (.inl he))
  have neB : ∀ a ∈ B.muts, a ≠ I := fun a ha => by
    rw [← led_muts (S := SB)] at ha
    obtain ⟨e, he, rfl⟩ := List.mem_map.mp ha
    exact hI e (List.mem_append.mpr (.inr (List.mem_append.mpr (.inl he))))
  refine ⟨_, ⟨SA', SB', rfl, ⟨hGA'.hD, hGA'.hMD, hGA'.hKD, hGA'.hti, hGA'.hoo, hGA'.hmt, hGA'.hmo, impRel_offs N' hGA'.hI hn, hGA'.hMo, hGA'.hT, hGA'.hos, hGA'.hts, hGA'.hDo, hGA'.hps, hGA'.hms⟩,
    ⟨hGB'.hD, hGB'.hMD, hGB'.hKD, hGB'.hti, hGB'.hoo, hGB'.hmt, hGB'.hmo, impRel_offs N' hGB'.hI hn, hGB'.hMo, hGB'.hT, hGB'.hos, hGB'.hts, hGB'.hDo, hGB'.hps, hGB'.hms⟩, hsA', hsB', fun q hq => hoff' q (dn q hq), hSA.mono up, hSB.mono up, up _ hc, up _ hb, up _ hm⟩, fun q hq => ?_, fun q hq => ?_⟩
  · rcases List.mem_append.mp hq with hq | hq
    · exact List.mem_append.mpr (.inl hq)
    · rcases List.mem_append.mp hq with hq | hq
      · exact List.mem_append.mpr (.inr (List.mem_append.mpr (.inl hq)))
      · exact List.mem_append.mpr (.inr (List.mem_append.mpr (.inr (dn q hq))))
  · rcases List.mem_append.mp hq with hq | hq
    · exact neA _ (by rw [← led_muts (S := SA')]; exact List.mem_map.mpr ⟨q, hq, rfl⟩)
    · rcases List.mem_append.mp hq with hq | hq
      · exact neB _ (by rw [← led_muts (S := SB')]; exact List.mem_map.mpr ⟨q, hq, rfl⟩)
      · exact fun e => (mem_offs.mp hq).2 (List.mem_singleton.mpr e)
end
section
variable {prog : Program} {w : World} {Ar : Around} {E : Value → Shared → Prop} {s : Shared} {env : Env} {h₀ : Heap} {body : List Stmt} {Q : Flow → Shared → Prop} {pot cells bl ml : Addr} {cs : List Value} {ns : List Int} {nc nb nl : Nat} {A B : Side}
def LawJ (prog : Program) (w : World) (xt xo : Str) (m₀ : Str → Option Value) (pot cells bl ml : Addr) (cs : List Value) (nc nb nl : Nat) (A B : Side) (i : Nat) (m : Str → Option Value) (nx : List (Addr × Obj)) : Prop :=
  (∃ (P : Pot) (own R : List (Addr × Obj)), nx = (pot, P.obj cells) :: R ∧ P.Ok ∧ LawR prog w pot cells bl ml cs nc nb nl A B i own R) ∧ ∀ z, z ≠ xt → z ≠ xo → m z = m₀ z
/-- what a turn of the law's loop must come to -/
def LawEnd (prog : Program) (w : World) (h₀ : Heap) (L : Addr) (xt xo : Str) (m₀ : Str → Option Value) (pot cells bl ml : Addr) (cs : List Value) (nc nb nl : Nat) (A B : Side) (i : Nat) (own : List (Addr × Obj)) (s₁ : Shared) (Qr : Value → Shared → Prop) (f : Flow) (s₂ : Shared) : Prop :=
  match f with
  | .ret v => Qr v s₂
  | .brk => False
  | _ => ∃ (h' : Heap) (tk' : Nat) (m' : Str → Option Value) (P' : Pot) (own' R' : List (Addr × Obj)), s₂ = { s₁ with heap := h', toks := tk' } ∧ Fr h₀ L h' m' ∧ News h₀ L h' ((pot, P'.obj cells) :: R') ∧ P'.Ok ∧ LawR prog w pot cells bl ml cs nc nb nl A B (i + 1) own' R' ∧ OwnNew own own' (pot :: (A.muts ++ B.muts)) ∧ (∀ z, z ≠ xt → z ≠ xo → m' z = m₀ z)
theorem law_range {xt xo : Str} {r : Addr} {b₀ : Int} {t₀ u₀ v₀ : Tok} {n : Nat} {m₀ : Str → Option Value} {P : Pot} {own R : List (Addr × Obj)} (hh : Ar.handled = none) (hr : IsRange s.heap r 0 b₀ 1 t₀ u₀ v₀) (hsmall : Builtin.Range.small 0 b₀ 1 = true) (hn : Builtin.Range.rangeSize 0 b₀ 1 = (n : Int))
    (F : Fr h₀ env.locals s.heap m₀) (N : News h₀ env.locals s.heap ((pot, P.obj cells) :: R)) (hP : P.Ok) (hA : Apart pot A B) (hR : LawR prog w pot cells bl ml cs nc nb nl A B 0 own R) (hn40 : n ≤ 40)
    (turn : ∀ (i : Nat) (k : Int) (t : Tok) (h : Heap) (tk : Nat) (u : Str → Option Value) (P' : Pot) (own' R' : List (Addr × Obj)), i ≤ 40 → P'.Ok → LawR prog w pot cells bl ml cs nc nb nl A B i own' R' → (cells, listOf cs.toArray nc) ∈ R' → (bl, listOf [Value.ref A.x, Value.ref B.x].toArray nb) ∈ R' → (ml, listOf [Value.ref A.M, Value.ref B.M].toArray nl) ∈ R' → OwnOff R' [pot] →
      Fr h₀ env.locals h (fun z => if z = xt then some (.int k t) else if z = xo then u z else m₀ z) → News h₀ env.locals h ((pot, P'.obj cells) :: R') →
      wpAny (model prog w) Ar (execs body env) (LawEnd prog w h₀ env.locals xt xo m₀ pot cells bl ml cs nc nb nl A B i own' { s with heap := h, toks := tk } (fun v s' => Q (.ret v) s')) E { s with heap := h, toks := tk })
    (done : ∀ (u : Str → Option Value) (h : Heap) (tk : Nat) (P' : Pot) (own' R' : List (Addr × Obj)), P'.Ok → LawR prog w pot cells bl ml cs nc nb nl A B n own' R' → (bl, listOf [Value.ref A.x, Value.ref B.x].toArray nb) ∈ R' → (ml, listOf [Value.ref A.M, Value.ref B.M].toArray nl) ∈ R' →
      Fr h₀ env.locals h (fun z => if z = xt then u z else if z = xo then u z else m₀ z) → News h₀ env.locals h ((pot, P'.obj cells) :: R') → Q .next { s with heap := h, toks := tk }) :
    wpAny (model prog w) Ar (pyIter (.ref r)) (fun it s₂ => LoopAtV prog w Ar h₀ env xt body Q E it s₂) E s := by
  refine wpAny_pyIter_range hr hsmall ?_
  refine ⟨s.heap.objs.size, [s.heap.objs.size], [s.heap.objs.size], n, _, _, m₀, _, LawJ prog w xt xo m₀ pot cells bl ml cs nc nb nl A B, rfl, Walks.range hh s.heap.objs.size 0 1 n, ?_, ?_, ?_, ?_, F.push _, (fun p hp => ⟨Heap.get?_push_of_some _ (N p hp).1, (N p hp).2⟩), ⟨⟨P, own, R, rfl, hP, hR⟩, fun _ _ _ => rfl⟩, ?_, ?_⟩
  · intro hm
    exact absurd F.ns.lt ((List.mem_singleton.mp hm) ▸ Nat.lt_irrefl _)
  · intro b hb
    rw [List.mem_singleton.mp hb]
    exact next_is_new F
  · intro p hp hI
    exact absurd (Heap.lt_size (N p hp).1) ((List.mem_singleton.mp hI) ▸ Nat.lt_irrefl _)
  · show IsRangeIter _ _ _ _ _
    rw [hn]; simpa using Heap.get?_push_size _ rfl
  · rintro i v m₁ news₁ s₁ it ⟨hh', tk', rfl⟩ hin ⟨t, rfl⟩ ⟨⟨P', own₁, R₁, rfl, hP', hR₁⟩, hm⟩ hoff hit _ hmem hst F₁ N₁
    have hI₀ : h₀.get? s.heap.objs.size = none := next_is_new F
    have hI : ∀ q ∈ (pot, P'.obj cells) :: R₁, q.1 ≠ s.heap.objs.size := fun q hq e => hoff q hq (List.mem_singleton.mpr e)
    have hio := hmem _ (List.mem_singleton.mpr rfl) hI₀ _ hst
    have hto : TbOff it ((pot, Pot.obj cells ⟨0, 0, 0, 0, 0⟩) :: R₁) := by
      intro q hq p' hp
      rw [List.mem_singleton.mp (hit q hq)]
      rcases List.mem_cons.mp hp with rfl | hp
      · exact fun e => hI _ (.head _) e.symm
      · exact fun e => hI p' (.tail _ hp) e.symm
    have hR₂ := lawR_in hR₁ hto
    have hpot := lawR_pot hA hR₂
    have mem₂ := lawR_mem hR₂
    have hx := hR₂
    obtain ⟨SA, SB, _, _, _, _, _, _, _, _, hc, hb, hml⟩ := hx
    have e : (fun y => if y = xt then some (Value.int (0 + (i : Int) * 1) t) else m₁ y) = fun z => if z = xt then some (Value.int (0 + (i : Int) * 1) t) else if z = xo then m₁ z else m₀ z := by
      funext y
      by_cases h1 : y = xt
      · simp [h1]
      · by_cases h2 : y = xo
        · simp [h2]
        · simp only [if_neg h1, if_neg h2]; exact hm y h1 h2
    rw [e] at F₁
    have N₂ : News h₀ env.locals hh' ((pot, P'.obj cells) :: (R₁ ++ it)) := fun p hp => N₁ p (by
      rcases List.mem_cons.mp hp with rfl | hp
      · exact List.mem_append.mpr (.inr (.head _))
      · exact (List.mem_append.mp hp).elim (fun h => List.mem_append.mpr (.inr (.tail _ h))) fun h => List.mem_append.mpr (.inl h))
    refine wpAny_mono (turn i _ t hh' tk' m₁ P' (own₁ ++ it) (R₁ ++ it) (by omega) hP' hR₂ (mem₂ _ hc) (mem₂ _ hb) (mem₂ _ hml) (fun q hq b hb => by rw [List.mem_singleton.mp hb]; exact hpot q hq) F₁ N₂) (fun f s₂ hq => ?_) fun _ _ e => e
    have fin : LawEnd prog w h₀ env.locals xt xo m₀ pot cells bl ml cs nc nb nl A B i (own₁ ++ it) { s with heap := hh', toks := tk' } (fun v s' => Q (.ret v) s') .next s₂ → LoopStepU h₀ env.locals [s.heap.objs.size] it (LawJ prog w xt xo m₀ pot cells bl ml cs nc nb nl A B (i + 1)) { s with heap := hh', toks := tk' } .next s₂ := by
      rintro ⟨h', tk₂, m', P₂, own₂, R₂, rfl, F', N', hP₂, hRR, hw, hm'⟩
      obtain ⟨R₃, hR₃, hs₃, hI₃⟩ := lawR_out hR₁ (fun q hq => hI q (.tail _ hq)) hio notSym_iter hRR hw (fun q hq => N' q (.tail _ hq))
      refine ⟨rfl, h', tk₂, m', (pot, P₂.obj cells) :: R₃, rfl, F', fun q hq => ?_, fun q hq => ?_, ⟨⟨P₂, _, R₃, rfl, hP₂, hR₃⟩, hm'⟩⟩
      · rcases List.mem_append.mp hq with hq | hq
        · exact N' q (.tail _ (lawR_mem hRR q (hw.1 q (List.mem_append.mpr (.inr hq)))))
        · rcases List.mem_cons.mp hq with rfl | hq
          · exact N' _ (.head _)
          · exact N' q (.tail _ (hs₃ q hq))
      · rcases List.mem_cons.mp hq with rfl | hq
        · exact fun h => hI (pot, P'.obj cells) (.head _) (List.mem_singleton.mp h)
        · exact fun h => hI₃ q hq (List.mem_singleton.mp h)
    cases f with
    | ret v => exact .ret hq
    | brk => exact hq.elim
    | next => exact .next (fin hq)
    | cont => exact .cont (fin hq)
  · rintro h' tk m' news' F' N' _ ⟨⟨P', own', R', rfl, hP', hR'⟩, hm⟩
    have hx := hR'
    obtain ⟨SA, SB, _, _, _, _, _, _, _, _, hc, hb, hml⟩ := hx
    refine done m' h' tk P' own' R' hP' hR' (lawR_mem hR' _ hb) (lawR_mem hR' _ hml) ?_ N'
    have e : (fun z => if z = xt then m' z else if z = xo then m' z else m₀ z) = m' := by
      funext y
      by_cases h1 : y = xt
      · simp [h1]
      · by_cases h2 : y = xo
        · simp [h2]
        · simp only [if_neg h1, if_neg h2]; exact (hm y h1 h2).symm
    rw [e]; exact F'
end

-- the walk's own switch and caches as in a file of its own
theorem switch_24 : True := by
  w_top off
  exact trivial
theorem seed_ok (a : Int) : 0 ≤ 23 + a.fmod 700001 ∧ 23 + a.fmod 700001 < 714025 := by
  have h1 := fmod_ge a (m := 700001) (by decide)
  have h2 := fmod_lt a (m := 700001) (by decide)
  omega
theorem len60 {f : Int → Int} {l : List Int} : (List.map f (List.take 60 l)).length ≤ 60 := by
  rw [List.length_map, List.length_take]; exact Nat.min_le_left _ _
section
variable {prog : Program} {w : World}
theorem news_nth {h₀ h : Heap} {L : Addr} {l : List (Addr × Obj)} (N : News h₀ L h l) (d : Addr × Obj) (is : List Nat) (hc : (is.all fun i => decide (i < l.length)) = true) : News h₀ L h (is.map (fun i => l.getD i d)) := news_sub N (sub_nth l d is hc)
theorem good_start {A : Side} {lt tl : Tok} {K : Ks} {nr nm : Nat} {ob oti oo oM ok omt omo : Obj} {own : List (Addr × Obj)}
    (hD : ob.IsDictOf (strKind prog w) []) (hti : oti.IsDictOf (intKind prog w) []) (hoo : oo.IsDictOf (intKind prog w) []) (hMD : oM.IsDictOf (strKind prog w) (modK A.Mr A.Mk A.Mt A.Mo 0 tl)) (hKD : ok.IsDictOf (strKind prog w) []) (hmt : omt.IsDictOf (intKind prog w) []) (hmo : omo.IsDictOf (intKind prog w) []) :
    Good prog w A ⟨0, lt, K, [], nr, ob, [], oti, oo, [], [], oM, tl, [], nm, ok, [], omt, [], omo, [], ⟨[], []⟩, [], []⟩ own :=
  ⟨hD, hMD, hKD, hti, hoo, hmt, hmo, ⟨rfl, .nil, fun n y e => by simp at e⟩, ⟨.nil, .nil⟩, TS.Ok.empty, .nil, .nil, (fun _ h => nomatch h), .nil, .nil⟩
theorem law_start {h₀ h : Heap} {L : Addr} {D D1 D3 pot cells bl ml : Addr} {o1 o2 o3 : Obj} {cs : List Value} {nc np nb nl : Nat} {seed : Int} {t1 t2 : Tok}
    {xA dxA tA dtA rwA btA tiA oaA MA MrA MkA MtA MoA xB dxB tB dtB rwB btB tiB oaB MB MrB MkB MtB MoB : Addr} {obA otiA ooA oMA okA omtA omoA obB otiB ooB oMB okB omtB omoB : Obj} {ltA tlA ltB tlB : Tok} {KA KB : Ks} {nrA nmA nA nrB nmB nB : Nat} {hA1 hA2 hB1 hB2 : Int} {kA1 kA2 kB1 kB2 : Tok}
    (N : News h₀ L h [(D, o1), (ml, listOf [Value.ref MA, Value.ref MB].toArray nl), (MoB, omoB), (MtB, omtB), (MkB, okB), (MrB, listOf ([] : List Value).toArray nmB), (MB, oMB), (MoA, omoA), (MtA, omtA), (MkA, okA), (MrA, listOf ([] : List Value).toArray nmA), (MA, oMA),
      (bl, listOf [Value.ref xA, Value.ref xB].toArray nb), (oaB, ooB), (tiB, otiB), (btB, obB), (rwB, listOf ([] : List Value).toArray nrB), (tB, instObj 94 dtB), (dtB, tabD rwB btB hB1 hB2 kB1 kB2 nB), (xB, instObj 178 dxB), (dxB, namD tB tiB oaB 0 ltB KB),
      (oaA, ooA), (tiA, otiA), (btA, obA), (rwA, listOf ([] : List Value).toArray nrA), (tA, instObj 94 dtA), (dtA, tabD rwA btA hA1 hA2 kA1 kA2 nA), (xA, instObj 178 dxA), (dxA, namD tA tiA oaA 0 ltA KA), (pot, listOf #[.ref cells, .int 0 t1, .int seed t2] np), (D1, o2), (cells, listOf cs.toArray nc), (D3, o3)])
    (hs : 0 ≤ seed ∧ seed < 714025)
    (hDA : obA.IsDictOf (strKind prog w) []) (htiA : otiA.IsDictOf (intKind prog w) []) (hooA : ooA.IsDictOf (intKind prog w) []) (hMDA : oMA.IsDictOf (strKind prog w) (modK MrA MkA MtA MoA 0 tlA)) (hKDA : okA.IsDictOf (strKind prog w) []) (hmtA : omtA.IsDictOf (intKind prog w) []) (hmoA : omoA.IsDictOf (intKind prog w) [])
    (hDB : obB.IsDictOf (strKind prog w) []) (htiB : otiB.IsDictOf (intKind prog w) []) (hooB : ooB.IsDictOf (intKind prog w) []) (hMDB : oMB.IsDictOf (strKind prog w) (modK MrB MkB MtB MoB 0 tlB)) (hKDB : okB.IsDictOf (strKind prog w) []) (hmtB : omtB.IsDictOf (intKind prog w) []) (hmoB : omoB.IsDictOf (intKind prog w) [])
    (loA : (btA == sysModules) = false) (lotA : (tiA == sysModules) = false) (looA : (oaA == sysModules) = false) (loKA : (MkA == sysModules) = false) (lomA : (MtA == sysModules) = false) (lomoA : (MoA == sysModules) = false)
    (loB : (btB == sysModules) = false) (lotB : (tiB == sysModules) = false) (looB : (oaB == sysModules) = false) (loKB : (MkB == sysModules) = false) (lomB : (MtB == sysModules) = false) (lomoB : (MoB == sysModules) = false)
    (hch : (@LT.lt Nat _ cells pot ∧ @LT.lt Nat _ pot dxA) ∧ (@LT.lt Nat _ dxA xA ∧ @LT.lt Nat _ xA dtA ∧ @LT.lt Nat _ dtA tA ∧ @LT.lt Nat _ tA rwA ∧ @LT.lt Nat _ rwA btA ∧ @LT.lt Nat _ btA tiA ∧ @LT.lt Nat _ tiA oaA) ∧ @LT.lt Nat _ oaA dxB ∧
      (@LT.lt Nat _ dxB xB ∧ @LT.lt Nat _ xB dtB ∧ @LT.lt Nat _ dtB tB ∧ @LT.lt Nat _ tB rwB ∧ @LT.lt Nat _ rwB btB ∧ @LT.lt Nat _ btB tiB ∧ @LT.lt Nat _ tiB oaB) ∧ (@LT.lt Nat _ oaB bl ∧ @LT.lt Nat _ bl MA) ∧
      (@LT.lt Nat _ MA MrA ∧ @LT.lt Nat _ MrA MkA ∧ @LT.lt Nat _ MkA MtA ∧ @LT.lt Nat _ MtA MoA) ∧ @LT.lt Nat _ MoA MB ∧ (@LT.lt Nat _ MB MrB ∧ @LT.lt Nat _ MrB MkB ∧ @LT.lt Nat _ MkB MtB ∧ @LT.lt Nat _ MtB MoB) ∧ @LT.lt Nat _ MoB ml) :
    ∃ (A B : Side) (P : Pot) (own R : List (Addr × Obj)), Apart pot A B ∧ P.Ok ∧ LawR prog w pot cells bl ml cs nc nb nl A B 0 own R ∧ News h₀ L h ((pot, P.obj cells) :: R) := by
  obtain ⟨⟨c1, c2⟩, ⟨a1, a2, a3, a4, a5, a6, a7⟩, c3, ⟨b1, b2, b3, b4, b5, b6, b7⟩, ⟨c4, c5⟩, ⟨e1, e2, e3, e4⟩, c6, ⟨f1, f2, f3, f4⟩, c7⟩ := hch
  have hG : Asc [cells, pot, dxA, xA, dtA, tA, rwA, btA, tiA, oaA, dxB, xB, dtB, tB, rwB, btB, tiB, oaB, bl, MA, MrA, MkA, MtA, MoA, MB, MrB, MkB, MtB, MoB, ml] :=
    ⟨c1, c2, a1, a2, a3, a4, a5, a6, a7, c3, b1, b2, b3, b4, b5, b6, b7, c4, c5, e1, e2, e3, e4, c6, f1, f2, f3, f4, c7, trivial⟩
  refine ⟨⟨xA, dxA, tA, dtA, rwA, btA, tiA, oaA, MA, MrA, MkA, MtA, MoA, hA1, hA2, kA1, kA2, nA⟩, ⟨xB, dxB, tB, dtB, rwB, btB, tiB, oaB, MB, MrB, MkB, MtB, MoB, hB1, hB2, kB1, kB2, nB⟩, ⟨0, seed, t1, t2, np⟩,
    [(xA, instObj 178 dxA), (tA, instObj 94 dtA), (dtA, tabD rwA btA hA1 hA2 kA1 kA2 nA), (xB, instObj 178 dxB), (tB, instObj 94 dtB), (dtB, tabD rwB btB hB1 hB2 kB1 kB2 nB), (cells, listOf cs.toArray nc), (bl, listOf [Value.ref xA, Value.ref xB].toArray nb), (ml, listOf [Value.ref MA, Value.ref MB].toArray nl)], _, ⟨?_, ?_, ?_⟩, ⟨Int.le_refl 0, hs.1, hs.2⟩,
    ⟨⟨0, ltA, KA, [], nrA, obA, [], otiA, ooA, [], [], oMA, tlA, [], nmA, okA, [], omtA, [], omoA, [], ⟨[], []⟩, [], []⟩, ⟨0, ltB, KB, [], nrB, obB, [], otiB, ooB, [], [], oMB, tlB, [], nmB, okB, [], omtB, [], omoB, [], ⟨[], []⟩, [], []⟩, rfl, good_start hDA htiA hooA hMDA hKDA hmtA hmoA, good_start hDB htiB hooB hMDB hKDB hmtB hmoB,
      ⟨Nat.zero_le _, Nat.zero_le _, Nat.zero_le _⟩, ⟨Nat.zero_le _, Nat.zero_le _, Nat.zero_le _⟩, ?_, ⟨.head _, .tail _ (.head _), .tail _ (.tail _ (.head _)), loA, lotA, looA, loKA, lomA, lomoA⟩, ⟨.tail _ (.tail _ (.tail _ (.head _))), .tail _ (.tail _ (.tail _ (.tail _ (.head _)))), .tail _ (.tail _ (.tail _ (.tail _ (.tail _ (.head _))))), loB, lotB, looB, loKB, lomB, lomoB⟩,
      .tail _ (.tail _ (.tail _ (.tail _ (.tail _ (.tail _ (.head _)))))), .tail _ (.tail _ (.tail _ (.tail _ (.tail _ (.tail _ (.tail _ (.head _))))))), .tail _ (.tail _ (.tail _ (.tail _ (.tail _ (.tail _ (.tail _ (.tail _ (.head _)))))))) ⟩, ?_⟩
  · exact ⟨nth_lt hG (i := 1) (j := 2) (by simp) (by decide), nth_lt hG (i := 2) (j := 6) (by simp) (by decide), a5, a6, a7, nth_lt hG (i := 9) (j := 19) (by simp) (by decide), e1, e2, e3, e4⟩
  · exact ⟨nth_lt hG (i := 1) (j := 10) (by simp) (by decide), nth_lt hG (i := 10) (j := 14) (by simp) (by decide), b5, b6, b7, nth_lt hG (i := 17) (j := 24) (by simp) (by decide), f1, f2, f3, f4⟩
  · exact off_nth hG (is := [2, 6, 7, 8, 9, 19, 20, 21, 22, 23]) (js := [10, 14, 15, 16, 17, 24, 25, 26, 27, 28]) rfl
  · exact ownOff_nth [3, 5, 4, 11, 13, 12, 0, 18, 29] [1, 2, 6, 7, 8, 9, 19, 20, 21, 22, 23, 10, 14, 15, 16, 17, 24, 25, 26, 27, 28] hG rfl rfl rfl
  · exact news_nth N (D, o1) [29, 28, 24, 23, 22, 21, 11, 10, 9, 8, 7, 20, 16, 15, 14, 13, 6, 5, 4, 3, 2, 27, 25, 26, 19, 17, 18, 31, 12, 1] rfl
end

-- the walk's own switch and caches as in a file of its own
theorem switch_25 : True := by
  w_top off
  exact trivial
/-- a mark: the walk is at law's loop -/
structure LoopMark : Prop where
  here : True
theorem len60_of {cs : List Value} {f : Int → Int} {l : List Int} (_h : IntsAre cs (List.map f (List.take 60 l))) : (List.map f (List.take 60 l)).length ≤ 60 := len60
theorem law_go {X G : Prop} (h : X) (k : X → G) : G := k h
section
variable {prog : Program} {w : World} {h₀ h' : Heap} {L : Addr} {xt xo : Str} {m₀ m' : Str → Option Value} {pot cells bl ml : Addr} {cs : List Value} {nc nb nl : Nat} {A B : Side} {i : Nat} {own own' R' : List (Addr × Obj)} {s₁ : Shared} {Qr : Value → Shared → Prop} {P' : Pot} {tk' : Nat}
theorem law_end (F : Fr h₀ L h' m') (N : News h₀ L h' ((pot, P'.obj cells) :: R')) (hP : P'.Ok) (hR : LawR prog w pot cells bl ml cs nc nb nl A B (i + 1) own' R') (hw : OwnNew own own' (pot :: (A.muts ++ B.muts))) (hm : ∀ z, z ≠ xt → z ≠ xo → m' z = m₀ z) :
    LawEnd prog w h₀ L xt xo m₀ pot cells bl ml cs nc nb nl A B i own s₁ Qr .next { s₁ with heap := h', toks := tk' } := ⟨h', tk', m', P', own', R', rfl, F, N, hP, hR, hw, hm⟩
end
--LINES
example : True := by
  k_with "call ref" => (k_here; (rename LawMark => mk9); (with_reducible show wpAny _ _ (call (Value.ref 178) _) _ _ _); k_dflt (refine' ctrk_use mk_names_k ?B ?F ?X ?nN ?T ?kk ?dd ?uu ?_; (case nN => k_asm); (case B => k_asm); (case F => k_asm); (case X => k_asm); (case T => k_asm); (case kk => first | assumption | exact rfl); (case dd => ktr_room); (case uu => ktr_units)); (try dsimp only); intro x9 dx9 t9 dt9 rw9 bt9 ti9 oa9 ob9 oti9 oo9 lt9 K9 g1 g2 q1 q2 m9 nr9 hD9 hti9 hoo9 lo1 lo2 lo3 l1 l2 l3 l4 l5 l6 l7 l8 h9 tk9 F9 N9; (simp only [AllLt, and_true] at l1); (try k_sweep); (try dsimp only))
  k_with "call ref" => (k_here; (rename LawMark => mk9); (with_reducible show wpAny _ _ (call (Value.ref 202) _) _ _ _); k_dflt (refine' ctrk_use mk_model_k ?B ?F ?X ?nN ?T ?kk ?dd ?uu ?_; (case nN => k_asm); (case B => k_asm); (case F => k_asm); (case X => k_asm); (case T => k_asm); (case kk => first | assumption | exact rfl); (case dd => ktr_room); (case uu => ktr_units)); (try dsimp only); intro M9 Mr9 Mk9 Mt9 Mo9 oM9 ok9 omt9 omo9 tl9 nm9 hMD9 hKD9 hmt9 hmo9 lo1 lo2 lo3 l1 l2 l3 l4 l5 h9 tk9 F9 N9; (simp only [AllLt, and_true] at l1); (try k_sweep); (try dsimp only))
  k_with "exec For Name Call cons nil" => (k_here; (rename LawMark => mk9); refine lawStop ?_)
  k_with "exec For Name Call cons nil" => (k_here; (rename LoopMark => mk9); (rename Fr _ _ _ _ => lF'); (with_unfolding_all refine' For_invVF lF' ?k1 ?k2 ?_; (case k1 => exact rfl); (case k2 => exact rfl); k_whole))
  k_with "pyIter ref" => (k_here; (rename LoopMark => mk9); k_dflt (refine' law_range (xt := Str.ofString "_law_turn") (xo := Str.ofString "_law_own") ?k1 ?k2 ?k3 ?k4 ?k5 ?k6 ?k7 ?k8 ?k9 ?l1 (fun i' k' t' h' tk' u' P' own' R' hi' hP' hR' hc' hb' hm' ho' F' N' => ?_) (fun u' h' tk' P' own' R' hP' hR' hb' hm' F' N' => ?_); (case k1 => rfl); (case k2 => assumption); (case k3 => exact small_one (by l_bnd) (by l_bnd) (by l_bnd) (by l_bnd)); (case k4 => exact rangeSize_nat _ _); (case k5 => k_asm); (case k6 => k_asm); (case k7 => assumption); (case k8 => assumption); (case k9 => assumption); (case l1 => omega)); (try dsimp only))
  k_with "call ref" => (k_here; (rename LoopMark => mk9); (with_reducible show wpAny _ _ (call (Value.ref 195) [_, Value.int 2 _]) _ _ _); k_dflt (refine' ctrk_use (dip_k ?c1 ?c2 ?c3 ?c4 ?c5 ?c6 ?c7) ?B ?F ?X ?nN ?T ?kk ?dd ?uu ?_; (case nN => k_asm); (case c1 => k_updF); (case c2 => k_mem); (case c3 => first | assumption | k_ne); (case c4 => assumption); (case c5 => assumption); (case c6 => assumption); (case c7 => first | decide | assumption | omega); (case B => k_asm); (case F => k_asm); (case X => k_asm); (case T => k_asm); (case kk => first | assumption | exact rfl); (case dd => ktr_room); (case uu => ktr_units)); (try dsimp only); intro k9 t9 P9 hk9 hk9' hP9 h9 tk9 F9 N9; (obtain hz9 | hz9 : k9 = 0 ∨ k9 = 1 := by omega) <;> subst hz9 <;> (try dsimp only at N9) <;> (try k_sweep) <;> (try dsimp only))
  k_with "subscriptTail" => (k_here; (rename LoopMark => mk9); (with_reducible show wpAny _ _ (subscriptTail _ _ (Value.ref _) (Value.int _ _)) _ _ _); k_dflt (refine' my_item ?k1 ?k2 ?k3 ?k4 ?k5 ?_; (case k1 => k_asm); (case k2 => k_mem); (case k3 => decide); (case k4 => decide); (case k5 => exact rfl); k_whole))
  k_with "call ref" => (k_here; (rename LoopMark => mk9); (with_reducible show wpAny _ _ (call (Value.ref 240) _) _ _ _); k_dflt (first | (refine' ctrk_use (law_doneA_k ?c1 ?c2 ?c3 ?c4 ?c5 ?c6) ?B ?F ?X ?nN ?T ?kk ?dd ?uu ?_; (case c1 => with_reducible assumption); (case nN => k_asm); (case c6 => with_reducible assumption); (case c2 => with_reducible assumption); (case c3 => with_reducible assumption); (case c4 => with_reducible assumption); (case c5 => with_reducible assumption); (case B => k_asm); (case F => k_asm); (case X => k_asm); (case T => k_asm); (case kk => first | assumption | exact rfl); (case dd => ktr_room); (case uu => ktr_units)) | (refine' ctrk_use (law_doneB_k ?c1 ?c2 ?c3 ?c4 ?c5 ?c6) ?B ?F ?X ?nN ?T ?kk ?dd ?uu ?_; (case c1 => with_reducible assumption); (case nN => k_asm); (case c6 => with_reducible assumption); (case c2 => with_reducible assumption); (case c3 => with_reducible assumption); (case c4 => with_reducible assumption); (case c5 => with_reducible assumption); (case B => k_asm); (case F => k_asm); (case X => k_asm); (case T => k_asm); (case kk => first | assumption | exact rfl); (case dd => ktr_room); (case uu => ktr_units))); (try dsimp only); intro P9 own9 R9 hP9 hR9 hw9 h9 tk9 F9 N9; (try k_sweep); (try dsimp only))
  k_with "call ref" => (k_here; (rename LoopMark => mk9); (with_reducible show wpAny _ _ (call (Value.ref 245) _) _ _ _); k_dflt (first | (refine' ctrk_use (law_wholeA_k ?c5 ?c6) ?B ?F ?X ?nN ?T ?kk ?dd ?uu ?_; (case nN => k_asm); (case c6 => with_reducible assumption); (case c5 => omega); (case B => k_asm); (case F => k_asm); (case X => k_asm); (case T => k_asm); (case kk => first | assumption | exact rfl); (case dd => ktr_room); (case uu => ktr_units)) | (refine' ctrk_use (law_wholeB_k ?c5 ?c6) ?B ?F ?X ?nN ?T ?kk ?dd ?uu ?_; (case nN => k_asm); (case c6 => with_reducible assumption); (case c5 => omega); (case B => k_asm); (case F => k_asm); (case X => k_asm); (case T => k_asm); (case kk => first | assumption | exact rfl); (case dd => ktr_room); (case uu => ktr_units))); (try dsimp only); intro  h9 tk9 F9 N9; (try k_sweep); (try dsimp only))
  k_with "LawEnd" => ((rename LoopMark => mk9); k_dflt (refine' law_end ?k1 ?k2 ?k3 ?k4 ?k5 ?k6; (case k1 => assumption); (case k2 => assumption); (case k3 => assumption); (case k4 => assumption); (case k5 => assumption); (case k6 => (intro z9 h19 h29; simp [h19, h29]))))
  exact trivial
--END
/-- the addresses of the written heap -/
def adrs : List Addr := [2, 3, 22, 24, 25, 27, 28, 29, 30, 31, 32, 33, 43, 45, 46, 48, 49, 50, 52, 53,
  55, 56, 57, 59, 60, 62, 63, 64, 66, 67, 69, 70, 71, 73, 74, 76, 77, 78, 80, 81,
  83, 84, 85, 87, 88, 90, 91, 92, 93, 94, 95, 96, 106, 108, 109, 111, 112, 113, 115, 116,
  118, 119, 120, 122, 123, 125, 126, 127, 129, 130, 132, 133, 134, 136, 137, 139, 140, 141, 143, 144,
  146, 147, 148, 150, 151, 153, 154, 155, 157, 158, 160, 161, 162, 164, 165, 167, 168, 169, 171, 172,
  174, 175, 176, 177, 178, 179, 180, 183, 184, 187, 188, 189, 191, 192, 194, 195, 196, 198, 199, 201,
  202, 203, 205, 206, 208, 209, 210, 212, 213, 215, 216, 217, 219, 220, 222, 223, 224, 227, 228, 229,
  232, 233, 234, 236, 237, 239, 240, 241, 244, 245, 246, 248, 249, 251, 252]
-- names held: the head lays no twins of these constants (their proofs are quadratic: 15 MB in all); tw + the hash of the name
-- Mine.frag.heap_1
def law_holds.tw15068483726869450994 : Nat := 0
-- Mine.law_holds.heap_1_313
def law_holds.tw5070986677311730392 : Nat := 0
-- Mine.law_holds.tree_1_311
def law_holds.tw3622609082754791524 : Nat := 0
-- Mine.law_holds.view_1_39
def law_holds.tw13536078969547264968 : Nat := 0
-- Mine.law_holds.sts_1_238
def law_holds.tw10250492657576779755 : Nat := 0
-- Mine.law_holds.tree_1_236
def law_holds.tw17120909763851287664 : Nat := 0
-- Mine.law_holds.tree_1_143
def law_holds.tw16821238613367971759 : Nat := 0
-- Mine.law_holds.tree_1_147
def law_holds.tw16182259748660777344 : Nat := 0
-- PySem.Challenge.pw_rg0279_01
def law_holds.tw6619754759946179538 : Nat := 0
set_option Elab.async true in
theorem law_holds : PySem.Challenge.rw_rg0279_01.Holds := by
  w_on
  o_law
  o_head (kHook Mine.frag.heap_1 Mine.adrs fun _ => by kernel_rfl)
  (case hw => w_witness2)
  w_top off
  k_go0
  (all_goals try k_fold)
  have mk9 : LawMark := ⟨trivial⟩
  k_steps
  rename LawMark => mk0
  clear mk0
  refine LawStop.mk ?_
  rename News _ _ _ _ => nOld
  refine' law_go (law_start nOld ?s1 ?a1 ?a2 ?a3 ?a4 ?a5 ?a6 ?a7 ?b1 ?b2 ?b3 ?b4 ?b5 ?b6 ?b7 ?c1 ?c2 ?c3 ?c4 ?c5 ?c6 ?d1 ?d2 ?d3 ?d4 ?d5 ?d6 ?ch) ?rest
  case s1 => exact seed_ok _
  case ch => (refine ⟨⟨?_, ?_⟩, ⟨?_, ?_, ?_, ?_, ?_, ?_, ?_⟩, ?_, ⟨?_, ?_, ?_, ?_, ?_, ?_, ?_⟩, ⟨?_, ?_⟩, ⟨?_, ?_, ?_, ?_⟩, ?_, ⟨?_, ?_, ?_, ?_⟩, ?_⟩ <;> first | assumption | (refine ltN ?_; omega))
  case a4 => assumption
  case b4 => assumption
  case a1 => assumption
  case a2 => assumption
  case a3 => assumption
  case a5 => assumption
  case a6 => assumption
  case a7 => assumption
  case b1 => assumption
  case b2 => assumption
  case b3 => assumption
  case b5 => assumption
  case b6 => assumption
  case b7 => assumption
  case c1 => assumption
  case c2 => assumption
  case c3 => assumption
  case c4 => assumption
  case c5 => assumption
  case c6 => assumption
  case d1 => assumption
  case d2 => assumption
  case d3 => assumption
  case d4 => assumption
  case d5 => assumption
  case d6 => assumption
  case rest =>
    rintro ⟨A, B, P, own, R, hA, hP, hR, hN⟩
    clear nOld
    have mk1 : LoopMark := ⟨trivial⟩
    have hoR : OwnOff R [_] := fun q hq b hb => by rw [List.mem_singleton.mp hb]; exact lawR_pot hA hR q hq
    have hin := lawR_mem hR
    obtain ⟨_, _, _, _, _, _, _, _, _, _, hc, hb, hm⟩ := id hR
    have hcR := hin _ hc
    have hbR := hin _ hb
    have hmR := hin _ hm
    clear hin hc hb hm
    rename IntsAre _ (List.map _ (List.take _ _)) => hI8
    have hl60 := len60_of hI8
    k_steps

end Mine
theorem PySem.Challenge.cw_rg0279_01_holds : PySem.Challenge.rw_rg0279_01.Holds := by
  exact Mine.law_holds

