import PyProof.Rows.All
import Wide.All
import OpenK.AllK
import Wide.FinOn
import PyProof.ExcInit
import PyProof.InstStoreFacts
import Lean
import PySem.Challenge.RW_ok0058_01
open PySem PySem.W PyProof.Rows
set_option Elab.async false
set_option linter.all false
set_option compiler.extract_closed false
namespace Mine
set_option maxRecDepth 100000
set_option maxHeartbeats 0
section
local macro_rules | `(tactic| o_head $_) => `(tactic| exact False.elim (by assumption))
/-- the written part of the heap, by the kit's own tactic: nothing is claimed here -/
theorem ka (f : False) : PySem.Challenge.rw_ok0058_01.row.Holds := by k_head
end
end Mine
local macro_rules | `(tactic| tb_start) => `(tactic| repeat' (first | (k_unfold; (try dsimp only)) | walk1 | (dsimp only; walk1) | (dsimp only [List.nil_append, List.cons_append]; walk1) | fail "no step"))
namespace Mine
set_option maxRecDepth 100000
set_option maxHeartbeats 0

noncomputable def Hold (P : Prop) : Prop := P
theorem hold {P : Prop} (h : Hold P) : P := h

/-- what a call of the def at f does, wherever it stands -/
noncomputable def Con (w : World) (p : Program) (loose : List Str) (mean : ExcName → Option Value) (mg mb : Str → Option Value) (f : Addr) (vs : List Value) (news : List (Addr × Obj)) (k : Nat)
    (Ret : Value → List (Addr × Obj) → Prop) : Prop :=
  ∀ (dp un : Nat) (gd : Option (List Code)) (cn : Str) (cs : Scope) (a : Addr) (ccd : Value) (cl : List (Str × Addr)) (outer : List Env) (A₀ : Around) (base h₀ : Heap) (L : Addr) (m : Str → Option Value) (s : Shared) (Q E : Value → Shared → Prop),
    Below A₀ base outer h₀ → Fr h₀ L s.heap m → (ka.heap_1 w.params).In h₀ → News h₀ L s.heap news → Top p loose mean mg mb h₀ → cs.kind = .function →
    dp + k < 900 → un + 8 * k < 9000 →
    (∀ (v : Value) (h' : Heap) (tk' : Nat) (news' : List (Addr × Obj)), Fr h₀ L h' m → News h₀ L h' news' → Ret v news' → Q v { s with heap := h', toks := tk' }) →
    wpAny (model PySem.Challenge.rw_ok0058_01.row.prog w) (ktrTop dp un gd cn cs L a ccd cl outer) (call (.ref f) vs) Q E s

theorem con_use {w : World} {p : Program} {loose : List Str} {mean : ExcName → Option Value} {mg mb : Str → Option Value} {f : Addr} {vs : List Value} {news : List (Addr × Obj)} {k : Nat}
    {Ret : Value → List (Addr × Obj) → Prop} {dp un : Nat} {gd : Option (List Code)} {cn : Str} {cs : Scope} {a : Addr} {ccd : Value} {cl : List (Str × Addr)} {outer : List Env} {A₀ : Around} {base h₀ : Heap} {L : Addr} {m : Str → Option Value} {s : Shared} {Q E : Value → Shared → Prop}
    (C : Con w p loose mean mg mb f vs news k Ret) (B : Below A₀ base outer h₀) (F : Fr h₀ L s.heap m) (X : (ka.heap_1 w.params).In h₀) (N : News h₀ L s.heap news) (T : Top p loose mean mg mb h₀) (hk : cs.kind = .function)
    (hd : dp + k < 900) (hu : un + 8 * k < 9000)
    (h : ∀ (v : Value) (h' : Heap) (tk' : Nat) (news' : List (Addr × Obj)), Fr h₀ L h' m → News h₀ L h' news' → Ret v news' → Q v { s with heap := h', toks := tk' }) :
    wpAny (model PySem.Challenge.rw_ok0058_01.row.prog w) (ktrTop dp un gd cn cs L a ccd cl outer) (call (.ref f) vs) Q E s :=
  C dp un gd cn cs a ccd cl outer A₀ base h₀ L m s Q E B F X N T hk hd hu h

theorem dep_ok {dp k j : Nat} (h : dp + k < 900) (e : Nat.ble (j + 1) k = true) : dp + 1 + j < 900 := by
  have := Nat.le_of_ble_eq_true e; omega
theorem uni_ok {un k j : Nat} (h : un + 8 * k < 9000) (e : Nat.ble (j + 1) k = true) : un + 3 + 8 * j < 9000 := by
  have := Nat.le_of_ble_eq_true e; omega
theorem dep_lim {dp k : Nat} (h : dp + k < 900) : dp < recursionLimit := by unfold recursionLimit; omega
theorem ne_lt2 {a b c : Nat} (h : @LT.lt Nat _ a b) (h2 : @LT.lt Nat _ b c) : a ≠ c := Nat.ne_of_lt (Nat.lt_trans h h2)
theorem ne_gt2 {a b c : Nat} (h : @LT.lt Nat _ a b) (h2 : @LT.lt Nat _ b c) : c ≠ a := (ne_lt2 h h2).symm

section
variable {prog : Program} {w : World} {A : Around} {E : Value → Shared → Prop} {s : Shared} {env : Env} {h₀ : Heap} {x : Str} {body : List Stmt} {Q : Flow → Shared → Prop}

theorem range_inv {r : Addr} {b₀ : Int} {t₀ u₀ v₀ : Tok} {m₀ : Str → Option Value} {news : List (Addr × Obj)} (n : Nat) (J : Nat → (Str → Option Value) → List (Addr × Obj) → Prop)
    (hh : A.handled = none) (hr : IsRange s.heap r 0 b₀ 1 t₀ u₀ v₀) (hb : b₀ = (n : Int)) (hn : n < 2 ^ 20) (F : Fr h₀ env.locals s.heap m₀) (N : News h₀ env.locals s.heap news) (hj : J 0 m₀ news)
    (turn : ∀ i m₁ news₁ h tk own t, i < n → news₁.map (·.1) = news.map (·.1) → OwnOff own (news.map (·.1)) → J i m₁ news₁ → Fr h₀ env.locals h (fun y => if y = x then some (.int (i : Nat) t) else m₁ y) → News h₀ env.locals h (news₁ ++ own) →
      wpAny (model prog w) A (execs body env) (InvPostN h₀ env.locals (J (i + 1)) own (news.map (·.1)) { s with heap := h, toks := tk } Q) E { s with heap := h, toks := tk })
    (done : ∀ m₁ news₁ h tk, J n m₁ news₁ → Fr h₀ env.locals h m₁ → News h₀ env.locals h news₁ → Q .next { s with heap := h, toks := tk }) :
    wpAny (model prog w) A (pyIter (.ref r)) (fun it s₂ => LoopAtV prog w A h₀ env x body Q E it s₂) E s := by
  subst hb
  have hsmall : Builtin.Range.small 0 (n : Int) 1 = true := small_one (by omega) (by omega) (by omega) (by omega)
  have hsz : Builtin.Range.rangeSize 0 (n : Int) 1 = (n : Int) := by rw [rangeSize_one]; split <;> omega
  refine wpAny_pyIter_range hr hsmall ?_
  have W : Walks prog w A s.heap.objs.size [s.heap.objs.size] [s.heap.objs.size] n (fun i v => i < n ∧ ∃ t, v = .int (0 + (i : Nat) * 1) t)
      (fun i h => IsRangeIter h s.heap.objs.size (0 + (i : Nat) * 1) ((n : Int) - (i : Nat)) 1) := (Walks.range hh _ 0 1 n).bound
  have off : ∀ q ∈ news, q.1 ∉ [s.heap.objs.size] := fun q hq hI => absurd (Heap.lt_size (N q hq).1) ((List.mem_singleton.mp hI) ▸ Nat.lt_irrefl _)
  refine loop_invN J W ?_ ?_ off off (by show IsRangeIter _ _ _ _ _; rw [hsz]; simpa using Heap.get?_push_size _ rfl) (F.push _) (fun q hq => ⟨Heap.get?_push_of_some _ (N q hq).1, (N q hq).2⟩) hj ?_ done
  · intro hm
    exact absurd F.ns.lt ((List.mem_singleton.mp hm) ▸ Nat.lt_irrefl _)
  · intro b hb
    rw [List.mem_singleton.mp hb]
    exact next_is_new F
  · rintro i v m₁ nx h tk own hi ⟨_, t, rfl⟩ ha hoff hJ F₁ N₁
    have e1 : (0 : Int) + (i : Nat) * 1 = ((i : Nat) : Int) := by omega
    rw [e1] at F₁
    exact turn i m₁ nx h tk own t hi ha hoff hJ F₁ N₁

theorem text_inv {xt : Str} {tx : Tok} {m₀ : Str → Option Value} {news : List (Addr × Obj)} (J : Nat → (Str → Option Value) → List (Addr × Obj) → Prop)
    (hh : A.handled = none) (F : Fr h₀ env.locals s.heap m₀) (N : News h₀ env.locals s.heap news) (hj : J 0 m₀ news)
    (turn : ∀ i c m₁ news₁ h tk own t, xt.cps.toList[i]? = some c → news₁.map (·.1) = news.map (·.1) → OwnOff own (news.map (·.1)) → J i m₁ news₁ → Fr h₀ env.locals h (fun y => if y = x then some (.str ⟨#[c]⟩ t) else m₁ y) → News h₀ env.locals h (news₁ ++ own) →
      wpAny (model prog w) A (execs body env) (InvPostN h₀ env.locals (J (i + 1)) own (news.map (·.1)) { s with heap := h, toks := tk } Q) E { s with heap := h, toks := tk })
    (done : ∀ m₁ news₁ h tk, J xt.length m₁ news₁ → Fr h₀ env.locals h m₁ → News h₀ env.locals h news₁ → Q .next { s with heap := h, toks := tk }) :
    wpAny (model prog w) A (pyIter (.str xt tx)) (fun it s₂ => LoopAtV prog w A h₀ env x body Q E it s₂) E s := by
  refine wpAny_pyIter_str fun o St hW hst => ?_
  have W := hW A hh
  have off : ∀ q ∈ news, q.1 ∉ [s.heap.objs.size] := fun q hq hI => absurd (Heap.lt_size (N q hq).1) ((List.mem_singleton.mp hI) ▸ Nat.lt_irrefl _)
  refine loop_invN J W ?_ ?_ off off hst (F.push _) (fun q hq => ⟨Heap.get?_push_of_some _ (N q hq).1, (N q hq).2⟩) hj ?_ done
  · intro hm
    exact absurd F.ns.lt ((List.mem_singleton.mp hm) ▸ Nat.lt_irrefl _)
  · intro b' hb
    rw [List.mem_singleton.mp hb]
    exact next_is_new F
  · rintro i v m₁ nx h tk own hi ⟨n, u, hn, rfl⟩ ha hoff hJ F₁ N₁
    exact turn i n m₁ nx h tk own u (by simpa using hn) ha hoff hJ F₁ N₁
end

/-- the names of a frame's map -/
noncomputable def Has (m : Str → Option Value) (ps : List (Str × Value)) : Prop := ∀ p ∈ ps, m p.1 = some p.2
theorem Has.see {m : Str → Option Value} {ps : List (Str × Value)} (h : Has m ps) : m = kstB m ps := funext fun z => (kstB_eq h (fun _ => rfl)).symm
theorem Has.nil {m : Str → Option Value} : Has m [] := fun _ h => nomatch h
theorem Has.cons {m : Str → Option Value} {x : Str} {v : Value} {ps : List (Str × Value)} (h : m x = some v) (r : Has m ps) : Has m ((x, v) :: ps) := List.forall_mem_cons.mpr ⟨h, r⟩

/-- a text is at hand, and all else stands -/
noncomputable def CutAt (h₀ : Heap) (L : Addr) (m : Str → Option Value) (news : List (Addr × Obj)) (P : Str → Prop) (s : Shared) (v : Value) (s' : Shared) : Prop :=
  ∃ b t h' tk, v = .str b t ∧ s' = { s with heap := h', toks := tk } ∧ Fr h₀ L h' m ∧ News h₀ L h' news ∧ P b
theorem text_cut {M : Model} {A : Around} {e : Expr} {env : Env} {Q E : Value → Shared → Prop} {s : Shared} {h₀ : Heap} {L : Addr} {m : Str → Option Value} {news : List (Addr × Obj)} (P : Str → Prop)
    (h : wpAny M A (eval e env) (CutAt h₀ L m news P s) E s) (k : ∀ b t h' tk, Fr h₀ L h' m → News h₀ L h' news → P b → Q (.str b t) { s with heap := h', toks := tk }) : wpAny M A (eval e env) Q E s :=
  wpAny_mono h (fun v s' ⟨b, t, h', tk, e1, e2, F, N, p⟩ => by subst e1; subst e2; exact k b t h' tk F N p) fun _ _ x => x
theorem news_sub {h₀ h : Heap} {L : Addr} {news news' : List (Addr × Obj)} (N : News h₀ L h news') (hs : ∀ p ∈ news, p ∈ news') : News h₀ L h news := fun p hp => N p (hs p hp)

theorem news_tail {h₀ h : Heap} {L : Addr} {x : Addr × Obj} {r : List (Addr × Obj)} (N : News h₀ L h (x :: r)) : News h₀ L h r := fun p hp => N p (List.mem_cons_of_mem _ hp)
theorem news_pull1 {h₀ h : Heap} {L : Addr} {x y : Addr × Obj} {r : List (Addr × Obj)} (N : News h₀ L h (x :: y :: r)) : News h₀ L h (y :: x :: r) := news_sub N fun p hp => by
  simp only [List.mem_cons] at hp ⊢
  rcases hp with h | h | h <;> simp [h]
theorem news_pull2 {h₀ h : Heap} {L : Addr} {x z y : Addr × Obj} {r : List (Addr × Obj)} (N : News h₀ L h (x :: z :: y :: r)) : News h₀ L h (y :: x :: z :: r) := news_sub N fun p hp => by
  simp only [List.mem_cons] at hp ⊢
  rcases hp with h | h | h | h <;> simp [h]
theorem news_pull3 {h₀ h : Heap} {L : Addr} {x z v y : Addr × Obj} {r : List (Addr × Obj)} (N : News h₀ L h (x :: z :: v :: y :: r)) : News h₀ L h (y :: x :: z :: v :: r) := news_sub N fun p hp => by
  simp only [List.mem_cons] at hp ⊢
  rcases hp with h | h | h | h | h <;> simp [h]

/-- how many figures a text begins with -/
noncomputable def figs : List Nat → Nat
  | [] => 0
  | c :: r => if 48 ≤ c ∧ c ≤ 57 then figs r + 1 else 0
theorem figs_nil : figs [] = 0 := rfl
theorem figs_yes {c : Nat} {r : List Nat} (h : 48 ≤ c ∧ c ≤ 57) : figs (c :: r) = figs r + 1 := by rw [figs, if_pos h]
theorem figs_no {c : Nat} {r : List Nat} (h : ¬ (48 ≤ c ∧ c ≤ 57)) : figs (c :: r) = 0 := by rw [figs, if_neg h]
theorem figs_le : ∀ l : List Nat, figs l ≤ l.length
  | [] => Nat.le_refl _
  | c :: r => by unfold figs; have := figs_le r; split <;> simp <;> omega

theorem item_at {x : Str} {j : Int} (h0 : 0 ≤ j) (hl : j < x.length) : Txt.item x j = ⟨#[x.cps.toList.getD j.toNat 0]⟩ := by
  unfold Txt.item Txt.charAt
  have : PySem.seqIndex? j x.length = some j.toNat := by
    unfold PySem.seqIndex?
    simp only [Str.length] at *
    split <;> first | omega | (simp; omega) | skip
  rw [this]
  simp [List.getD]

theorem digit_in (c : Nat) : decide (c ∈ (Str.ofString "0123456789").cps.toList) = decide (48 ≤ c ∧ c ≤ 57) := by
  have : (Str.ofString "0123456789").cps.toList = [48, 49, 50, 51, 52, 53, 54, 55, 56, 57] := by decide +kernel
  rw [this]
  refine decide_eq_decide.mpr ⟨fun h => (by decide : ∀ x ∈ [48, 49, 50, 51, 52, 53, 54, 55, 56, 57], 48 ≤ x ∧ x ≤ 57) c h, fun h => ?_⟩
  obtain ⟨k, rfl⟩ := Nat.exists_eq_add_of_le h.1
  exact (by decide : ∀ k, k < 10 → 48 + k ∈ [48, 49, 50, 51, 52, 53, 54, 55, 56, 57]) k (Nat.lt_of_add_lt_add_left (Nat.lt_of_le_of_lt h.2 (by decide) : 48 + k < 48 + 10))
theorem in_digits (c : Nat) : (Builtin.Str.occurrences (Str.ofString "0123456789") ⟨#[c]⟩ 0 (Str.ofString "0123456789").length 1).isEmpty = !decide (48 ≤ c ∧ c ≤ 57) := by
  have := StrLaws.found_one (Str.ofString "0123456789") c
  rw [digit_in] at this
  rw [← this]; simp
theorem drop_at {l : List Nat} {j : Nat} (h : j < l.length) : l.drop j = l.getD j 0 :: l.drop (j + 1) := by
  rw [List.drop_eq_getElem_cons h]; simp [List.getD, h]
end Mine
local macro_rules | `(tactic| k_ne) => `(tactic| first | with_reducible assumption | exact Nat.ne_of_lt (by with_reducible assumption) | exact Nat.ne_of_gt (by with_reducible assumption) | exact Mine.ne_lt2 (by with_reducible assumption) (by with_reducible assumption) | exact Mine.ne_gt2 (by with_reducible assumption) (by with_reducible assumption) | (refine neN ?_; (try dsimp only); omega))
local macro_rules | `(tactic| keq_rows) => `(tactic| focus ((repeat' (first | exact True.intro | refine ⟨(by first | with_reducible assumption | ((with_reducible show _ = PySem.ScopeKind.function); first | exact rfl | assumption) | ((with_reducible show (_ : Nat) < 900); first | exact Mine.dep_ok (by with_reducible assumption) (by rfl) | omega | (dsimp only [ktrTop]; omega)) | ((with_reducible show (_ : Nat) < 9000); first | exact Mine.uni_ok (by with_reducible assumption) (by rfl) | omega | (dsimp only [ktrTop]; omega)) | ((with_reducible show News _ _ _ _); first | exact Mine.news_pull1 (by k_asm) | exact Mine.news_pull2 (by k_asm) | exact Mine.news_pull3 (by k_asm) | exact Mine.news_tail (by k_asm) | exact Mine.news_tail (Mine.news_tail (by k_asm)) | exact Mine.news_tail (Mine.news_tail (Mine.news_tail (by k_asm))) | assumption) | ((refine List.forall_mem_cons.mpr ⟨by k_ne, ?_⟩); (repeat' (first | assumption | (refine List.forall_mem_cons.mpr ⟨by k_ne, ?_⟩))); done) | ((with_reducible show _ ≤ _); omega) | ((with_reducible show _ < _); omega) | assumption), ?_⟩)); done))
local macro_rules | `(tactic| walk_at "exec While") => `(tactic| refine Mine.hold ?_)
namespace Mine
set_option maxRecDepth 100000
set_option maxHeartbeats 0

noncomputable def lowC (c : Nat) : Nat := if 65 ≤ c ∧ c ≤ 90 then c + 32 else c
theorem lowerOf_ascii : ∀ c : Nat, c < 128 → Unicode.lowerOf c = [lowC c] := by decide +kernel
theorem lower_ascii {x : Str} (h : ∀ c ∈ x.cps.toList, c < 128) : (Txt.lower x).cps.toList = x.cps.toList.map lowC := by
  have e : (x.cps.mapIdx fun i _ => (Unicode.lowerAt x.cps i).toArray) = x.cps.map fun c => #[lowC c] := by
    apply Array.ext
    · simp
    · intro i h1 h2
      have hi : i < x.cps.size := by simpa using h1
      simp only [Array.getElem_mapIdx, Array.getElem_map]
      have hc : x.cps[i] < 128 := h _ (by simp)
      unfold Unicode.lowerAt
      rw [Array.getElem?_eq_getElem hi]
      have hne : (x.cps[i] == 0x3A3) = false := by rw [beq_eq_false_iff_ne]; omega
      simp only [hne, Bool.false_and, Bool.false_eq_true, if_false]
      rw [lowerOf_ascii _ hc]
  show ((x.cps.mapIdx fun i _ => (Unicode.lowerAt x.cps i).toArray).flatten).toList = _
  rw [e, Array.toList_flatten, Array.toList_map, List.map_map]
  generalize x.cps.toList = l
  induction l with
  | nil => rfl
  | cons a r ih => simp only [List.map_cons, List.flatten_cons, ih]; rfl

noncomputable def clipAt (i : Int) (n : Nat) : Nat := (max 0 (min (if i < 0 then i + n else i) n)).toNat
noncomputable def clipL (l : Option Int) (n : Nat) : Nat := match l with | none => 0 | some i => clipAt i n
noncomputable def clipU (u : Option Int) (n : Nat) : Nat := match u with | none => n | some i => clipAt i n
theorem clipAt_le (i : Int) (n : Nat) : clipAt i n ≤ n := by unfold clipAt; omega
theorem clipAt_in {i : Int} {n : Nat} (h : 0 ≤ i) (h2 : i ≤ n) : clipAt i n = i.toNat := by
  unfold clipAt
  rw [if_neg (Int.not_lt.mpr h), Int.min_eq_left h2, Int.max_eq_right h]
theorem clipAt_out {i : Int} {n : Nat} (h : (n : Int) ≤ i) : clipAt i n = n := by
  unfold clipAt
  rw [if_neg (Int.not_lt.mpr (Int.le_trans (Int.natCast_nonneg n) h)), Int.min_eq_right h, Int.max_eq_right (Int.natCast_nonneg n), Int.toNat_natCast]
theorem clipAt_last (n : Nat) : clipAt (-1) n = n - 1 := by
  unfold clipAt
  rw [if_pos (by decide)]
  cases n with
  | zero => rfl
  | succ k =>
    have e : (-1 : Int) + ((k + 1 : Nat) : Int) = (k : Int) := by rw [Int.natCast_succ, Int.add_comm, Int.add_neg_cancel_right]
    rw [e, Int.min_eq_left (Int.ofNat_le.mpr (Nat.le_succ k)), Int.max_eq_right (Int.natCast_nonneg k), Int.toNat_natCast, Nat.add_sub_cancel]
theorem toNat_big {i : Int} {n : Nat} (h : ¬ i ≤ n) : n ≤ i.toNat := by
  have h1 : (n : Int) ≤ i := Int.le_of_lt (Int.not_le.mp h)
  have := Int.toNat_le_toNat h1
  rwa [Int.toNat_natCast] at this
theorem clipU_le (u : Option Int) (n : Nat) : clipU u n ≤ n := by cases u with | none => exact Nat.le_refl _ | some i => exact clipAt_le i n
theorem clipL_le (u : Option Int) (n : Nat) : clipL u n ≤ n := by cases u with | none => exact Nat.zero_le _ | some i => exact clipAt_le i n
theorem idx_list (l u : Option Int) (n : Nat) : Builtin.Str.strSliceIndices l u 1 n = (List.range (clipU u n - clipL l n)).map fun k => clipL l n + k := by
  have key : ∀ a b : Nat, PySem.sliceRange (a : Int) (b : Int) 1 = (List.range (b - a)).map fun k => a + k := by
    intro a b
    unfold PySem.sliceRange
    simp only [show (1 : Int) > 0 by decide, if_true, Int.ediv_one]
    have e : (if (a : Int) < (b : Int) then (b : Int) - a + 1 - 1 else 0).toNat = b - a := by split <;> omega
    rw [e]
    apply List.map_congr_left
    intro k _
    omega
  have eL : ∀ (v : Option Int) , (match v with | none => (0 : Int) | some i => max 0 (min (if i < 0 then i + (n : Int) else i) (n : Int))) = ((clipL v n : Nat) : Int) := by
    intro v; cases v with
    | none => rfl
    | some i => show max 0 (min (if i < 0 then i + (n : Int) else i) (n : Int)) = ((clipAt i n : Nat) : Int); unfold clipAt; omega
  have eU : ∀ (v : Option Int) , (match v with | none => (n : Int) | some i => max 0 (min (if i < 0 then i + (n : Int) else i) (n : Int))) = ((clipU v n : Nat) : Int) := by
    intro v; cases v with
    | none => rfl
    | some i => show max 0 (min (if i < 0 then i + (n : Int) else i) (n : Int)) = ((clipAt i n : Nat) : Int); unfold clipAt; omega
  rw [← key, ← eL, ← eU]
  unfold Builtin.Str.strSliceIndices
  cases l <;> cases u <;> rfl
theorem slice_list (x : Str) (l u : Option Int) : (Txt.slice x l u).cps.toList = (x.cps.toList.drop (clipL l x.length)).take (clipU u x.length - clipL l x.length) := by
  have hu := clipU_le u x.length
  have hl := clipL_le l x.length
  unfold Txt.slice
  rw [idx_list]
  have hn : x.cps.toList.length = x.length := by simp [Str.length]
  split
  · rename_i h
    simp only [List.length_map, List.length_range, beq_self_eq_true, Bool.true_and, beq_iff_eq] at h
    have h0 : clipL l x.length = 0 := by omega
    rw [h0, List.drop_zero, List.take_of_length_le (by omega)]
  · show ((((List.range (clipU u x.length - clipL l x.length)).map fun k => clipL l x.length + k).filterMap (x.cps[·]?)).toArray).toList = _
    have e : (fun k : Nat => x.cps[k]?) = fun k => x.cps.toList[k]? := by funext k; simp
    rw [e, List.toList_toArray]
    by_cases h : clipL l x.length ≤ clipU u x.length
    · exact StrLaws.picks _ _ _ (by omega)
    · have : clipU u x.length - clipL l x.length = 0 := by omega
      rw [this]; simp
theorem len_list (x : Str) : x.cps.toList.length = x.length := by simp [Str.length]
theorem slice_from {x : Str} {i : Int} (h : 0 ≤ i) : (Txt.slice x (some i) none).cps.toList = x.cps.toList.drop i.toNat := by
  rw [slice_list]
  show (x.cps.toList.drop (clipAt i x.length)).take (x.length - clipAt i x.length) = _
  rw [List.take_of_length_le (by rw [List.length_drop, len_list]; exact Nat.le_refl _)]
  by_cases hi : i ≤ x.length
  · rw [clipAt_in h hi]
  · rw [clipAt_out (Int.le_of_lt (Int.not_le.mp hi)), List.drop_eq_nil_of_le (Nat.le_of_eq (len_list x)), List.drop_eq_nil_of_le (by rw [len_list]; exact toNat_big hi)]
theorem slice_to {x : Str} {i : Int} (h : 0 ≤ i) : (Txt.slice x none (some i)).cps.toList = x.cps.toList.take i.toNat := by
  rw [slice_list]
  show (x.cps.toList.drop 0).take (clipAt i x.length - 0) = _
  rw [List.drop_zero, Nat.sub_zero]
  by_cases hi : i ≤ x.length
  · rw [clipAt_in h hi]
  · rw [clipAt_out (Int.le_of_lt (Int.not_le.mp hi)), List.take_of_length_le (Nat.le_of_eq (len_list x)), List.take_of_length_le (by rw [len_list]; exact toNat_big hi)]
theorem slice_mid {x : Str} {i j : Int} (h : 0 ≤ i) (hj : i ≤ j) : (Txt.slice x (some i) (some j)).cps.toList = (x.cps.toList.drop i.toNat).take (j.toNat - i.toNat) := by
  rw [slice_list]
  show (x.cps.toList.drop (clipAt i x.length)).take (clipAt j x.length - clipAt i x.length) = _
  by_cases hi : i ≤ x.length
  · rw [clipAt_in h hi]
    by_cases hi2 : j ≤ x.length
    · rw [clipAt_in (Int.le_trans h hj) hi2]
    · rw [clipAt_out (Int.le_of_lt (Int.not_le.mp hi2)), List.take_of_length_le (by rw [List.length_drop, len_list]; exact Nat.le_refl _),
        List.take_of_length_le (by rw [List.length_drop, len_list]; exact Nat.sub_le_sub_right (toNat_big hi2) _)]
  · rw [clipAt_out (Int.le_of_lt (Int.not_le.mp hi)), List.drop_eq_nil_of_le (Nat.le_of_eq (len_list x)), List.drop_eq_nil_of_le (by rw [len_list]; exact toNat_big hi), List.take_nil, List.take_nil]
theorem slice_last (x : Str) : (Txt.slice x (some (-1)) none).cps.toList = x.cps.toList.drop (x.cps.toList.length - 1) := by
  rw [slice_list]
  show (x.cps.toList.drop (clipAt (-1) x.length)).take (x.length - clipAt (-1) x.length) = _
  rw [List.take_of_length_le (by rw [List.length_drop, len_list]; exact Nat.le_refl _), clipAt_last, len_list]
theorem slice_but_last (x : Str) : (Txt.slice x none (some (-1))).cps.toList = x.cps.toList.dropLast := by
  rw [slice_list]
  show (x.cps.toList.drop 0).take (clipAt (-1) x.length - 0) = _
  rw [List.drop_zero, Nat.sub_zero, List.dropLast_eq_take, clipAt_last, len_list]

theorem part_none {x : Str} {c : Nat} (h : c ∉ x.cps.toList) : Txt.partition x ⟨#[c]⟩ = (x, Str.empty, Str.empty) := by
  unfold Txt.partition
  rcases StrLaws.occ_head x ⟨#[c]⟩ 1 (Nat.le_refl 1) with ⟨h0, _⟩ | ⟨i, r, h0, hi, hn⟩
  · rw [h0]
  · exact absurd (List.mem_of_getElem? ((StrLaws.subAt_one x c i).mp hi)) h
theorem part_some {x : Str} {c : Nat} (h : c ∈ x.cps.toList) : ∃ pre post : List Nat, x.cps.toList = pre ++ c :: post ∧ c ∉ pre ∧ (Txt.partition x ⟨#[c]⟩).1.cps.toList = pre ∧ (Txt.partition x ⟨#[c]⟩).2.1 = ⟨#[c]⟩ ∧ (Txt.partition x ⟨#[c]⟩).2.2.cps.toList = post := by
  unfold Txt.partition
  rcases StrLaws.occ_head x ⟨#[c]⟩ 1 (Nat.le_refl 1) with ⟨_, hn⟩ | ⟨i, r, h0, hi, hn⟩
  · obtain ⟨j, hj⟩ := List.getElem?_of_mem h
    exact absurd ((StrLaws.subAt_one x c j).mpr hj) (hn j)
  · rw [h0]
    have hm := (StrLaws.subAt_one x c i).mp hi
    obtain ⟨hlt, hat⟩ := List.getElem?_eq_some_iff.mp hm
    refine ⟨x.cps.toList.take i, x.cps.toList.drop (i + 1), ?_, ?_, ?_, rfl, ?_⟩
    · rw [← hat, ← List.drop_eq_getElem_cons hlt, List.take_append_drop]
    · intro hmem
      obtain ⟨j, hj⟩ := List.getElem?_of_mem hmem
      obtain ⟨hj1, hj2⟩ := List.getElem?_eq_some_iff.mp hj
      have hji : j < i := by simp at hj1; omega
      rw [List.getElem?_take_of_lt hji] at hj
      exact hn j hji ((StrLaws.subAt_one x c j).mpr hj)
    · show (Builtin.Str.strSub x 0 i).cps.toList = _
      rw [StrLaws.strSub_toList]; simp
    · show (Builtin.Str.strSub x (i + 1) x.length).cps.toList = _
      rw [StrLaws.strSub_toList]
      exact List.take_of_length_le (by simp [Str.length])
theorem app_list (x y : Str) : (x ++ y).cps.toList = x.cps.toList ++ y.cps.toList := by rw [Str.cps_append, Array.toList_append]
theorem str_eq {x y : Str} : x.cps.toList = y.cps.toList ↔ x = y := ⟨fun h => Str.ext' (Array.toList_inj.mp h), fun h => by rw [h]⟩
theorem str_beq {x y : Str} : (x == y) = decide (x.cps.toList = y.cps.toList) := by
  rw [Bool.eq_iff_iff, beq_iff_eq, decide_eq_true_eq, str_eq]
theorem str_len (x : Str) : x.length = x.cps.toList.length := by simp [Str.length]

/-- what DIGITS.find answers for one sign -/
noncomputable def figZ (c : Nat) : Int := if 48 ≤ c ∧ c ≤ 57 then (c : Int) - 48 else if 97 ≤ c ∧ c ≤ 122 then (c : Int) - 87 else -1
theorem find_digits : ∀ c : Nat, c < 128 → Txt.find (Str.ofString "0123456789abcdefghijklmnopqrstuvwxyz") ⟨#[c]⟩ = figZ c := by decide +kernel
end Mine
namespace Mine
set_option maxRecDepth 100000
set_option maxHeartbeats 0
theorem cut_any {α : Type} {M : Model} {A : Around} {t : Sem α} {Q : α → Shared → Prop} {E : Value → Shared → Prop} {s : Shared} (R : α → Shared → Prop) (h : wpAny M A t R E s) (k : ∀ a s', R a s' → Q a s') : wpAny M A t Q E s := wpAny_mono h k fun _ _ x => x
theorem cut_eval {M : Model} {A : Around} {e : Expr} {env : Env} {Q E : Value → Shared → Prop} {s : Shared} (R : Value → Shared → Prop) (h : wpAny M A (eval e env) R E s) (k : ∀ v s', R v s' → Q v s') : wpAny M A (eval e env) Q E s := wpAny_mono h k fun _ _ x => x
theorem cut_exec {M : Model} {A : Around} {e : Stmt} {env : Env} {Q : Flow → Shared → Prop} {E : Value → Shared → Prop} {s : Shared} (R : Shared → Prop) (h : wpAny M A (exec e env) (fun f s' => f = .next ∧ R s') E s) (k : ∀ s', R s' → Q .next s') : wpAny M A (exec e env) Q E s := wpAny_mono h (fun f s' ⟨e1, r⟩ => by subst e1; exact k s' r) fun _ _ x => x
theorem unhold {P : Prop} (h : P) : Hold P := h
theorem news_drop2 {h₀ h : Heap} {L : Addr} {x y : Addr × Obj} {r : List (Addr × Obj)} (N : News h₀ L h (x :: y :: r)) : News h₀ L h (x :: r) := news_sub N fun p hp => by
  simp only [List.mem_cons] at hp ⊢
  rcases hp with h | h <;> simp [h]
end Mine
namespace Mine
set_option maxRecDepth 100000
set_option maxHeartbeats 0
local macro_rules | `(tactic| walk_at "eval Name") => `(tactic| (k_here; k_dflt (refine' ld ?k1 ?k2 ?_; (case k1 => k_asm); (case k2 => assumption); k_whole)))
noncomputable def isBreak (c : Int) : Bool := decide (c ≤ 32) || c == 160 || [34, 39, 59, 40, 41, 91, 93, 35, 96, 44].any fun x => x == c
theorem breaks_tup {w : World} {h : Heap} (X : (Mine.ka.heap_1 w.params).In h) : IsTup h 164 #[.int 34 518, .int 39 519, .int 59 520, .int 40 521, .int 41 522, .int 91 523, .int 93 524, .int 35 525, .int 96 526, .int 44 527] :=
  ⟨_, X _ _ rfl, rfl, _, rfl⟩
theorem breaks_ints : IntsAre (#[.int 34 518, .int 39 519, .int 59 520, .int 40 521, .int 41 522, .int 91 523, .int 93 524, .int 35 525, .int 96 526, .int 44 527] : Array Value).toList [34, 39, 59, 40, 41, 91, 93, 35, 96, 44] := by
  repeat' constructor
local macro_rules | `(tactic| walk_at "compareOp In int ref") => `(tactic| (refine in_tuple_ints (IsTup.keeps (breaks_tup (by assumption)) (Fr.keep (by assumption))) breaks_ints ?_))

theorem is_break_con (w : World) (p : Program) (loose : List Str) (mean : ExcName → Option Value) (mg mb : Str → Option Value) (news : List (Addr × Obj)) (c : Int) (t : Tok) :
   Con w p loose mean mg mb 171 [.int c t] news 1 (fun v news' => v = .bool (isBreak c) ∧ news' = news) := by
  unfold Con
  k_fill
  intro dp un gd cn cs a ccd cl outer A₀ base h₀ L m s Q E B F X N T hk hd hu hret
  have hd' : dp < recursionLimit := dep_lim (by assumption)
  refine wpAny_call ?_
  k_dflt ktr_enter
  rename_i g' L' h' FG' F' N' B' X' T'
  replace F' : Fr g' L' h' (fun y => List.lookup y [(Str.ofString "code", .int c t)]) := F'
  generalize s.toks + List.length _ = tk0
  k_steps
  all_goals (rename_i kF kN _ _; refine hret _ _ _ _ kF kN ⟨congrArg Value.bool ?_, rfl⟩)
  all_goals (simp only [isBreak]; first | (simp_all; done) | (simp_all; omega))
theorem is_break_go {dp un : Nat} {gd : Option (List Code)} {cn : Str} {cs : Scope} {a : Addr} {ccd : Value} {cl : List (Str × Addr)} {outer : List Env} {A₀ : Around} {base h₀ : Heap} {L : Addr} {m : Str → Option Value} {s : Shared} {Q E : Value → Shared → Prop} {w : World} {p : Program} {loose : List Str} {mean : ExcName → Option Value} {mg : Str → Option Value} {mb : Str → Option Value} {news : List (Addr × Obj)} {c : Int} {t : Tok} (P : (Below A₀ base outer h₀) ∧ (Fr h₀ L s.heap m) ∧ ((Mine.ka.heap_1 w.params).In h₀) ∧ (News h₀ L s.heap (news)) ∧ (Top p loose mean mg mb h₀) ∧ (cs.kind = .function) ∧ (dp + 1 < 900) ∧ (un + 8 * 1 < 9000) ∧ True)  (h : ∀ (h' : Heap) (tk' : Nat), Fr h₀ L h' m → News h₀ L h' (news) → Q (.bool (isBreak c)) { s with heap := h', toks := tk' }) :
    wpAny (model PySem.Challenge.rw_ok0058_01.row.prog w) (ktrTop dp un gd cn cs L a ccd cl outer) (call (.ref 171) [.int c t]) Q E s :=
  by
  exact con_use (is_break_con w p loose mean mg mb news c t) P.1 P.2.1 P.2.2.1 P.2.2.2.1 P.2.2.2.2.1 P.2.2.2.2.2.1 P.2.2.2.2.2.2.1 P.2.2.2.2.2.2.2.1 (fun v h' tk' n' F' N' r => by obtain ⟨e, q⟩ := r; subst e q; exact h _ _ F' N')
end Mine
namespace Mine
set_option maxRecDepth 100000
set_option maxHeartbeats 0
local macro_rules | `(tactic| walk_at "InvEndN") => `(tactic| refine hold ?_)
theorem law_run_con (w : World) (p : Program) (loose : List Str) (mean : ExcName → Option Value) (mg mb : Str → Option Value) (news : List (Addr × Obj)) (x : Str) (i : Int) (t u : Tok) (hx : x.length ≤ 1000) (h0 : 0 ≤ i) (hi : i ≤ x.length) :
   Con w p loose mean mg mb 331 [.str x t, .int i u] news 1 (fun v news' => ∃ t' j, v = .int j t' ∧ news' = news ∧ j = i + figs (x.cps.toList.drop i.toNat) ∧ i ≤ j ∧ j ≤ x.length) := by
  unfold Con
  k_fill
  intro dp un gd cn cs a ccd cl outer A₀ base h₀ L m s Q E B F X N T hk hd hu hret
  have hd' : dp < recursionLimit := dep_lim (by assumption)
  refine wpAny_call ?_
  k_dflt ktr_enter
  rename_i g' L' h' FG' F' N' B' X' T'
  replace F' : Fr g' L' h' (fun y => List.lookup y [(Str.ofString "at", .int i u), (Str.ofString "text", .str x t)]) := F'
  refine wpAny_execs_cons ?_
  refine While_inv2 (n₀ := x.length + i.toNat) (fun k m1 news1 => news1 = news ∧ ∃ (j : Int) (t1 : Tok), Has m1 [(Str.ofString "text", .str x t), (Str.ofString "at", .int j t1)] ∧ i ≤ j ∧ j ≤ x.length ∧ j + figs (x.cps.toList.drop j.toNat) = i + figs (x.cps.toList.drop i.toNat) ∧ (k : Int) + j = x.length + i + i) F' N' ⟨rfl, i, u, .cons rfl (.cons rfl .nil), Int.le_refl _, hi, rfl, by omega⟩ ?_ (by passes_own)
  rintro k m1 news1 h1 tk1 F1 N1 ⟨rfl, j, t1, hm, hj0, hj1, hj, hjk⟩
  have hj00 : 0 ≤ j := by omega
  rw [hm.see] at F1
  tb_start
  · rename_i hlt _ hno kF kN _ _
    refine hret _ _ _ _ kF kN ⟨t1, j, rfl, rfl, ?_, ?_, ?_⟩
    rw [item_at hj00 hlt, in_digits] at hno
    have hl : j.toNat < x.cps.toList.length := by simp only [Array.length_toList]; simp only [Str.length] at hlt; omega
    rw [drop_at hl] at hj
    simp only [Bool.not_eq_true', decide_eq_false_iff_not] at hno
    rw [figs_no hno] at hj
    all_goals omega
  · rename_i hlt _ hno h2 F2 N2
    refine ⟨h2, _, _, _, k - 1, rfl, F2, N2, ?_, rfl, j + 1, _, .cons rfl (.cons rfl .nil), by omega, by omega, ?_, ?_⟩
    all_goals (rw [item_at hj00 hlt, in_digits] at hno)
    all_goals (have hl : j.toNat < x.cps.toList.length := by simp only [Array.length_toList]; simp only [Str.length] at hlt; omega)
    · omega
    · rw [drop_at hl] at hj
      simp only [Bool.not_eq_false', decide_eq_true_eq] at hno
      rw [figs_yes hno] at hj
      rw [show (j + 1).toNat = j.toNat + 1 by omega]
      omega
    · omega
  · rename_i hlt kF kN _ _
    refine hret _ _ _ _ kF kN ⟨t1, j, rfl, rfl, ?_, ?_, ?_⟩
    have hl : x.cps.toList.length ≤ j.toNat := by simp only [Array.length_toList]; simp only [Str.length] at hlt; omega
    rw [List.drop_eq_nil_of_le hl] at hj
    rw [figs_nil] at hj
    all_goals omega

theorem law_run_go {dp un : Nat} {gd : Option (List Code)} {cn : Str} {cs : Scope} {a : Addr} {ccd : Value} {cl : List (Str × Addr)} {outer : List Env} {A₀ : Around} {base h₀ : Heap} {L : Addr} {m : Str → Option Value} {s : Shared} {Q E : Value → Shared → Prop} {w : World} {p : Program} {loose : List Str} {mean : ExcName → Option Value} {mg : Str → Option Value} {mb : Str → Option Value} {news : List (Addr × Obj)} {x : Str} {i : Int} {t : Tok} {u : Tok} (P : (Below A₀ base outer h₀) ∧ (Fr h₀ L s.heap m) ∧ ((Mine.ka.heap_1 w.params).In h₀) ∧ (News h₀ L s.heap (news)) ∧ (Top p loose mean mg mb h₀) ∧ (cs.kind = .function) ∧ (dp + 1 < 900) ∧ (un + 8 * 1 < 9000) ∧ (x.length ≤ 1000) ∧ (0 ≤ i) ∧ (i ≤ x.length) ∧ True)  (h : ∀ (h' : Heap) (tk' : Nat), Fr h₀ L h' m → ∀ (t' : Tok) (j : Int), (j = i + figs (x.cps.toList.drop i.toNat)) → (i ≤ j) → (j ≤ x.length) → News h₀ L h' (news) → Q (.int j t') { s with heap := h', toks := tk' }) :
    wpAny (model PySem.Challenge.rw_ok0058_01.row.prog w) (ktrTop dp un gd cn cs L a ccd cl outer) (call (.ref 331) [.str x t, .int i u]) Q E s :=
  by
  exact con_use (law_run_con w p loose mean mg mb news x i t u P.2.2.2.2.2.2.2.2.1 P.2.2.2.2.2.2.2.2.2.1 P.2.2.2.2.2.2.2.2.2.2.1) P.1 P.2.1 P.2.2.1 P.2.2.2.1 P.2.2.2.2.1 P.2.2.2.2.2.1 P.2.2.2.2.2.2.1 P.2.2.2.2.2.2.2.1 (fun v h' tk' n' F' N' r => by obtain ⟨t', j, e, q, f1, f2, f3⟩ := r; subst e; subst q; exact h _ _ F' _ _ f1 f2 f3 N')
end Mine
namespace Mine
set_option maxRecDepth 100000
set_option maxHeartbeats 0
local macro_rules | `(tactic| walk_at "InvEndN") => `(tactic| refine hold ?_)
local macro_rules | `(tactic| walk_at "pyIter str") => `(tactic| refine hold ?_)
local macro_rules | `(tactic| walk_at "binaryOp Mult int int") => `(tactic| refine mul_int ?_ (PySem.IntMulOk.of_right (by with_reducible assumption)))
local macro_rules | `(tactic| walk_at "call builtin:str.lower") => `(tactic| (refine SCL.lower (by omega) ?_; intro _))
noncomputable def OptInt (v : Value) : Option Int → Prop
  | none => v = .none
  | some i => ∃ t, v = .int i t
noncomputable def digVal (r : Int) : List Nat → Int → Option Int
  | [], f => some f
  | c :: l, f => if figZ c < 0 ∨ figZ c ≥ r then none else digVal r l (f * r + figZ c)
theorem digVal_no {r : Int} {c : Nat} {l : List Nat} {f : Int} (h : figZ c < 0 ∨ figZ c ≥ r) : digVal r (c :: l) f = none := by rw [digVal, if_pos h]
theorem digVal_yes {r : Int} {c : Nat} {l : List Nat} {f : Int} (h : ¬ (figZ c < 0 ∨ figZ c ≥ r)) : digVal r (c :: l) f = digVal r l (f * r + figZ c) := by rw [digVal, if_neg h]
theorem digVal_nil {r : Int} {f : Int} : digVal r [] f = some f := rfl
noncomputable def unsign : List Nat → List Nat
  | [] => []
  | c :: r => if c = 43 ∨ c = 45 then r else c :: r
noncomputable def vIn (l : List Nat) (r : Int) : Option Int := if unsign l = [] then none else (digVal r ((unsign l).map lowC) 0).map fun v => if l.head? = some 45 then 0 - v else v
theorem one_is (x : Str) (c : Nat) : ((⟨#[c]⟩ : Str) == Txt.slice x none (some 1)) = decide (x.cps.toList.head? = some c) := by
  rw [str_beq, slice_to (by decide)]
  show decide ([c] = x.cps.toList.take 1) = _
  cases x.cps.toList with
  | nil => simp
  | cons a r => simp [eq_comm]
theorem is_one (x : Str) (c : Nat) : (Txt.slice x none (some 1) == (⟨#[c]⟩ : Str)) = decide (x.cps.toList.head? = some c) := by
  rw [← one_is]; exact Bool.beq_comm
theorem plus_is : Str.ofString "+" = ⟨#[43]⟩ := by decide +kernel
theorem minus_is : Str.ofString "-" = ⟨#[45]⟩ := by decide +kernel
theorem empty_is : (Str.ofString "").cps.toList = [] := by decide +kernel
theorem sign_yes {x : Str} (h : ([Str.ofString "+", Str.ofString "-"].any fun y => y == Txt.slice x none (some 1)) = true) : (Txt.slice x (some 1) none).cps.toList = unsign x.cps.toList := by
  simp only [List.any_cons, List.any_nil, Bool.or_false, plus_is, minus_is, one_is, Bool.or_eq_true, decide_eq_true_eq] at h
  rw [slice_from (by decide)]
  cases hx : x.cps.toList with
  | nil => rfl
  | cons a r =>
    rw [hx] at h
    simp only [List.head?_cons, Option.some.injEq] at h
    rw [unsign, if_pos h]; rfl
theorem sign_no {x : Str} (h : ([Str.ofString "+", Str.ofString "-"].any fun y => y == Txt.slice x none (some 1)) = false) : x.cps.toList = unsign x.cps.toList := by
  simp only [List.any_cons, List.any_nil, Bool.or_false, plus_is, minus_is, one_is, Bool.or_eq_false_iff, decide_eq_false_iff_not] at h
  cases hx : x.cps.toList with
  | nil => rfl
  | cons a r =>
    rw [hx] at h
    simp only [List.head?_cons, Option.some.injEq] at h
    rw [unsign, if_neg (fun q => q.elim h.1 h.2)]
theorem unsign_sub {l : List Nat} {c : Nat} (h : c ∈ unsign l) : c ∈ l := by
  cases l with
  | nil => exact h
  | cons a r => rw [unsign] at h; split at h; exact List.mem_cons_of_mem _ h; exact h
theorem unsign_len (l : List Nat) : (unsign l).length ≤ l.length := by
  cases l with
  | nil => exact Nat.le_refl _
  | cons a r => rw [unsign]; split <;> simp
theorem lowC_lt {c : Nat} (h : c < 128) : lowC c < 128 := by unfold lowC; split <;> omega
theorem value_in_con (w : World) (p : Program) (loose : List Str) (mean : ExcName → Option Value) (mg mb : Str → Option Value) (news : List (Addr × Obj)) (x : Str) (r : Int) (t u : Tok) (hx : x.length ≤ 100) (hr0 : 0 ≤ r) (hr : r ≤ 36) (ha : ∀ c ∈ x.cps.toList, c < 128) :
   Con w p loose mean mg mb 178 [.str x t, .int r u] news 1 (fun v news' => OptInt v (vIn x.cps.toList r) ∧ ∀ p ∈ news, p ∈ news') := by
  unfold Con
  k_fill
  intro dp un gd cn cs a ccd cl outer A₀ base h₀ L m s Q E B F X N T hk hd hu hret
  have hd' : dp < recursionLimit := dep_lim (by assumption)
  have hbits : Builtin.Int.intBits r ≤ 64 := intBits_le_64 (by omega) (by omega)
  refine wpAny_call ?_
  k_dflt ktr_enter
  rename_i g' L' h' FG' F' N' B' X' T'
  replace F' : Fr g' L' h' (fun y => List.lookup y [(Str.ofString "radix", .int r u), (Str.ofString "words", .str x t)]) := F'
  generalize s.toks + List.length _ = tk0
  refine wpAny_execs_cons ?_
  with_reducible refine cut_exec (fun (s' : Shared) => Hold (∃ (bd : Str) (tb : Tok) (h2 : Heap) (tk : Nat) (m2 : Str → Option Value) (n2 : List (Addr × Obj)), s' = { s with heap := h2, toks := tk } ∧ Fr g' L' h2 m2 ∧ Has m2 [(Str.ofString "words", .str x t), (Str.ofString "radix", .int r u), (Str.ofString "body", .str bd tb)] ∧ News g' L' h2 n2 ∧ (∀ p ∈ news, p ∈ n2) ∧ bd.cps.toList = unsign x.cps.toList)) ?_ ?_
  · refine wpAny_Assign_Name ?_
    tb_start
    all_goals first
      | trivial
      | (rename (List.any _ _ = true) => hc
         with_reducible rename Fr g' _ _ _ => F2
         with_reducible rename News g' _ _ _ => N2
         exact unhold ⟨_, _, _, _, _, _, rfl, F2, .cons rfl (.cons rfl (.cons rfl .nil)), N2, fun p hp => by simp [hp], sign_yes hc⟩)
      | (rename (List.any _ _ = false) => hc
         with_reducible rename Fr g' _ _ _ => F2
         with_reducible rename News g' _ _ _ => N2
         exact unhold ⟨_, _, _, _, _, _, rfl, F2, .cons rfl (.cons rfl (.cons rfl .nil)), N2, fun p hp => by simp [hp], sign_no hc⟩)
  rintro s' ⟨bd, tb, h2, tk2, m2, n2, rfl, F2, hm2, N2, hn2, hb⟩
  rw [hm2.see] at F2
  clear F' N'
  have hbl : bd.length ≤ 100 := by
    have := unsign_len x.cps.toList
    rw [str_len] at hx ⊢
    rw [hb]; omega
  tb_start
  · rename ((_ == _) = true) => he
    rename_i kF kN _ _
    refine hret _ _ _ _ kF kN ⟨?_, fun p hp => by simp [hn2 p hp]⟩
    rw [str_beq, empty_is, decide_eq_true_eq, hb] at he
    rw [vIn, if_pos he]; rfl
  · unfold Hold
    rename ((_ == _) = false) => he
    rw [str_beq, empty_is, decide_eq_false_iff_not] at he
    have hne : ¬ unsign x.cps.toList = [] := hb ▸ he
    have hlow := (lower_ascii (x := bd) (fun c hc => ha c (unsign_sub (hb ▸ hc)))).trans (congrArg (List.map lowC) hb)
    rename Fr _ _ _ _ => F1
    rename News _ _ _ _ => N1
    refine text_inv (fun i m1 news1 => (∀ p ∈ news, p ∈ news1) ∧ ∃ f tf, Has m1 [(Str.ofString "words", .str x t), (Str.ofString "radix", .int r u), (Str.ofString "found", .int f tf)] ∧ 0 ≤ f ∧ digVal r (((unsign x.cps.toList).map lowC).drop i) f = digVal r ((unsign x.cps.toList).map lowC) 0) rfl F1 N1 ⟨fun p hp => by simp [hn2 p hp], 0, _, .cons rfl (.cons rfl (.cons rfl .nil)), by omega, by rw [List.drop_zero]⟩ ?_ ?_
    · rintro i c m1 news1 h1 tk1 own t1 hi hadr hoff ⟨hs, f, tf, hm, hf0, hf⟩ F2 N2
      rw [hm.see] at F2
      rw [hlow] at hi
      have hc : c < 128 := by
        obtain ⟨c', hc', rfl⟩ := List.mem_map.mp (List.mem_of_getElem? hi)
        exact lowC_lt (ha _ (unsign_sub hc'))
      obtain ⟨hil, hic⟩ := List.getElem?_eq_some_iff.mp hi
      rw [List.drop_eq_getElem_cons hil, hic] at hf
      have hfd := find_digits c hc
      tb_start
      · rename_i hlt kF kN _ _
        rw [hfd] at hlt
        rw [digVal_no (.inl hlt)] at hf
        exact hret _ _ _ _ kF kN ⟨by rw [vIn, if_neg hne, ← hf]; rfl, fun p hp => List.mem_append_left _ (hs p hp)⟩
      · rename_i hlt hge kF kN _ _
        rw [hfd] at hge
        rw [digVal_no (.inr hge)] at hf
        exact hret _ _ _ _ kF kN ⟨by rw [vIn, if_neg hne, ← hf]; rfl, fun p hp => List.mem_append_left _ (hs p hp)⟩
      · rename (¬ Txt.find _ _ < _) => hlt
        rename (¬ _ ≤ Txt.find _ _) => hge
        rename Fr _ _ _ _ => F3
        rename News _ _ _ _ => N3
        rw [hfd] at hlt hge
        rw [hfd] at F3
        rw [digVal_yes (fun q => q.elim hlt (fun z => by omega))] at hf
        refine InvEndN.intro F3 N3 ⟨hs, f * r + figZ c, _, .cons rfl (.cons rfl (.cons rfl .nil)), ?_, hf⟩ hadr (fun p hp => List.mem_append_left _ hp) (fun p hp => List.mem_append_right _ hp)
        have := Int.mul_nonneg hf0 hr0
        omega
    · rintro m1 news1 h1 tk1 ⟨hs, f, tf, hm, hf0, hf⟩ F2 N2
      rw [hm.see] at F2
      rw [List.drop_eq_nil_of_le (by rw [← hlow, str_len]; exact Nat.le_refl _), digVal_nil] at hf
      tb_start
      · rename (Txt.slice _ _ _ == _) = true => hm'
        rename Fr h₀ _ _ _ => kF
        rename News h₀ _ _ _ => kN
        rw [minus_is, is_one, decide_eq_true_eq] at hm'
        refine hret _ _ _ _ kF kN ⟨?_, fun p hp => hs p hp⟩
        rw [vIn, if_neg hne, ← hf]
        simp only [Option.map_some, if_pos hm']
        exact ⟨_, rfl⟩
      · rename (Txt.slice _ _ _ == _) = false => hm'
        rename Fr h₀ _ _ _ => kF
        rename News h₀ _ _ _ => kN
        rw [minus_is, is_one, decide_eq_false_iff_not] at hm'
        refine hret _ _ _ _ kF kN ⟨?_, fun p hp => hs p hp⟩
        rw [vIn, if_neg hne, ← hf]
        simp only [Option.map_some, if_neg hm']
        exact ⟨_, rfl⟩
theorem value_in_go {dp un : Nat} {gd : Option (List Code)} {cn : Str} {cs : Scope} {a : Addr} {ccd : Value} {cl : List (Str × Addr)} {outer : List Env} {A₀ : Around} {base h₀ : Heap} {L : Addr} {m : Str → Option Value} {s : Shared} {Q E : Value → Shared → Prop} {w : World} {p : Program} {loose : List Str} {mean : ExcName → Option Value} {mg : Str → Option Value} {mb : Str → Option Value} {news : List (Addr × Obj)} {x : Str} {r : Int} {t : Tok} {u : Tok} (P : (Below A₀ base outer h₀) ∧ (Fr h₀ L s.heap m) ∧ ((Mine.ka.heap_1 w.params).In h₀) ∧ (News h₀ L s.heap (news)) ∧ (Top p loose mean mg mb h₀) ∧ (cs.kind = .function) ∧ (dp + 1 < 900) ∧ (un + 8 * 1 < 9000) ∧ (0 ≤ r) ∧ (r ≤ 36) ∧ True) (hx : x.length ≤ 100) (ha : ∀ c ∈ x.cps.toList, c < 128) (h : ∀ (h' : Heap) (tk' : Nat), Fr h₀ L h' m → ∀ (v : Value) (n : List (Addr × Obj)), (OptInt v (vIn x.cps.toList r)) → (∀ p ∈ news, p ∈ n) → News h₀ L h' (n) → Q (v) { s with heap := h', toks := tk' }) :
    wpAny (model PySem.Challenge.rw_ok0058_01.row.prog w) (ktrTop dp un gd cn cs L a ccd cl outer) (call (.ref 178) [.str x t, .int r u]) Q E s :=
  by
  exact con_use (value_in_con w p loose mean mg mb news x r t u hx P.2.2.2.2.2.2.2.2.1 P.2.2.2.2.2.2.2.2.2.1 ha) P.1 P.2.1 P.2.2.1 P.2.2.2.1 P.2.2.2.2.1 P.2.2.2.2.2.1 P.2.2.2.2.2.2.1 P.2.2.2.2.2.2.2.1 (fun v h' tk' n' F' N' r => by exact h _ _ F' _ _ r.1 r.2 N')
theorem value_in_go2 {dp un : Nat} {gd : Option (List Code)} {cn : Str} {cs : Scope} {a : Addr} {ccd : Value} {cl : List (Str × Addr)} {outer : List Env} {A₀ : Around} {base h₀ : Heap} {L : Addr} {m : Str → Option Value} {s : Shared} {Q E : Value → Shared → Prop} {w : World} {p : Program} {loose : List Str} {mean : ExcName → Option Value} {mg : Str → Option Value} {mb : Str → Option Value} {news : List (Addr × Obj)} {x : Str} {r : Int} {t : Tok} {u : Tok} (P : (Below A₀ base outer h₀) ∧ (Fr h₀ L s.heap m) ∧ ((Mine.ka.heap_1 w.params).In h₀) ∧ (News h₀ L s.heap (news)) ∧ (Top p loose mean mg mb h₀) ∧ (cs.kind = .function) ∧ (dp + 1 < 900) ∧ (un + 8 * 1 < 9000) ∧ (x.length ≤ 100) ∧ (0 ≤ r) ∧ (r ≤ 36) ∧ True) (ha : ∀ c ∈ x.cps.toList, c < 128) (h : ∀ (h' : Heap) (tk' : Nat), Fr h₀ L h' m → ∀ (v : Value) (n : List (Addr × Obj)), (OptInt v (vIn x.cps.toList r)) → (∀ p ∈ news, p ∈ n) → News h₀ L h' (n) → Q (v) { s with heap := h', toks := tk' }) :
    wpAny (model PySem.Challenge.rw_ok0058_01.row.prog w) (ktrTop dp un gd cn cs L a ccd cl outer) (call (.ref 178) [.str x t, .int r u]) Q E s :=
  by
  exact con_use (value_in_con w p loose mean mg mb news x r t u P.2.2.2.2.2.2.2.2.1 P.2.2.2.2.2.2.2.2.2.1 P.2.2.2.2.2.2.2.2.2.2.1 ha) P.1 P.2.1 P.2.2.1 P.2.2.2.1 P.2.2.2.2.1 P.2.2.2.2.2.1 P.2.2.2.2.2.2.1 P.2.2.2.2.2.2.2.1 (fun v h' tk' n' F' N' r => by exact h _ _ F' _ _ r.1 r.2 N')
end Mine
namespace Mine
set_option maxRecDepth 100000
set_option maxHeartbeats 0
local macro_rules | `(tactic| walk_at "InvEndN") => `(tactic| refine hold ?_)
noncomputable def allFigs (l : List Nat) : Bool := !l.isEmpty && l.all fun c => decide (48 ≤ c ∧ c ≤ 57)
theorem signs_all (x : Str) : ((signs x).all fun a => !(Builtin.Str.occurrences (Str.ofString "0123456789") a 0 (Str.ofString "0123456789").length 1).isEmpty) = x.cps.toList.all fun c => decide (48 ≤ c ∧ c ≤ 57) := by
  have e : signs x = x.cps.toList.map fun c => (⟨#[c]⟩ : Str) := by unfold signs; simp
  rw [e, List.all_map]
  congr 1; funext c
  show (!(Builtin.Str.occurrences (Str.ofString "0123456789") ⟨#[c]⟩ 0 (Str.ofString "0123456789").length 1).isEmpty) = _
  rw [in_digits, Bool.not_not]
theorem empty_eq : Str.ofString "" = ⟨#[]⟩ := by decide +kernel
theorem nonempty_is (x : Str) : (x != Str.ofString "") = !x.cps.toList.isEmpty := by
  rw [bne, str_beq, empty_eq]
  cases x.cps.toList <;> rfl
theorem are_figures_con (w : World) (p : Program) (loose : List Str) (mean : ExcName → Option Value) (mg mb : Str → Option Value) (news : List (Addr × Obj)) (x : Str) (t : Tok) (hx : x.length ≤ 100) :
   Con w p loose mean mg mb 190 [.str x t] news 1 (fun v news' => v = .bool (allFigs x.cps.toList) ∧ ∀ p ∈ news, p ∈ news') := by
  unfold Con
  k_fill
  intro dp un gd cn cs a ccd cl outer A₀ base h₀ L m s Q E B F X N T hk hd hu hret
  have hd' : dp < recursionLimit := dep_lim (by assumption)
  refine wpAny_call ?_
  k_dflt ktr_enter
  rename_i g' L' h' FG' F' N' B' X' T'
  replace F' : Fr g' L' h' (fun y => List.lookup y [(Str.ofString "words", .str x t)]) := F'
  generalize s.toks + List.length _ = tk0
  tb_start
  · rename (_ != _) = true => hne
    rename Fr h₀ _ _ _ => kF
    rename News h₀ _ _ _ => kN
    refine hret _ _ _ _ kF kN ⟨?_, fun p hp => ?_⟩
    · rw [nonempty_is] at hne
      rw [signs_all, allFigs, hne, Bool.true_and]
    · first | exact hp | exact List.mem_cons_of_mem _ hp
  · rename (_ != _) = false => hne
    rename Fr h₀ _ _ _ => kF
    rename News h₀ _ _ _ => kN
    refine hret _ _ _ _ kF kN ⟨?_, fun p hp => hp⟩
    rw [nonempty_is] at hne
    rw [nonempty_is, allFigs, hne, Bool.false_and]
theorem are_figures_go {dp un : Nat} {gd : Option (List Code)} {cn : Str} {cs : Scope} {a : Addr} {ccd : Value} {cl : List (Str × Addr)} {outer : List Env} {A₀ : Around} {base h₀ : Heap} {L : Addr} {m : Str → Option Value} {s : Shared} {Q E : Value → Shared → Prop} {w : World} {p : Program} {loose : List Str} {mean : ExcName → Option Value} {mg : Str → Option Value} {mb : Str → Option Value} {news : List (Addr × Obj)} {x : Str} {t : Tok} (P : (Below A₀ base outer h₀) ∧ (Fr h₀ L s.heap m) ∧ ((Mine.ka.heap_1 w.params).In h₀) ∧ (News h₀ L s.heap (news)) ∧ (Top p loose mean mg mb h₀) ∧ (cs.kind = .function) ∧ (dp + 1 < 900) ∧ (un + 8 * 1 < 9000) ∧ True) (hx : x.length ≤ 100) (h : ∀ (h' : Heap) (tk' : Nat), Fr h₀ L h' m → ∀ (n : List (Addr × Obj)), (∀ p ∈ news, p ∈ n) → News h₀ L h' (n) → Q (.bool (allFigs x.cps.toList)) { s with heap := h', toks := tk' }) :
    wpAny (model PySem.Challenge.rw_ok0058_01.row.prog w) (ktrTop dp un gd cn cs L a ccd cl outer) (call (.ref 190) [.str x t]) Q E s :=
  by
  exact con_use (are_figures_con w p loose mean mg mb news x t hx) P.1 P.2.1 P.2.2.1 P.2.2.2.1 P.2.2.2.2.1 P.2.2.2.2.2.1 P.2.2.2.2.2.2.1 P.2.2.2.2.2.2.2.1 (fun v h' tk' n' F' N' r => by obtain ⟨e, q⟩ := r; subst e; exact h _ _ F' _ q N')
end Mine
namespace Mine
set_option maxRecDepth 100000
set_option maxHeartbeats 0
local macro_rules | `(tactic| walk_at "InvEndN") => `(tactic| refine hold ?_)
local macro_rules | `(tactic| walk_at "call ref") => `(tactic| (k_here; k_dflt (refine' value_in_go2 ?k1 (hold ?_) ?_; (case k1 => keq_rows); rotate_right 1; intros)))
theorem dot_is : Str.ofString "." = ⟨#[46]⟩ := by decide +kernel
theorem last_is (x : Str) (c : Nat) : (Txt.slice x (some (-1)) none == (⟨#[c]⟩ : Str)) = decide (x.cps.toList.getLast? = some c) := by
  rw [str_beq, slice_last]
  show decide (x.cps.toList.drop (x.cps.toList.length - 1) = [c]) = _
  apply decide_eq_decide.mpr
  generalize x.cps.toList = l
  rcases List.eq_nil_or_concat l with rfl | ⟨r, a, rfl⟩
  · simp
  · simp
noncomputable def intOf (l : List Nat) : Option Int := vIn (if l.getLast? = some 46 then l.dropLast else l) 10

theorem integer_of_con (w : World) (p : Program) (loose : List Str) (mean : ExcName → Option Value) (mg mb : Str → Option Value) (news : List (Addr × Obj)) (x : Str) (t : Tok) (hx : x.length ≤ 100) (ha : ∀ c ∈ x.cps.toList, c < 128) :
   Con w p loose mean mg mb 185 [.str x t] news 2 (fun v news' => OptInt v (intOf x.cps.toList) ∧ ∀ p ∈ news, p ∈ news') := by
  unfold Con
  k_fill
  intro dp un gd cn cs a ccd cl outer A₀ base h₀ L m s Q E B F X N T hk hd hu hret
  have hd' : dp < recursionLimit := dep_lim (by assumption)
  refine wpAny_call ?_
  k_dflt ktr_enter
  rename_i g' L' h' FG' F' N' B' X' T'
  replace F' : Fr g' L' h' (fun y => List.lookup y [(Str.ofString "words", .str x t)]) := F'
  generalize s.toks + List.length _ = tk0
  tb_start
  · rename (_ == _) = true => he
    rename Fr h₀ _ _ _ => kF
    rename News h₀ _ _ _ => kN
    rename OptInt _ _ => hr
    rename (∀ p ∈ _, p ∈ _) => hs
    rw [dot_is, last_is, decide_eq_true_eq] at he
    refine hret _ _ _ _ kF kN ?_
    rw [slice_but_last] at hr
    rw [intOf, if_pos he]
    exact ⟨hr, hs⟩
  · unfold Hold
    rw [slice_but_last]
    exact fun c hc => ha c ((List.dropLast_sublist _).subset hc)
  · rename (_ == _) = false => he
    rename Fr h₀ _ _ _ => kF
    rename News h₀ _ _ _ => kN
    rename OptInt _ _ => hr
    rename (∀ p ∈ _, p ∈ _) => hs
    rw [dot_is, last_is, decide_eq_false_iff_not] at he
    refine hret _ _ _ _ kF kN ?_
    rw [intOf, if_neg he]
    exact ⟨hr, hs⟩
  · exact ha
theorem integer_of_go {dp un : Nat} {gd : Option (List Code)} {cn : Str} {cs : Scope} {a : Addr} {ccd : Value} {cl : List (Str × Addr)} {outer : List Env} {A₀ : Around} {base h₀ : Heap} {L : Addr} {m : Str → Option Value} {s : Shared} {Q E : Value → Shared → Prop} {w : World} {p : Program} {loose : List Str} {mean : ExcName → Option Value} {mg : Str → Option Value} {mb : Str → Option Value} {news : List (Addr × Obj)} {x : Str} {t : Tok} (P : (Below A₀ base outer h₀) ∧ (Fr h₀ L s.heap m) ∧ ((Mine.ka.heap_1 w.params).In h₀) ∧ (News h₀ L s.heap (news)) ∧ (Top p loose mean mg mb h₀) ∧ (cs.kind = .function) ∧ (dp + 2 < 900) ∧ (un + 8 * 2 < 9000) ∧ True) (hx : x.length ≤ 100) (ha : ∀ c ∈ x.cps.toList, c < 128) (h : ∀ (h' : Heap) (tk' : Nat), Fr h₀ L h' m → ∀ (v : Value) (n : List (Addr × Obj)), (OptInt v (intOf x.cps.toList)) → (∀ p ∈ news, p ∈ n) → News h₀ L h' (n) → Q (v) { s with heap := h', toks := tk' }) :
    wpAny (model PySem.Challenge.rw_ok0058_01.row.prog w) (ktrTop dp un gd cn cs L a ccd cl outer) (call (.ref 185) [.str x t]) Q E s :=
  by
  exact con_use (integer_of_con w p loose mean mg mb news x t hx ha) P.1 P.2.1 P.2.2.1 P.2.2.2.1 P.2.2.2.2.1 P.2.2.2.2.2.1 P.2.2.2.2.2.2.1 P.2.2.2.2.2.2.2.1 (fun v h' tk' n' F' N' r => by exact h _ _ F' _ _ r.1 r.2 N')
end Mine
namespace Mine
set_option maxRecDepth 100000
set_option maxHeartbeats 0
local macro_rules | `(tactic| walk_at "InvEndN") => `(tactic| refine hold ?_)
local macro_rules | `(tactic| walk_at "call builtin:str.lower") => `(tactic| (refine SCL.lower (by omega) ?_; intro _))
local macro_rules | `(tactic| walk_at "call ref") => `(tactic| (k_here; k_dflt (refine' are_figures_go ?k1 (hold ?_) ?_; (case k1 => keq_rows); rotate_right 1; intros)))

theorem inf_is : (Str.ofString "+inf").cps.toList = [43, 105, 110, 102] := by decide +kernel
theorem nan_is : (Str.ofString "+nan").cps.toList = [43, 110, 97, 110] := by decide +kernel
theorem infnan (x : Str) : ([Str.ofString "+inf", Str.ofString "+nan"].any fun y => y == x) = decide (x.cps.toList = [43, 105, 110, 102] ∨ x.cps.toList = [43, 110, 97, 110]) := by
  simp only [List.any_cons, List.any_nil, Bool.or_false, str_beq, inf_is, nan_is]
  rw [Bool.eq_iff_iff]
  simp only [Bool.or_eq_true, decide_eq_true_eq]
  exact ⟨fun h => h.imp Eq.symm Eq.symm, fun h => h.imp Eq.symm Eq.symm⟩
noncomputable def isPow (l : List Nat) : Bool := decide (l = [43, 105, 110, 102] ∨ l = [43, 110, 97, 110]) || allFigs (unsign l)
theorem is_power_con (w : World) (p : Program) (loose : List Str) (mean : ExcName → Option Value) (mg mb : Str → Option Value) (news : List (Addr × Obj)) (x : Str) (t : Tok) (hx : x.length ≤ 100) :
   Con w p loose mean mg mb 197 [.str x t] news 2 (fun v news' => v = .bool (isPow x.cps.toList) ∧ ∀ p ∈ news, p ∈ news') := by
  unfold Con
  k_fill
  intro dp un gd cn cs a ccd cl outer A₀ base h₀ L m s Q E B F X N T hk hd hu hret
  have hd' : dp < recursionLimit := dep_lim (by assumption)
  refine wpAny_call ?_
  k_dflt ktr_enter
  rename_i g' L' h' FG' F' N' B' X' T'
  replace F' : Fr g' L' h' (fun y => List.lookup y [(Str.ofString "tail", .str x t)]) := F'
  generalize s.toks + List.length _ = tk0
  tb_start
  · rename (List.any _ _ = true) => hc
    rename Fr h₀ _ _ _ => kF
    rename News h₀ _ _ _ => kN
    refine hret _ _ _ _ kF kN ⟨?_, fun p hp => by simp [hp]⟩
    rw [hc]
    rw [infnan] at hc
    rw [isPow, hc, Bool.true_or]
  · rename (List.any _ _ = false) => hi
    rename (List.any _ _ = true) => hc
    rename Fr h₀ _ _ _ => kF
    rename News h₀ _ _ _ => kN
    rename (∀ p ∈ _, p ∈ _) => hs
    refine hret _ _ _ _ kF kN ⟨?_, fun p hp => hs p (by simp [hp])⟩
    rw [infnan] at hi
    rw [isPow, hi, Bool.false_or, sign_yes hc]
  · unfold Hold; omega
  · rename (List.any [Str.ofString "+inf", Str.ofString "+nan"] _ = false) => hi
    rename (List.any [Str.ofString "+", Str.ofString "-"] _ = false) => hc
    rename Fr h₀ _ _ _ => kF
    rename News h₀ _ _ _ => kN
    rename (∀ p ∈ _, p ∈ _) => hs
    refine hret _ _ _ _ kF kN ⟨?_, fun p hp => hs p (by simp [hp])⟩
    rw [infnan] at hi
    rw [isPow, hi, Bool.false_or, ← sign_no hc]
  · exact hx
theorem is_power_go {dp un : Nat} {gd : Option (List Code)} {cn : Str} {cs : Scope} {a : Addr} {ccd : Value} {cl : List (Str × Addr)} {outer : List Env} {A₀ : Around} {base h₀ : Heap} {L : Addr} {m : Str → Option Value} {s : Shared} {Q E : Value → Shared → Prop} {w : World} {p : Program} {loose : List Str} {mean : ExcName → Option Value} {mg : Str → Option Value} {mb : Str → Option Value} {news : List (Addr × Obj)} {x : Str} {t : Tok} (P : (Below A₀ base outer h₀) ∧ (Fr h₀ L s.heap m) ∧ ((Mine.ka.heap_1 w.params).In h₀) ∧ (News h₀ L s.heap (news)) ∧ (Top p loose mean mg mb h₀) ∧ (cs.kind = .function) ∧ (dp + 2 < 900) ∧ (un + 8 * 2 < 9000) ∧ True) (hx : x.length ≤ 100) (h : ∀ (h' : Heap) (tk' : Nat), Fr h₀ L h' m → ∀ (n : List (Addr × Obj)), (∀ p ∈ news, p ∈ n) → News h₀ L h' (n) → Q (.bool (isPow x.cps.toList)) { s with heap := h', toks := tk' }) :
    wpAny (model PySem.Challenge.rw_ok0058_01.row.prog w) (ktrTop dp un gd cn cs L a ccd cl outer) (call (.ref 197) [.str x t]) Q E s :=
  by
  exact con_use (is_power_con w p loose mean mg mb news x t hx) P.1 P.2.1 P.2.2.1 P.2.2.2.1 P.2.2.2.2.1 P.2.2.2.2.2.1 P.2.2.2.2.2.2.1 P.2.2.2.2.2.2.2.1 (fun v h' tk' n' F' N' r => by obtain ⟨e, q⟩ := r; subst e; exact h _ _ F' _ q N')
end Mine
local macro_rules | `(tactic| walk_at "call ref") => `(tactic| (k_here; k_dflt (refine' Mine.are_figures_go ?k1 (Mine.hold ?_) ?_; (case k1 => keq_rows); rotate_right 1; intros)))
namespace Mine
set_option maxRecDepth 100000
set_option maxHeartbeats 0
local macro_rules | `(tactic| walk_at "InvEndN") => `(tactic| refine hold ?_)
local macro_rules | `(tactic| walk_at "call builtin:str.lower") => `(tactic| (refine SCL.lower (by omega) ?_; intro _))
local macro_rules | `(tactic| walk_at "call ref") => `(tactic| (k_here; k_dflt (refine' is_power_go ?k1 (hold ?_) ?_; (case k1 => keq_rows); rotate_right 1; intros)))
noncomputable def cut (c : Nat) : List Nat → List Nat × Bool × List Nat
  | [] => ([], false, [])
  | a :: r => if a = c then ([], true, r) else (a :: (cut c r).1, (cut c r).2)
theorem cut_none {c : Nat} : ∀ {l : List Nat}, c ∉ l → cut c l = (l, false, [])
  | [], _ => rfl
  | a :: r, h => by
    have h1 : ¬ a = c := fun e => h (e ▸ List.mem_cons_self ..)
    rw [cut, if_neg h1, cut_none (l := r) fun m => h (List.mem_cons_of_mem _ m)]
theorem cut_some {c : Nat} {q : List Nat} : ∀ {p : List Nat}, c ∉ p → cut c (p ++ c :: q) = (p, true, q)
  | [], _ => by show cut c (c :: q) = _; rw [cut, if_pos rfl]
  | a :: r, h => by
    have h1 : ¬ a = c := fun e => h (e ▸ List.mem_cons_self ..)
    show cut c (a :: (r ++ c :: q)) = _
    rw [cut, if_neg h1, cut_some (p := r) fun m => h (List.mem_cons_of_mem _ m)]
theorem part_cut (x : Str) (c : Nat) : (Txt.partition x ⟨#[c]⟩).1.cps.toList = (cut c x.cps.toList).1 ∧ ((Txt.partition x ⟨#[c]⟩).2.1 == Str.ofString "") = !(cut c x.cps.toList).2.1 ∧ (Txt.partition x ⟨#[c]⟩).2.2.cps.toList = (cut c x.cps.toList).2.2 := by
  by_cases h : c ∈ x.cps.toList
  · obtain ⟨p, q, e, hp, e1, e2, e3⟩ := part_some h
    rw [e, cut_some hp, e1, e2, e3]
    refine ⟨rfl, ?_, rfl⟩
    rw [str_beq, empty_is]; rfl
  · rw [part_none h, cut_none h]
    refine ⟨rfl, ?_, rfl⟩
    show (Str.empty == Str.ofString "") = true
    decide +kernel
theorem e_is : Str.ofString "e" = ⟨#[101]⟩ := by decide +kernel
/-- the head and the mark of the exponent; whole, point and part -/
noncomputable def isFlo (l : List Nat) : Bool :=
  let E := cut 101 ((unsign l).map lowC)
  let D := cut 46 E.1
  allFigs (D.1 ++ D.2.2) && (if E.2.1 then (!D.2.1 || !D.2.2.isEmpty) && isPow E.2.2 else !D.2.2.isEmpty)
structure Flo (b : Str) (l : List Nat) : Prop where
  f1 : ((Txt.partition (Txt.lower b) (Str.ofString "e")).2.1 == Str.ofString "") = !(cut 101 ((unsign l).map lowC)).2.1
  f2 : (Txt.partition (Txt.lower b) (Str.ofString "e")).2.2.cps.toList = (cut 101 ((unsign l).map lowC)).2.2
  f3 : ((Txt.partition (Txt.partition (Txt.lower b) (Str.ofString "e")).1 (Str.ofString ".")).2.1 == Str.ofString "") = !(cut 46 (cut 101 ((unsign l).map lowC)).1).2.1
  f4 : (Txt.partition (Txt.partition (Txt.lower b) (Str.ofString "e")).1 (Str.ofString ".")).1.cps.toList = (cut 46 (cut 101 ((unsign l).map lowC)).1).1
  f5 : (Txt.partition (Txt.partition (Txt.lower b) (Str.ofString "e")).1 (Str.ofString ".")).2.2.cps.toList = (cut 46 (cut 101 ((unsign l).map lowC)).1).2.2
theorem flo_of {b : Str} {l : List Nat} (hb : b.cps.toList = unsign l) (ha : ∀ c ∈ l, c < 128) : Flo b l := by
  have hlow := (lower_ascii (x := b) (fun c hc => ha c (unsign_sub (hb ▸ hc)))).trans (congrArg (List.map lowC) hb)
  obtain ⟨a1, a2, a3⟩ := part_cut (Txt.lower b) 101
  obtain ⟨b1, b2, b3⟩ := part_cut (Txt.partition (Txt.lower b) ⟨#[101]⟩).1 46
  rw [a1] at b1 b2 b3
  rw [hlow] at a1 a2 a3 b1 b2 b3
  rw [← e_is] at a1 a2 a3 b1 b2 b3
  rw [← dot_is] at b1 b2 b3
  exact ⟨a2, a3, b2, b1, b3⟩
theorem cut_len (c : Nat) : ∀ l : List Nat, (cut c l).1.length + (cut c l).2.2.length ≤ l.length
  | [] => Nat.le_refl _
  | a :: r => by
    have := cut_len c r
    rw [cut]
    split
    · simp
    · simp only [List.length_cons]; omega

theorem is_float_con (w : World) (p : Program) (loose : List Str) (mean : ExcName → Option Value) (mg mb : Str → Option Value) (news : List (Addr × Obj)) (x : Str) (t : Tok) (hx : x.length ≤ 30) (ha : ∀ c ∈ x.cps.toList, c < 128) :
   Con w p loose mean mg mb 204 [.str x t] news 3 (fun v news' => v = .bool (isFlo x.cps.toList) ∧ ∀ p ∈ news, p ∈ news') := by
  unfold Con
  k_fill
  intro dp un gd cn cs a ccd cl outer A₀ base h₀ L m s Q E B F X N T hk hd hu hret
  have hd' : dp < recursionLimit := dep_lim (by assumption)
  refine wpAny_call ?_
  k_dflt ktr_enter
  rename_i g' L' h' FG' F' N' B' X' T'
  replace F' : Fr g' L' h' (fun y => List.lookup y [(Str.ofString "words", .str x t)]) := F'
  generalize s.toks + List.length _ = tk0
  refine wpAny_execs_cons ?_
  with_reducible refine cut_exec (fun (s' : Shared) => Hold (∃ (bd : Str) (tb : Tok) (h2 : Heap) (tk : Nat) (m2 : Str → Option Value) (n2 : List (Addr × Obj)), s' = { s with heap := h2, toks := tk } ∧ Fr g' L' h2 m2 ∧ Has m2 [(Str.ofString "words", .str x t), (Str.ofString "body", .str bd tb)] ∧ News g' L' h2 n2 ∧ (∀ p ∈ news, p ∈ n2) ∧ bd.cps.toList = unsign x.cps.toList)) ?_ ?_
  · refine wpAny_Assign_Name ?_
    tb_start
    all_goals first
      | trivial
      | (rename (List.any _ _ = true) => hc
         with_reducible rename Fr g' _ _ _ => F2
         with_reducible rename News g' _ _ _ => N2
         exact unhold ⟨_, _, _, _, _, _, rfl, F2, .cons rfl (.cons rfl .nil), N2, fun p hp => by simp [hp], sign_yes hc⟩)
      | (rename (List.any _ _ = false) => hc
         with_reducible rename Fr g' _ _ _ => F2
         with_reducible rename News g' _ _ _ => N2
         exact unhold ⟨_, _, _, _, _, _, rfl, F2, .cons rfl (.cons rfl .nil), N2, fun p hp => by simp [hp], sign_no hc⟩)
  rintro s' ⟨bd, tb, h2, tk2, m2, n2, rfl, F2, hm2, N2, hn2, hb⟩
  rw [hm2.see] at F2
  clear F' N'
  have hbl : bd.length ≤ 30 := by
    have := unsign_len x.cps.toList
    rw [str_len] at hx ⊢
    rw [hb]; omega
  tb_start
  · have G := flo_of hb ha
    with_reducible rename Fr h₀ _ _ _ => kF
    with_reducible rename News h₀ _ _ _ => kN
    with_reducible rename (∀ p ∈ _, p ∈ _) => hs
    refine hret _ _ _ _ kF kN ⟨congrArg Value.bool ?_, fun p hp => hs p (by simp [hn2 p hp])⟩
    with_reducible rename (allFigs _ = true) => hA
    rw [app_list, G.f4, G.f5] at hA
    with_reducible rename ((Txt.partition (Txt.lower _) (Str.ofString "e")).2.1 == _) = true => hM
    rw [G.f1, Bool.not_eq_true'] at hM
    rw [nonempty_is, G.f5]
    simp only [isFlo, hA, hM, Bool.true_and, Bool.false_eq_true, if_false]
  · have G := flo_of hb ha
    with_reducible rename Fr h₀ _ _ _ => kF
    with_reducible rename News h₀ _ _ _ => kN
    with_reducible rename (∀ p ∈ _, p ∈ _) => hs
    revert hs; with_reducible rename (∀ p ∈ _, p ∈ _) => hs1; intro hs
    refine hret _ _ _ _ kF kN ⟨congrArg Value.bool ?_, fun p hp => hs p (hs1 p (by simp [hn2 p hp]))⟩
    with_reducible rename (allFigs _ = true) => hA
    rw [app_list, G.f4, G.f5] at hA
    with_reducible rename ((Txt.partition (Txt.lower _) (Str.ofString "e")).2.1 == _) = false => hM
    rw [G.f1, Bool.not_eq_false'] at hM
    with_reducible rename ((Txt.partition (Txt.partition _ _).1 (Str.ofString ".")).2.1 == _) = true => hP
    rw [G.f3, Bool.not_eq_true'] at hP
    rw [G.f2]
    simp only [isFlo, hA, hM, hP, Bool.true_and, Bool.not_false, Bool.true_or, if_true]
  · unfold Hold
    have G := flo_of hb ha
    have hB : ((unsign x.cps.toList).map lowC).length ≤ 30 := by
      have := unsign_len x.cps.toList
      rw [str_len] at hx
      simp only [List.length_map]; omega
    have h1 := cut_len 101 ((unsign x.cps.toList).map lowC)
    have h2 := cut_len 46 (cut 101 ((unsign x.cps.toList).map lowC)).1
    rw [str_len]
    rw [G.f2]; omega
  · have G := flo_of hb ha
    with_reducible rename Fr h₀ _ _ _ => kF
    with_reducible rename News h₀ _ _ _ => kN
    with_reducible rename (∀ p ∈ _, p ∈ _) => hs
    revert hs; with_reducible rename (∀ p ∈ _, p ∈ _) => hs1; intro hs
    refine hret _ _ _ _ kF kN ⟨congrArg Value.bool ?_, fun p hp => hs p (hs1 p (by simp [hn2 p hp]))⟩
    with_reducible rename (allFigs _ = true) => hA
    rw [app_list, G.f4, G.f5] at hA
    with_reducible rename ((Txt.partition (Txt.lower _) (Str.ofString "e")).2.1 == _) = false => hM
    rw [G.f1, Bool.not_eq_false'] at hM
    with_reducible rename ((Txt.partition (Txt.partition _ _).1 (Str.ofString ".")).2.2 != _) = true => hQ
    rw [nonempty_is, G.f5] at hQ
    rw [G.f2]
    simp only [isFlo, hA, hM, hQ, Bool.true_and, Bool.or_true, if_true]
  · unfold Hold
    have G := flo_of hb ha
    have hB : ((unsign x.cps.toList).map lowC).length ≤ 30 := by
      have := unsign_len x.cps.toList
      rw [str_len] at hx
      simp only [List.length_map]; omega
    have h1 := cut_len 101 ((unsign x.cps.toList).map lowC)
    have h2 := cut_len 46 (cut 101 ((unsign x.cps.toList).map lowC)).1
    rw [str_len]
    rw [G.f2]; omega
  · have G := flo_of hb ha
    with_reducible rename Fr h₀ _ _ _ => kF
    with_reducible rename News h₀ _ _ _ => kN
    with_reducible rename (∀ p ∈ _, p ∈ _) => hs
    refine hret _ _ _ _ kF kN ⟨congrArg Value.bool ?_, fun p hp => hs p (by simp [hn2 p hp])⟩
    with_reducible rename (allFigs _ = true) => hA
    rw [app_list, G.f4, G.f5] at hA
    with_reducible rename ((Txt.partition (Txt.lower _) (Str.ofString "e")).2.1 == _) = false => hM
    rw [G.f1, Bool.not_eq_false'] at hM
    with_reducible rename ((Txt.partition (Txt.partition _ _).1 (Str.ofString ".")).2.1 == _) = false => hP
    rw [G.f3, Bool.not_eq_false'] at hP
    with_reducible rename ((Txt.partition (Txt.partition _ _).1 (Str.ofString ".")).2.2 != _) = false => hQ
    rw [nonempty_is, G.f5] at hQ
    try rw [nonempty_is, G.f5]
    simp only [isFlo, hA, hM, hP, hQ, Bool.true_and, Bool.not_true, Bool.false_and, Bool.or_false, if_true]
  · have G := flo_of hb ha
    with_reducible rename Fr h₀ _ _ _ => kF
    with_reducible rename News h₀ _ _ _ => kN
    with_reducible rename (∀ p ∈ _, p ∈ _) => hs
    refine hret _ _ _ _ kF kN ⟨congrArg Value.bool ?_, fun p hp => hs p (by simp [hn2 p hp])⟩
    with_reducible rename (allFigs _ = false) => hA
    rw [app_list, G.f4, G.f5] at hA
    simp only [isFlo, hA, Bool.false_and]
  · unfold Hold
    have G := flo_of hb ha
    have hB : ((unsign x.cps.toList).map lowC).length ≤ 30 := by
      have := unsign_len x.cps.toList
      rw [str_len] at hx
      simp only [List.length_map]; omega
    have h1 := cut_len 101 ((unsign x.cps.toList).map lowC)
    have h2 := cut_len 46 (cut 101 ((unsign x.cps.toList).map lowC)).1
    rw [str_len]
    rw [app_list, List.length_append, G.f4, G.f5]; omega
theorem is_float_go {dp un : Nat} {gd : Option (List Code)} {cn : Str} {cs : Scope} {a : Addr} {ccd : Value} {cl : List (Str × Addr)} {outer : List Env} {A₀ : Around} {base h₀ : Heap} {L : Addr} {m : Str → Option Value} {s : Shared} {Q E : Value → Shared → Prop} {w : World} {p : Program} {loose : List Str} {mean : ExcName → Option Value} {mg : Str → Option Value} {mb : Str → Option Value} {news : List (Addr × Obj)} {x : Str} {t : Tok} (P : (Below A₀ base outer h₀) ∧ (Fr h₀ L s.heap m) ∧ ((Mine.ka.heap_1 w.params).In h₀) ∧ (News h₀ L s.heap (news)) ∧ (Top p loose mean mg mb h₀) ∧ (cs.kind = .function) ∧ (dp + 3 < 900) ∧ (un + 8 * 3 < 9000) ∧ True) (hx : x.length ≤ 30) (ha : ∀ c ∈ x.cps.toList, c < 128) (h : ∀ (h' : Heap) (tk' : Nat), Fr h₀ L h' m → ∀ (n : List (Addr × Obj)), (∀ p ∈ news, p ∈ n) → News h₀ L h' (n) → Q (.bool (isFlo x.cps.toList)) { s with heap := h', toks := tk' }) :
    wpAny (model PySem.Challenge.rw_ok0058_01.row.prog w) (ktrTop dp un gd cn cs L a ccd cl outer) (call (.ref 204) [.str x t]) Q E s :=
  by
  exact con_use (is_float_con w p loose mean mg mb news x t hx ha) P.1 P.2.1 P.2.2.1 P.2.2.2.1 P.2.2.2.2.1 P.2.2.2.2.2.1 P.2.2.2.2.2.2.1 P.2.2.2.2.2.2.2.1 (fun v h' tk' n' F' N' r => by obtain ⟨e, q⟩ := r; subst e; exact h _ _ F' _ q N')
end Mine
namespace Mine
set_option maxRecDepth 100000
set_option maxHeartbeats 0
local macro_rules | `(tactic| walk_at "InvEndN") => `(tactic| refine hold ?_)
local macro_rules | `(tactic| walk_at "call builtin:str.lower") => `(tactic| (refine SCL.lower (by omega) ?_; intro _))

theorem at_dot {x : Str} {j : Int} (h : 0 ≤ j) : (Txt.slice x (some j) (some (j + 1)) == Str.ofString ".") = decide ((x.cps.toList.drop j.toNat).head? = some 46) := by
  rw [dot_is, str_beq, slice_mid h (by omega)]
  rw [show (j + 1).toNat - j.toNat = 1 by omega]
  show decide ((x.cps.toList.drop j.toNat).take 1 = [46]) = _
  cases x.cps.toList.drop j.toNat with
  | nil => simp
  | cons a r => simp
theorem at_dot_lt {x : Str} {j : Int} (h : (Txt.slice x (some j) (some (j + 1)) == Str.ofString ".") = true) (h0 : 0 ≤ j) : j + 1 ≤ x.length := by
  rw [at_dot h0, decide_eq_true_eq] at h
  rw [str_len]
  have : j.toNat < x.cps.toList.length := by
    apply Nat.lt_of_not_le
    intro q
    rw [List.drop_eq_nil_of_le q] at h; cases h
  omega
theorem at_e {x : Str} {j : Int} (h : 0 ≤ j) (hl : j < x.length) (ha : ∀ c ∈ x.cps.toList, c < 128) : (Txt.lower (Txt.item x j) != Str.ofString "e") = !decide (lowC (x.cps.toList.getD j.toNat 0) = 101) := by
  have hl' : j.toNat < x.cps.toList.length := by rw [str_len] at hl; omega
  have hc : x.cps.toList.getD j.toNat 0 < 128 := by
    have e : x.cps.toList.getD j.toNat 0 = x.cps.toList[j.toNat] := by rw [List.getD, List.getElem?_eq_getElem hl']; rfl
    rw [e]
    exact ha _ (List.getElem_mem hl')
  rw [bne, str_beq, item_at h hl, e_is, lower_ascii (x := ⟨#[x.cps.toList.getD j.toNat 0]⟩) (by intro c hc'; rw [List.mem_singleton.mp hc']; exact hc)]
  congr 1
  show decide ([lowC (x.cps.toList.getD j.toNat 0)] = [101]) = _
  simp
theorem at_inf {x : Str} {j : Int} (h : 0 ≤ j) (ha : ∀ c ∈ x.cps.toList, c < 128) : ([Str.ofString "+inf", Str.ofString "+nan"].any fun y => y == Txt.lower (Txt.slice x (some j) none)) = decide ((x.cps.toList.drop j.toNat).map lowC = [43, 105, 110, 102] ∨ (x.cps.toList.drop j.toNat).map lowC = [43, 110, 97, 110]) := by
  have e := slice_from (x := x) h
  rw [infnan, lower_ascii (by rw [e]; exact fun c hc => ha c (List.mem_of_mem_drop hc)), e]
noncomputable def tailFlo (t : List Nat) : Bool := decide (t.map lowC = [43, 105, 110, 102] ∨ t.map lowC = [43, 110, 97, 110]) ||
  (if t.head? = some 43 ∨ t.head? = some 45 then decide (1 < t.length) && decide (1 + figs (t.drop 1) = t.length) else decide (0 < t.length) && decide (figs t = t.length))
theorem sign_is (x : Str) : ([Str.ofString "+", Str.ofString "-"].any fun y => y == Txt.slice x none (some 1)) = decide (x.cps.toList.head? = some 43 ∨ x.cps.toList.head? = some 45) := by
  simp only [List.any_cons, List.any_nil, Bool.or_false, plus_is, minus_is, one_is]
  rw [Bool.eq_iff_iff]; simp
section
variable {x T : Str} {t : List Nat}
theorem tail_inf (hi : decide (t.map lowC = [43, 105, 110, 102] ∨ t.map lowC = [43, 110, 97, 110]) = true) : true = tailFlo t := by rw [tailFlo, hi]; rfl
theorem tail_sign {j : Int} (hi : decide (t.map lowC = [43, 105, 110, 102] ∨ t.map lowC = [43, 110, 97, 110]) = false) (hT : T.cps.toList = t) (hs : ([Str.ofString "+", Str.ofString "-"].any fun y => y == Txt.slice T none (some 1)) = true)
    (h1 : 1 < (T.length : Int)) (hj : j = 1 + ↑(figs (List.drop (Int.toNat 1) T.cps.toList))) : (j == (T.length : Int)) = tailFlo t := by
  rw [sign_is, hT, decide_eq_true_eq] at hs
  rw [str_len, hT] at h1 ⊢
  rw [hT] at hj
  have h1' : 1 < t.length := by omega
  rw [tailFlo, hi, Bool.false_or, if_pos hs, decide_eq_true h1', Bool.true_and, hj]
  show decide ((1 : Int) + ↑(figs (t.drop 1)) = (t.length : Int)) = _
  apply decide_eq_decide.mpr; omega
theorem tail_short (hi : decide (t.map lowC = [43, 105, 110, 102] ∨ t.map lowC = [43, 110, 97, 110]) = false) (hT : T.cps.toList = t) (hs : ([Str.ofString "+", Str.ofString "-"].any fun y => y == Txt.slice T none (some 1)) = true)
    (h1 : ¬ 1 < (T.length : Int)) : decide (1 < (T.length : Int)) = tailFlo t := by
  rw [sign_is, hT, decide_eq_true_eq] at hs
  rw [str_len, hT] at h1 ⊢
  have h1' : ¬ 1 < t.length := by omega
  rw [tailFlo, hi, Bool.false_or, if_pos hs, decide_eq_false h1', Bool.false_and]
  exact decide_eq_false h1
theorem tail_no (hT : T.cps.toList = t) (hs : ([Str.ofString "+", Str.ofString "-"].any fun y => y == Txt.slice T none (some 1)) = true) (he : (T != Str.ofString "") = false) {P : Prop} : P := by
  rw [sign_is, decide_eq_true_eq] at hs
  rw [nonempty_is] at he
  cases hx : T.cps.toList with
  | nil => rw [hx] at hs; simp at hs
  | cons a r => rw [hx] at he; simp at he
theorem tail_plain {j : Int} (hi : decide (t.map lowC = [43, 105, 110, 102] ∨ t.map lowC = [43, 110, 97, 110]) = false) (hT : T.cps.toList = t) (hs : ([Str.ofString "+", Str.ofString "-"].any fun y => y == Txt.slice T none (some 1)) = false)
    (h1 : 0 < (T.length : Int)) (hj : j = 0 + ↑(figs (List.drop (Int.toNat 0) T.cps.toList))) : (j == (T.length : Int)) = tailFlo t := by
  rw [sign_is, hT, decide_eq_false_iff_not] at hs
  rw [str_len, hT] at h1 ⊢
  rw [hT] at hj
  have h1' : 0 < t.length := by omega
  rw [tailFlo, hi, Bool.false_or, if_neg hs, decide_eq_true h1', Bool.true_and, hj]
  show decide ((0 : Int) + ↑(figs (t.drop 0)) = (t.length : Int)) = _
  rw [List.drop_zero]
  apply decide_eq_decide.mpr; omega
theorem tail_empty (hi : decide (t.map lowC = [43, 105, 110, 102] ∨ t.map lowC = [43, 110, 97, 110]) = false) (hT : T.cps.toList = t) (hs : ([Str.ofString "+", Str.ofString "-"].any fun y => y == Txt.slice T none (some 1)) = false)
    (h1 : ¬ 0 < (T.length : Int)) : decide (0 < (T.length : Int)) = tailFlo t := by
  rw [sign_is, hT, decide_eq_false_iff_not] at hs
  rw [str_len, hT] at h1 ⊢
  have h1' : ¬ 0 < t.length := by omega
  rw [tailFlo, hi, Bool.false_or, if_neg hs, decide_eq_false h1', Bool.false_and]
  exact decide_eq_false h1
end
/-- behind the figures: at la the mark of an exponent, or the end -/
noncomputable def lawEnd (l : List Nat) (pt : Bool) (la : Nat) : Bool := if la = l.length then pt else if lowC (l.getD la 0) = 101 then tailFlo (l.drop (la + 1)) else false
noncomputable def lawFlo (l : List Nat) : Bool :=
  if (l.drop (figs l)).head? = some 46 then
    (if figs l + figs (l.drop (figs l + 1)) = 0 ∨ figs (l.drop (figs l + 1)) = 0 then false else lawEnd l true (figs l + 1 + figs (l.drop (figs l + 1))))
  else if figs l = 0 then false else lawEnd l false (figs l)
theorem lawEnd_not {x : Str} {pt : Bool} {j : Int} (h : 0 ≤ j) (hl : j ≤ x.length) (hn : j ≠ x.length) (ha : ∀ c ∈ x.cps.toList, c < 128) (he : (Txt.lower (Txt.item x j) != Str.ofString "e") = true) : lawEnd x.cps.toList pt j.toNat = false := by
  rw [at_e h (by omega) ha, Bool.not_eq_true', decide_eq_false_iff_not] at he
  rw [str_len] at hn hl
  rw [lawEnd, if_neg (by omega), if_neg he]
theorem lawEnd_tail {x : Str} {pt : Bool} {j : Int} (h : 0 ≤ j) (hl : j ≤ x.length) (hn : j ≠ x.length) (ha : ∀ c ∈ x.cps.toList, c < 128) (he : (Txt.lower (Txt.item x j) != Str.ofString "e") = false) : lawEnd x.cps.toList pt j.toNat = tailFlo (x.cps.toList.drop (j + 1).toNat) := by
  rw [at_e h (by omega) ha, Bool.not_eq_false', decide_eq_true_eq] at he
  rw [str_len] at hn hl
  rw [lawEnd, if_neg (by omega), if_pos he]
  congr 2; omega
theorem lawFlo_dot {l : List Nat} {i j : Int} (hi : i = 0 + ↑(figs (List.drop (Int.toNat 0) l))) (hd : decide ((l.drop i.toNat).head? = some 46) = true) (hj : j = i + 1 + ↑(figs (l.drop (i + 1).toNat))) :
    lawFlo l = if (i + if j - i - 1 > 0 then j - i - 1 else 0) = 0 ∨ j ≤ i + 1 then false else lawEnd l true j.toNat := by
  have hi' : i.toNat = figs l := by rw [hi]; show (0 + ((figs (l.drop 0) : Nat) : Int)).toNat = _; rw [List.drop_zero]; omega
  have hi0 : 0 ≤ i := by rw [hi]; omega
  have hi1 : (i + 1).toNat = figs l + 1 := by omega
  rw [hi', decide_eq_true_eq] at hd
  rw [hi1] at hj
  rw [lawFlo, if_pos hd]
  have hj' : j.toNat = figs l + 1 + figs (l.drop (figs l + 1)) := by omega
  rw [hj']
  by_cases h : figs (l.drop (figs l + 1)) = 0
  · rw [if_pos (.inr h), if_pos (.inr (by omega))]
  · rw [if_neg (by omega), if_neg (by split <;> omega)]
theorem lawFlo_no {l : List Nat} {i : Int} (hi : i = 0 + ↑(figs (List.drop (Int.toNat 0) l))) (hd : decide ((l.drop i.toNat).head? = some 46) = false) :
    lawFlo l = if (i + if i - i - 1 > 0 then i - i - 1 else 0) = 0 then false else lawEnd l false i.toNat := by
  have hi' : i.toNat = figs l := by rw [hi]; show (0 + ((figs (l.drop 0) : Nat) : Int)).toNat = _; rw [List.drop_zero]; omega
  have hi0 : 0 ≤ i := by rw [hi]; omega
  rw [hi', decide_eq_false_iff_not] at hd
  rw [lawFlo, if_neg hd, hi']
  by_cases h : figs l = 0
  · rw [if_pos h, if_pos (by omega)]
  · rw [if_neg h, if_neg (by omega)]

local macro_rules | `(tactic| walk_at "call ref") => `(tactic| (k_here; k_dflt (refine' law_run_go ?k1 ?_; (case k1 => first | keq_rows | (have hz9 := at_dot_lt (by with_reducible assumption) (by with_reducible assumption); keq_rows)); rotate_right 1; intros)))

noncomputable def bodyOf : Option Obj → List Stmt
  | some ⟨_, _, .func f, _⟩ => (match f.body with | .stmts b => b | _ => [])
  | _ => []
noncomputable def scopeOf : Option Obj → Scope
  | some ⟨_, _, .func f, _⟩ => f.scope
  | _ => default
noncomputable def drop4 : List Stmt → List Stmt
  | _ :: _ :: _ :: _ :: r => r
  | _ => []
/-- the second half of the law's own reading of a float -/
local macro_rules | `(tactic| walk_at "pad 1") => `(tactic| skip)
theorem lif_tail (w : World) (p : Program) (loose : List Str) (mean : ExcName → Option Value) (mg mb : Str → Option Value) (body : List Stmt) (sc : Scope)
    (hb : drop4 (bodyOf ((Mine.ka.heap_1 w.params).lookup 338)) = body) (hs : scopeOf ((Mine.ka.heap_1 w.params).lookup 338) = sc) (news : List (Addr × Obj)) (x : Str) (t tj : Tok) (j : Int) (pt : Bool) (hx : x.length ≤ 30) (ha : ∀ c ∈ x.cps.toList, c < 128) (hj0 : 0 ≤ j) (hj : j ≤ x.length) :
    ∀ (dp un : Nat) (gd : Option (List Code)) (a : Addr) (ccd : Value) (cl : List (Str × Addr)) (outer : List Env) (A₀ : Around) (base h₀ : Heap) (L : Addr) (m : Str → Option Value) (s : Shared) (Q : Flow → Shared → Prop) (E : Value → Shared → Prop),
    Below A₀ base outer h₀ → Fr h₀ L s.heap m → Has m [(Str.ofString "body", .str x t), (Str.ofString "last", .int j tj), (Str.ofString "is_pointed", .bool pt)] → (Mine.ka.heap_1 w.params).In h₀ → News h₀ L s.heap news → Top p loose mean mg mb h₀ →
    dp + 1 < 900 → un + 8 * 1 < 9000 →
    (∀ (v : Value) (h' : Heap) (tk' : Nat) (m' : Str → Option Value) (n' : List (Addr × Obj)), Fr h₀ L h' m' → News h₀ L h' n' → v = .bool (lawEnd x.cps.toList pt j.toNat) → (∀ p ∈ news, p ∈ n') → Q (.ret v) { s with heap := h', toks := tk' }) →
    wpAny (model PySem.Challenge.rw_ok0058_01.row.prog w) (ktrTop dp un gd (Str.ofString "_law_is_float") sc L a ccd cl outer) (execs body (envOf (Str.ofString "_law_is_float") sc L a ccd)) Q E s := by
  conv at hb => lhs; whnf
  conv at hs => lhs; whnf
  subst hb hs
  k_fill
  intro dp un gd a ccd cl outer A₀ base h₀ L m s Q E B F hm X N T hd hu hret
  have hret' : ∀ {v : Value} {h' : Heap} {tk' : Nat} {m' : Str → Option Value} {n' : List (Addr × Obj)}, Fr h₀ L h' m' → News h₀ L h' n' → v = .bool (lawEnd x.cps.toList pt j.toNat) → (∀ p ∈ news, p ∈ n') → Q (.ret v) { s with heap := h', toks := tk' } := fun a b c d => hret _ _ _ _ _ a b c d
  rw [hm.see] at F
  clear hm hret
  tb_start
  · with_reducible rename Fr h₀ _ _ _ => kF
    with_reducible rename News h₀ _ _ _ => kN
    refine hret' kF kN (congrArg Value.bool ?_) (fun p hp => by simp [hp])
    with_reducible rename (_ = ((Str.length x : Nat) : Int)) => hend
    rw [lawEnd, if_pos (by rw [str_len] at hend; omega)]
  · with_reducible rename Fr h₀ _ _ _ => kF
    with_reducible rename News h₀ _ _ _ => kN
    refine hret' kF kN (congrArg Value.bool ?_) (fun p hp => by simp [hp])
    with_reducible rename (_ ≠ ((Str.length x : Nat) : Int)) => hend
    with_reducible rename ((Txt.lower (Txt.item _ _) != _) = true) => he
    rw [lawEnd_not (by omega) (by omega) hend ha he]
  · with_reducible rename Fr h₀ _ _ _ => kF
    with_reducible rename News h₀ _ _ _ => kN
    refine hret' kF kN (congrArg Value.bool ?_) (fun p hp => by simp [hp])
    with_reducible rename (_ ≠ ((Str.length x : Nat) : Int)) => hend
    with_reducible rename ((Txt.lower (Txt.item _ _) != _) = false) => he
    with_reducible rename (List.any [Str.ofString "+inf", Str.ofString "+nan"] _ = true) => hinf
    rw [at_inf (by omega) ha] at hinf
    rw [lawEnd_tail (by omega) (by omega) hend ha he]
    exact tail_inf hinf
  · with_reducible rename Fr h₀ _ _ _ => kF
    with_reducible rename News h₀ _ _ _ => kN
    refine hret' kF kN (congrArg Value.bool ?_) (fun p hp => by simp [hp])
    with_reducible rename (_ = _ + ((figs _ : Nat) : Int)) => qk
    with_reducible rename (_ ≠ ((Str.length x : Nat) : Int)) => hend
    with_reducible rename ((Txt.lower (Txt.item _ _) != _) = false) => he
    with_reducible rename (List.any [Str.ofString "+inf", Str.ofString "+nan"] _ = false) => hinf
    rw [at_inf (by omega) ha] at hinf
    with_reducible rename (List.any [Str.ofString "+", Str.ofString "-"] _ = true) => hs
    rw [lawEnd_tail (by omega) (by omega) hend ha he]
    exact tail_sign hinf (slice_from (by omega)) hs (by omega) qk
  · with_reducible rename Fr h₀ _ _ _ => kF
    with_reducible rename News h₀ _ _ _ => kN
    refine hret' kF kN (congrArg Value.bool ?_) (fun p hp => by simp [hp])
    with_reducible rename (_ ≠ ((Str.length x : Nat) : Int)) => hend
    with_reducible rename ((Txt.lower (Txt.item _ _) != _) = false) => he
    with_reducible rename (List.any [Str.ofString "+inf", Str.ofString "+nan"] _ = false) => hinf
    rw [at_inf (by omega) ha] at hinf
    with_reducible rename (List.any [Str.ofString "+", Str.ofString "-"] _ = true) => hs
    rw [lawEnd_tail (by omega) (by omega) hend ha he]
    exact tail_short hinf (slice_from (by omega)) hs (by omega)
  · with_reducible rename (List.any [Str.ofString "+", Str.ofString "-"] _ = true) => hs
    with_reducible rename ((_ != Str.ofString "") = false) => hne
    exact tail_no rfl hs hne
  · with_reducible rename (List.any [Str.ofString "+", Str.ofString "-"] _ = true) => hs
    with_reducible rename ((_ != Str.ofString "") = false) => hne
    exact tail_no rfl hs hne
  · with_reducible rename Fr h₀ _ _ _ => kF
    with_reducible rename News h₀ _ _ _ => kN
    refine hret' kF kN (congrArg Value.bool ?_) (fun p hp => by simp [hp])
    with_reducible rename (_ = _ + ((figs _ : Nat) : Int)) => qk
    with_reducible rename (_ ≠ ((Str.length x : Nat) : Int)) => hend
    with_reducible rename ((Txt.lower (Txt.item _ _) != _) = false) => he
    with_reducible rename (List.any [Str.ofString "+inf", Str.ofString "+nan"] _ = false) => hinf
    rw [at_inf (by omega) ha] at hinf
    with_reducible rename (List.any [Str.ofString "+", Str.ofString "-"] _ = false) => hs
    rw [lawEnd_tail (by omega) (by omega) hend ha he]
    exact tail_plain hinf (slice_from (by omega)) hs (by omega) qk
  · with_reducible rename Fr h₀ _ _ _ => kF
    with_reducible rename News h₀ _ _ _ => kN
    refine hret' kF kN (congrArg Value.bool ?_) (fun p hp => by simp [hp])
    with_reducible rename (_ ≠ ((Str.length x : Nat) : Int)) => hend
    with_reducible rename ((Txt.lower (Txt.item _ _) != _) = false) => he
    with_reducible rename (List.any [Str.ofString "+inf", Str.ofString "+nan"] _ = false) => hinf
    rw [at_inf (by omega) ha] at hinf
    with_reducible rename (List.any [Str.ofString "+", Str.ofString "-"] _ = false) => hs
    rw [lawEnd_tail (by omega) (by omega) hend ha he]
    exact tail_empty hinf (slice_from (by omega)) hs (by omega)
local macro_rules | `(tactic| walk_at "execs cons If") => `(tactic| refine hold ?_)
theorem law_is_float_con (w : World) (p : Program) (loose : List Str) (mean : ExcName → Option Value) (mg mb : Str → Option Value) (news : List (Addr × Obj)) (x : Str) (t : Tok) (hx : x.length ≤ 30) (ha : ∀ c ∈ x.cps.toList, c < 128) :
   Con w p loose mean mg mb 338 [.str x t] news 2 (fun v news' => v = .bool (lawFlo x.cps.toList) ∧ ∀ p ∈ news, p ∈ news') := by
  unfold Con
  k_fill
  intro dp un gd cn cs a ccd cl outer A₀ base h₀ L m s Q E B F X N T hk hd hu hret
  have hd' : dp < recursionLimit := dep_lim (by assumption)
  refine wpAny_call ?_
  k_dflt ktr_enter
  rename_i g' L' h' FG' F' N' B' X' T'
  replace F' : Fr g' L' h' (fun y => List.lookup y [(Str.ofString "body", .str x t)]) := F'
  generalize s.toks + List.length _ = tk0
  tb_start
  all_goals
    unfold Hold
    refine wpAny_execs_cons ?_
    tb_start
  · with_reducible rename Fr h₀ _ _ _ => kF
    with_reducible rename News h₀ _ _ _ => kN
    refine hret _ _ _ _ kF kN ⟨congrArg Value.bool ?_, fun p hp => by simp [hp]⟩
    with_reducible rename ((Txt.slice x (some _) (some _) == _) = true) => hd0
    rw [at_dot (by omega)] at hd0
    with_reducible rename (_ = _ + ((figs _ : Nat) : Int)) => qj
    revert qj
    with_reducible rename (_ = _ + ((figs _ : Nat) : Int)) => qi
    revert qi
    intro qi qj
    with_reducible rename ((_ + ite _ _ _) = 0) => hm
    rw [lawFlo_dot qi hd0 qj, if_pos (.inl hm)]
  · with_reducible rename Fr h₀ _ _ _ => kF
    with_reducible rename News h₀ _ _ _ => kN
    refine hret _ _ _ _ kF kN ⟨congrArg Value.bool ?_, fun p hp => by simp [hp]⟩
    with_reducible rename ((Txt.slice x (some _) (some _) == _) = true) => hd0
    rw [at_dot (by omega)] at hd0
    with_reducible rename (_ = _ + ((figs _ : Nat) : Int)) => qj
    revert qj
    with_reducible rename (_ = _ + ((figs _ : Nat) : Int)) => qi
    revert qi
    intro qi qj
    with_reducible rename (_ ≤ _ + 1) => hle
    rw [lawFlo_dot qi hd0 qj, if_pos (.inr hle)]
  · unfold Hold
    with_reducible rename Fr g' _ _ _ => F1
    with_reducible rename News g' _ _ _ => N1
    with_reducible rename ((Txt.slice x (some _) (some _) == _) = true) => hd0
    rw [at_dot (by omega)] at hd0
    with_reducible rename (_ = _ + ((figs _ : Nat) : Int)) => qj
    revert qj
    with_reducible rename (_ = _ + ((figs _ : Nat) : Int)) => qi
    revert qi
    intro qi qj
    with_reducible rename ((_ + ite _ _ _) ≠ 0) => hm
    with_reducible rename (¬ _ ≤ _ + 1) => hle
    refine lif_tail w p loose mean mg mb _ _ (by kernel_rfl) (by kernel_rfl) _ x t _ _ _ hx ha ?_ ?_ _ _ _ _ _ _ _ _ _ _ _ _ _ _ _ B' F1 (.cons rfl (.cons rfl (.cons rfl .nil))) X' N1 T' ?_ ?_ ?_
    · omega
    · omega
    · first | exact dep_ok hd (by rfl) | (dsimp only [ktrTop]; omega)
    · first | exact uni_ok hu (by rfl) | (dsimp only [ktrTop]; omega)
    intro v8 h8 tk8 m8 n8 F8 N8 e8 s8
    subst e8
    tb_start
    with_reducible rename Fr h₀ _ _ _ => kF
    with_reducible rename News h₀ _ _ _ => kN
    refine hret _ _ _ _ kF kN ⟨congrArg Value.bool ?_, fun p hp => s8 p (by simp [hp])⟩
    rw [lawFlo_dot qi hd0 qj, if_neg (fun q => q.elim hm hle)]
    congr 1
    exact decide_eq_true (by omega)
  · with_reducible rename Fr h₀ _ _ _ => kF
    with_reducible rename News h₀ _ _ _ => kN
    refine hret _ _ _ _ kF kN ⟨congrArg Value.bool ?_, fun p hp => by simp [hp]⟩
    with_reducible rename ((Txt.slice x (some _) (some _) == _) = false) => hd0
    rw [at_dot (by omega)] at hd0
    with_reducible rename (_ = _ + ((figs _ : Nat) : Int)) => qi
    revert qi
    intro qi
    with_reducible rename ((_ + ite _ _ _) = 0) => hm
    rw [lawFlo_no qi hd0, if_pos hm]
  · unfold Hold
    with_reducible rename Fr g' _ _ _ => F1
    with_reducible rename News g' _ _ _ => N1
    with_reducible rename ((Txt.slice x (some _) (some _) == _) = false) => hd0
    have hd9 := hd0
    rw [at_dot (by omega)] at hd0
    with_reducible rename (_ = _ + ((figs _ : Nat) : Int)) => qi
    revert qi
    intro qi
    with_reducible rename ((_ + ite _ _ _) ≠ 0) => hm
    refine lif_tail w p loose mean mg mb _ _ (by kernel_rfl) (by kernel_rfl) _ x t _ _ _ hx ha ?_ ?_ _ _ _ _ _ _ _ _ _ _ _ _ _ _ _ B' F1 (.cons rfl (.cons rfl (.cons rfl .nil))) X' N1 T' ?_ ?_ ?_
    · omega
    · omega
    · first | exact dep_ok hd (by rfl) | (dsimp only [ktrTop]; omega)
    · first | exact uni_ok hu (by rfl) | (dsimp only [ktrTop]; omega)
    intro v8 h8 tk8 m8 n8 F8 N8 e8 s8
    subst e8
    tb_start
    with_reducible rename Fr h₀ _ _ _ => kF
    with_reducible rename News h₀ _ _ _ => kN
    refine hret _ _ _ _ kF kN ⟨congrArg Value.bool ?_, fun p hp => s8 p (by simp [hp])⟩
    rw [lawFlo_no qi hd0, if_neg hm, hd9]
theorem law_is_float_go {dp un : Nat} {gd : Option (List Code)} {cn : Str} {cs : Scope} {a : Addr} {ccd : Value} {cl : List (Str × Addr)} {outer : List Env} {A₀ : Around} {base h₀ : Heap} {L : Addr} {m : Str → Option Value} {s : Shared} {Q E : Value → Shared → Prop} {w : World} {p : Program} {loose : List Str} {mean : ExcName → Option Value} {mg : Str → Option Value} {mb : Str → Option Value} {news : List (Addr × Obj)} {x : Str} {t : Tok} (P : (Below A₀ base outer h₀) ∧ (Fr h₀ L s.heap m) ∧ ((Mine.ka.heap_1 w.params).In h₀) ∧ (News h₀ L s.heap (news)) ∧ (Top p loose mean mg mb h₀) ∧ (cs.kind = .function) ∧ (dp + 2 < 900) ∧ (un + 8 * 2 < 9000) ∧ (x.length ≤ 30) ∧ (∀ c ∈ x.cps.toList, c < 128) ∧ True)  (h : ∀ (h' : Heap) (tk' : Nat), Fr h₀ L h' m → ∀ (n : List (Addr × Obj)), (∀ p ∈ news, p ∈ n) → News h₀ L h' (n) → Q (.bool (lawFlo x.cps.toList)) { s with heap := h', toks := tk' }) :
    wpAny (model PySem.Challenge.rw_ok0058_01.row.prog w) (ktrTop dp un gd cn cs L a ccd cl outer) (call (.ref 338) [.str x t]) Q E s :=
  by
  exact con_use (law_is_float_con w p loose mean mg mb news x t P.2.2.2.2.2.2.2.2.1 P.2.2.2.2.2.2.2.2.2.1) P.1 P.2.1 P.2.2.1 P.2.2.2.1 P.2.2.2.2.1 P.2.2.2.2.2.1 P.2.2.2.2.2.2.1 P.2.2.2.2.2.2.2.1 (fun v h' tk' n' F' N' r => by obtain ⟨e, q⟩ := r; subst e; exact h _ _ F' _ q N')
end Mine
local macro_rules | `(tactic| walk_at "exec For Name Name cons nil") => `(tactic| (k_here; (with_reducible rename Fr _ _ _ _ => lF'); (with_unfolding_all refine' For_invVF lF' ?k1 ?k2 ?_; (case k1 => exact rfl); (case k2 => exact rfl); k_whole)))
local macro_rules | `(tactic| walk_at "exec For Name Call cons nil") => `(tactic| (k_here; (with_reducible rename Fr _ _ _ _ => lF'); (with_unfolding_all refine' For_invVF lF' ?k1 ?k2 ?_; (case k1 => exact rfl); (case k2 => exact rfl); k_whole)))
namespace Mine
set_option maxRecDepth 100000
set_option maxHeartbeats 0
local macro_rules | `(tactic| walk_at "InvEndN") => `(tactic| refine hold ?_)
local macro_rules | `(tactic| walk_at "pyIter str") => `(tactic| refine hold ?_)
local macro_rules | `(tactic| walk_at "eval IfExp") => `(tactic| refine hold ?_)

inductive DV where
  | none
  | int (i : Int)
  | str (s : Str)
noncomputable def IsDV (v : Value) : DV → Prop
  | .none => v = .none
  | .int i => ∃ t, v = .int i t
  | .str s => ∃ t, v = .str s t
noncomputable abbrev tupObj (vs : List Value) : Obj := { cls := .type "tuple", data := .seq vs.toArray }
/-- a pair of a word and a worth, or None -/
noncomputable def DueAt (v : Value) (news : List (Addr × Obj)) : Option (Str × DV) → Prop
  | none => v = .none
  | some (k, d) => ∃ a t v', v = .ref a ∧ (a, tupObj [.str k t, v']) ∈ news ∧ IsDV v' d
noncomputable def decV (l : List Nat) (a : Int) : Int := l.foldl (fun (a : Int) (c : Nat) => 10 * a + ((c : Int) - 48)) a
noncomputable def figPart (l : List Nat) : List Nat := if l.getLast? = some 46 then l.dropLast else l
noncomputable def lawDue (x : Str) (q : Bool) : Option (Str × DV) :=
  let l := x.cps.toList
  if q = true then some (Str.ofString "symbol", .str x)
  else if l = [46] then some (Str.ofString ".", .none)
  else if figPart (unsign l) ≠ [] ∧ figs (figPart (unsign l)) = (figPart (unsign l)).length then
    some (Str.ofString "integer", .int (if l.head? = some 45 then 0 - decV (figPart (unsign l)) 0 else decV (figPart (unsign l)) 0))
  else if lawFlo (unsign l) = true then none else some (Str.ofString "symbol", .str x)
theorem signs_in (c : Nat) : (Builtin.Str.occurrences (Str.ofString "+-") ⟨#[c]⟩ 0 (Str.ofString "+-").length 1).isEmpty = !decide (c = 43 ∨ c = 45) := by
  have := StrLaws.found_one (Str.ofString "+-") c
  rw [show (Str.ofString "+-").cps.toList = [43, 45] by decide +kernel] at this
  rw [show decide (c ∈ [43, 45]) = decide (c = 43 ∨ c = 45) by apply decide_eq_decide.mpr; simp] at this
  rw [← this]; simp
theorem first_is {x : Str} (h0 : 1 ≤ x.length) : ∃ a r, x.cps.toList = a :: r ∧ Txt.item x 0 = ⟨#[a]⟩ := by
  rw [item_at (x := x) (Int.le_refl 0) (by omega)]
  cases hx : x.cps.toList with
  | nil => rw [str_len, hx] at h0; simp at h0
  | cons a r => exact ⟨a, r, rfl, rfl⟩
theorem unsign_yes {x : Str} (h0 : 1 ≤ x.length) (h : (Builtin.Str.occurrences (Str.ofString "+-") (Txt.item x 0) 0 (Str.ofString "+-").length 1).isEmpty = false) : (Txt.slice x (some 1) none).cps.toList = unsign x.cps.toList := by
  obtain ⟨a, r, hx, hi⟩ := first_is h0
  rw [hi, signs_in, Bool.not_eq_false', decide_eq_true_eq] at h
  rw [slice_from (by decide), hx, unsign, if_pos h]; rfl
theorem unsign_no {x : Str} (h0 : 1 ≤ x.length) (h : (Builtin.Str.occurrences (Str.ofString "+-") (Txt.item x 0) 0 (Str.ofString "+-").length 1).isEmpty = true) : x.cps.toList = unsign x.cps.toList := by
  obtain ⟨a, r, hx, hi⟩ := first_is h0
  rw [hi, signs_in, Bool.not_eq_true', decide_eq_false_iff_not] at h
  rw [hx, unsign, if_neg h]
theorem head_is {x : Str} (h0 : 1 ≤ x.length) : (Txt.item x 0 == Str.ofString "-") = decide (x.cps.toList.head? = some 45) := by
  obtain ⟨a, r, hx, hi⟩ := first_is h0
  rw [hi, hx, minus_is, str_beq]
  show decide ([a] = [45]) = _
  simp
theorem find_fig : ∀ c : Nat, c < 128 → 48 ≤ c → c ≤ 57 → Txt.find (Str.ofString "0123456789") ⟨#[c]⟩ = (c : Int) - 48 := by decide +kernel
theorem figs_all : ∀ {l : List Nat}, figs l = l.length → ∀ c ∈ l, 48 ≤ c ∧ c ≤ 57
  | [], _, c, h => nomatch h
  | a :: r, h, c, hc => by
    by_cases ha : 48 ≤ a ∧ a ≤ 57
    · rw [figs_yes ha] at h
      rcases List.mem_cons.mp hc with rfl | hc
      · exact ha
      · exact figs_all (by simpa using h) c hc
    · rw [figs_no ha] at h; simp at h
theorem figPart_len (l : List Nat) : (figPart l).length ≤ l.length := by unfold figPart; split <;> simp
local macro_rules | `(tactic| walk_at "call ref") => `(tactic| (k_here; k_dflt (refine' law_run_go ?k1 ?_; (case k1 => keq_rows); rotate_right 1; intros)))
local macro_rules | `(tactic| walk_at "call ref") => `(tactic| (k_here; k_dflt (refine' law_is_float_go ?k1 ?_; (case k1 => keq_rows); rotate_right 1; intros)))

theorem law_due_con (w : World) (p : Program) (loose : List Str) (mean : ExcName → Option Value) (mg mb : Str → Option Value) (news : List (Addr × Obj)) (y x : Str) (q : Bool) (t u : Tok) (hx : x.length ≤ 30) (hx0 : 1 ≤ x.length) (ha : ∀ c ∈ x.cps.toList, c < 128) :
   Con w p loose mean mg mb 345 [.str y t, .str x u, .bool q] news 3 (fun v news' => DueAt v news' (lawDue x q) ∧ ∀ p ∈ news, p ∈ news') := by
  unfold Con
  k_fill
  intro dp un gd cn cs a ccd cl outer A₀ base h₀ L m s Q E B F X N T hk hd hu hret
  have hd' : dp < recursionLimit := dep_lim (by assumption)
  refine wpAny_call ?_
  k_dflt ktr_enter
  rename_i g' L' h' FG' F' N' B' X' T'
  replace F' : Fr g' L' h' (fun z => List.lookup z [(Str.ofString "is_quoted_here", .bool q), (Str.ofString "name", .str x u), (Str.ofString "written_here", .str y t)]) := F'
  generalize s.toks + List.length _ = tk0
  tb_start
  · with_reducible rename Fr h₀ _ _ _ => kF
    with_reducible rename News h₀ _ _ _ => kN
    with_reducible rename (q = true) => hq
    refine hret _ _ _ _ kF kN ⟨?_, fun p hp => by simp [hp]⟩
    rw [lawDue, if_pos hq]
    exact ⟨_, _, _, rfl, List.mem_cons_self .., _, rfl⟩
  · with_reducible rename Fr h₀ _ _ _ => kF
    with_reducible rename News h₀ _ _ _ => kN
    with_reducible rename (_ == Str.ofString ".") = true => he
    with_reducible rename (q = false) => hq
    refine hret _ _ _ _ kF kN ⟨?_, fun p hp => by simp [hp]⟩
    rw [dot_is, str_beq, decide_eq_true_eq] at he
    rw [lawDue, if_neg (by simp [hq]), if_pos he]
    exact ⟨_, _, _, rfl, List.mem_cons_self .., rfl⟩
  · unfold Hold
    with_reducible rename (_ == Str.ofString ".") = false => he
    with_reducible rename (q = false) => hq
    rw [dot_is, str_beq, decide_eq_false_iff_not] at he
    with_reducible rename Fr g' _ _ _ => F1
    with_reducible rename News g' _ _ _ => N1
    refine text_cut (fun b => b.cps.toList = unsign x.cps.toList) (m := fun z => List.lookup z [(Str.ofString "is_quoted_here", .bool q), (Str.ofString "name", .str x u), (Str.ofString "written_here", .str y t)]) (news := news) (h₀ := g') (L := L') ?_ ?_
    · refine IfExp_ ?_
      tb_start
      · exact ⟨_, _, _, _, rfl, rfl, by assumption, by assumption, unsign_no hx0 (by with_reducible assumption)⟩
      · exact ⟨_, _, _, _, rfl, rfl, by assumption, by assumption, unsign_yes hx0 (by with_reducible assumption)⟩
    clear F1 N1
    intro b tb hb tkb Fb Nb hbu
    have hbl : b.length ≤ 30 := by rw [str_len, hbu]; have := unsign_len x.cps.toList; rw [str_len] at hx; omega
    have hba : ∀ c ∈ b.cps.toList, c < 128 := by rw [hbu]; exact fun c hc => ha c (unsign_sub hc)
    tb_start
    unfold Hold
    with_reducible rename Fr g' _ _ _ => F1
    with_reducible rename News g' _ _ _ => N1
    refine text_cut (fun f => f.cps.toList = figPart (unsign x.cps.toList)) (m := fun z => if z = Str.ofString "body" then some (.str b tb) else List.lookup z [(Str.ofString "is_quoted_here", .bool q), (Str.ofString "name", .str x u), (Str.ofString "written_here", .str y t)]) (news := news) (h₀ := g') (L := L') ?_ ?_
    · refine IfExp_ ?_
      tb_start
      · refine ⟨_, _, _, _, rfl, rfl, by assumption, by assumption, ?_⟩
        with_reducible rename (_ == Str.ofString ".") = true => h2
        rw [dot_is, last_is, hbu, decide_eq_true_eq] at h2
        show (Txt.slice b none (some (-1))).cps.toList = _
        rw [slice_but_last, hbu, figPart, if_pos h2]
      · refine ⟨_, _, _, _, rfl, rfl, by assumption, by assumption, ?_⟩
        with_reducible rename (_ == Str.ofString ".") = false => h2
        rw [dot_is, last_is, hbu, decide_eq_false_iff_not] at h2
        show b.cps.toList = _
        rw [hbu, figPart, if_neg h2]
    clear F1 N1
    intro f tf hf tkf Ff Nf hfu
    have hfl : f.length ≤ 30 := by
      rw [str_len, hfu]; have := figPart_len (unsign x.cps.toList); have := unsign_len x.cps.toList; rw [str_len] at hx; omega
    tb_start
    · unfold Hold
      with_reducible rename (_ != Str.ofString "") = true => hne
      with_reducible rename (_ = _ + ((figs _ : Nat) : Int)) => qj
      with_reducible rename (_ = ((Str.length f : Nat) : Int)) => hend
      with_reducible rename Fr g' _ _ _ => F1
      with_reducible rename News g' _ _ _ => N1
      rw [nonempty_is, hfu] at hne
      rw [str_len, hfu] at hend
      rw [hfu] at qj
      have hfg : figPart (unsign x.cps.toList) ≠ [] ∧ figs (figPart (unsign x.cps.toList)) = (figPart (unsign x.cps.toList)).length := by
        refine ⟨fun z => by rw [z] at hne; simp at hne, ?_⟩
        have e : figs (List.drop (Int.toNat 0) (figPart (unsign x.cps.toList))) = figs (figPart (unsign x.cps.toList)) := rfl
        omega
      refine text_inv (fun i m1 news1 => (∀ p ∈ news, p ∈ news1) ∧ ∃ k tk, Has m1 [(Str.ofString "name", .str x u), (Str.ofString "worth", .int k tk)] ∧ decV ((figPart (unsign x.cps.toList)).drop i) k = decV (figPart (unsign x.cps.toList)) 0) rfl F1 N1 ?_ ?_ ?_
      · exact ⟨fun p hp => hp, 0, _, .cons rfl (.cons rfl .nil), by rw [List.drop_zero]⟩
      · rintro i c m1 news1 h1 tk1 own t1 hi hadr hoff ⟨hs, k, tk, hm, hk⟩ F2 N2
        rw [hm.see] at F2
        rw [hfu] at hi
        obtain ⟨hil, hic⟩ := List.getElem?_eq_some_iff.mp hi
        have hc := figs_all hfg.2 c (List.mem_of_getElem? hi)
        have hfd := find_fig c (by omega) hc.1 hc.2
        rw [List.drop_eq_getElem_cons hil, hic] at hk
        tb_start
        · with_reducible rename (Txt.find _ _ = -1) => hx'
          exfalso; omega
        · unfold Hold
          with_reducible rename Fr g' _ _ _ => F3
          with_reducible rename News g' _ _ _ => N3
          rw [hfd] at F3
          exact InvEndN.intro F3 N3 ⟨hs, 10 * k + ((c : Int) - 48), _, .cons rfl (.cons rfl .nil), hk⟩ hadr (fun p hp => List.mem_append_left _ hp) (fun p hp => List.mem_append_right _ hp)
      · rintro m1 news1 h1 tk1 ⟨hs, k, tk, hm, hk⟩ F2 N2
        rw [hm.see] at F2
        rw [List.drop_eq_nil_of_le (by rw [str_len, hfu]; exact Nat.le_refl _)] at hk
        have hk' : k = decV (figPart (unsign x.cps.toList)) 0 := hk
        tb_start
        unfold Hold
        refine IfExp_ ?_
        tb_start
        · with_reducible rename (Txt.item _ _ == _) = true => hmi
          with_reducible rename Fr h₀ _ _ _ => kF
          with_reducible rename News h₀ _ _ _ => kN
          rw [head_is hx0, decide_eq_true_eq] at hmi
          refine hret _ _ _ _ kF kN ⟨?_, fun p hp => List.mem_cons_of_mem _ (hs p hp)⟩
          rw [lawDue, if_neg (by simp [hq]), if_neg he, if_pos hfg, if_pos hmi, ← hk']
          exact ⟨_, _, _, rfl, List.mem_cons_self .., _, rfl⟩
        · with_reducible rename (Txt.item _ _ == _) = false => hmi
          with_reducible rename Fr h₀ _ _ _ => kF
          with_reducible rename News h₀ _ _ _ => kN
          rw [head_is hx0, decide_eq_false_iff_not] at hmi
          refine hret _ _ _ _ kF kN ⟨?_, fun p hp => List.mem_cons_of_mem _ (hs p hp)⟩
          rw [lawDue, if_neg (by simp [hq]), if_neg he, if_pos hfg, if_neg hmi, ← hk']
          exact ⟨_, _, _, rfl, List.mem_cons_self .., _, rfl⟩
    · unfold Hold
      refine IfExp_ ?_
      have hng : ¬ (figPart (unsign x.cps.toList) ≠ [] ∧ figs (figPart (unsign x.cps.toList)) = (figPart (unsign x.cps.toList)).length) := by
        with_reducible rename (_ = _ + ((figs _ : Nat) : Int)) => qj
        with_reducible rename (_ ≠ ((Str.length f : Nat) : Int)) => hend
        rw [str_len, hfu] at hend
        rw [hfu] at qj
        intro q
        have e : figs (List.drop (Int.toNat 0) (figPart (unsign x.cps.toList))) = figs (figPart (unsign x.cps.toList)) := rfl
        omega
      tb_start
      · with_reducible rename Fr h₀ _ _ _ => kF
        with_reducible rename News h₀ _ _ _ => kN
        with_reducible rename (∀ p ∈ _, p ∈ _) => hs
        with_reducible rename (lawFlo _ = true) => hfl'
        rw [hbu] at hfl'
        refine hret _ _ _ _ kF kN ⟨?_, fun p hp => hs p hp⟩
        rw [lawDue, if_neg (by simp [hq]), if_neg he, if_neg hng, if_pos hfl']
        rfl
      · with_reducible rename Fr h₀ _ _ _ => kF
        with_reducible rename News h₀ _ _ _ => kN
        with_reducible rename (∀ p ∈ _, p ∈ _) => hs
        with_reducible rename (lawFlo _ = false) => hfl'
        rw [hbu] at hfl'
        refine hret _ _ _ _ kF kN ⟨?_, fun p hp => List.mem_cons_of_mem _ (hs p hp)⟩
        rw [lawDue, if_neg (by simp [hq]), if_neg he, if_neg hng, if_neg (by simp [hfl'])]
        exact ⟨_, _, _, rfl, List.mem_cons_self .., _, rfl⟩
    · unfold Hold
      refine IfExp_ ?_
      have hng : ¬ (figPart (unsign x.cps.toList) ≠ [] ∧ figs (figPart (unsign x.cps.toList)) = (figPart (unsign x.cps.toList)).length) := by
        with_reducible rename (_ != Str.ofString "") = false => hne
        rw [nonempty_is, hfu] at hne
        intro q
        cases hz : figPart (unsign x.cps.toList) with
        | nil => exact q.1 hz
        | cons a r => rw [hz] at hne; simp at hne
      tb_start
      · with_reducible rename Fr h₀ _ _ _ => kF
        with_reducible rename News h₀ _ _ _ => kN
        with_reducible rename (∀ p ∈ _, p ∈ _) => hs
        with_reducible rename (lawFlo _ = true) => hfl'
        rw [hbu] at hfl'
        refine hret _ _ _ _ kF kN ⟨?_, fun p hp => hs p hp⟩
        rw [lawDue, if_neg (by simp [hq]), if_neg he, if_neg hng, if_pos hfl']
        rfl
      · with_reducible rename Fr h₀ _ _ _ => kF
        with_reducible rename News h₀ _ _ _ => kN
        with_reducible rename (∀ p ∈ _, p ∈ _) => hs
        with_reducible rename (lawFlo _ = false) => hfl'
        rw [hbu] at hfl'
        refine hret _ _ _ _ kF kN ⟨?_, fun p hp => List.mem_cons_of_mem _ (hs p hp)⟩
        rw [lawDue, if_neg (by simp [hq]), if_neg he, if_neg hng, if_neg (by simp [hfl'])]
        exact ⟨_, _, _, rfl, List.mem_cons_self .., _, rfl⟩
theorem law_due_go {dp un : Nat} {gd : Option (List Code)} {cn : Str} {cs : Scope} {a : Addr} {ccd : Value} {cl : List (Str × Addr)} {outer : List Env} {A₀ : Around} {base h₀ : Heap} {L : Addr} {m : Str → Option Value} {s : Shared} {Q E : Value → Shared → Prop} {w : World} {p : Program} {loose : List Str} {mean : ExcName → Option Value} {mg : Str → Option Value} {mb : Str → Option Value} {news : List (Addr × Obj)} {y : Str} {x : Str} {q : Bool} {t : Tok} {u : Tok} (P : (Below A₀ base outer h₀) ∧ (Fr h₀ L s.heap m) ∧ ((Mine.ka.heap_1 w.params).In h₀) ∧ (News h₀ L s.heap (news)) ∧ (Top p loose mean mg mb h₀) ∧ (cs.kind = .function) ∧ (dp + 3 < 900) ∧ (un + 8 * 3 < 9000) ∧ True) (hx : x.length ≤ 30) (hx0 : 1 ≤ x.length) (ha : ∀ c ∈ x.cps.toList, c < 128) (h : ∀ (h' : Heap) (tk' : Nat), Fr h₀ L h' m → ∀ (v : Value) (n : List (Addr × Obj)), (DueAt v n (lawDue x q)) → (∀ p ∈ news, p ∈ n) → News h₀ L h' (n) → Q (v) { s with heap := h', toks := tk' }) :
    wpAny (model PySem.Challenge.rw_ok0058_01.row.prog w) (ktrTop dp un gd cn cs L a ccd cl outer) (call (.ref 345) [.str y t, .str x u, .bool q]) Q E s :=
  by
  exact con_use (law_due_con w p loose mean mg mb news y x q t u hx hx0 ha) P.1 P.2.1 P.2.2.1 P.2.2.2.1 P.2.2.2.2.1 P.2.2.2.2.2.1 P.2.2.2.2.2.2.1 P.2.2.2.2.2.2.2.1 (fun v h' tk' n' F' N' r => by exact h _ _ F' _ _ r.1 r.2 N')
end Mine
namespace Mine
set_option maxRecDepth 100000
set_option maxHeartbeats 0
local macro_rules | `(tactic| walk_at "InvEndN") => `(tactic| refine hold ?_)

theorem idx_zero (l : List Value) (y : Value) : PySem.seqIndex? 0 (y :: l).toArray.size = some 0 := by
  unfold PySem.seqIndex?; simp
theorem pop_room {vs : List Value} {ns : List Int} {y : Value} (h : IntsAre vs ns) (hl : ns.length ≤ 100) : (y :: vs).toArray.toList.length ≤ sizeLine := by
  have := h.length
  simp only [List.length_cons, sizeLine_eq]; omega
local macro_rules | `(tactic| walk_at "call builtin:list.pop") => `(tactic| (k_here; k_dflt (refine' kl_popAt ?F ?N ?f ?k ?e ?U ?z ?_; (case F => k_asm); (case N => k_asm); (case U => exact Upd.tail (by k_ne) (Upd.head (by assumption))); (case f => rfl); (case k => exact idx_zero _ _); (case e => rfl); (case z => exact pop_room (by assumption) (by assumption))); intro h7 F7 N7))

theorem law_draw_con (w : World) (p : Program) (loose : List Str) (mean : ExcName → Option Value) (mg mb : Str → Option Value) (rest : List (Addr × Obj)) (d : Addr) (vs : List Value) (c : Nat) (ns : List Int) (k : Int) (u : Tok)
    (hI : IntsAre vs ns) (hl : ns.length ≤ 100) (hr : ∀ q ∈ rest, q.1 ≠ d) (hk2 : 2 ≤ k) (hk64 : k ≤ 64) :
   Con w p loose mean mg mb 317 [.ref d, .int k u] ((d, listOf vs.toArray c) :: rest) 1
     (fun v news' => ∃ r t vs' c' ns', v = .int r t ∧ 0 ≤ r ∧ r < k ∧ IntsAre vs' ns' ∧ ns'.length ≤ ns.length ∧ news' = (d, listOf vs'.toArray c') :: rest) := by
  unfold Con
  k_fill
  intro dp un gd cn cs a ccd cl outer A₀ base h₀ L m s Q E B F X N T hk hd hu hret
  have hd' : dp < recursionLimit := dep_lim (by assumption)
  refine wpAny_call ?_
  k_dflt ktr_enter
  rename_i g' L' h' FG' F' N' B' X' T'
  replace F' : Fr g' L' h' (fun z => List.lookup z [(Str.ofString "many", .int k u), (Str.ofString "deck", .ref d)]) := F'
  generalize s.toks + List.length _ = tk0
  cases hI with
  | nil =>
    tb_start
    with_reducible rename Fr h₀ _ _ _ => kF
    with_reducible rename News h₀ _ _ _ => kN
    exact hret _ _ _ _ kF (news_sub kN fun p hp => List.mem_cons_of_mem _ hp) ⟨0, _, [], c, [], rfl, Int.le_refl _, by omega, .nil, Nat.le_refl _, rfl⟩
  | cons n t hI' =>
    rename_i vs ns
    have hl' : ns.length ≤ 100 := by simp only [List.length_cons] at hl; omega
    tb_start
    · rename (decide _ = true) => hd
      simp at hd
    · with_reducible rename Fr h₀ _ _ _ => kF
      with_reducible rename News h₀ _ _ _ => kN
      have hf := fdiv_fmod_facts n k
      refine hret _ _ _ _ kF (news_sub kN fun p hp => List.mem_cons_of_mem _ hp) ⟨n.fmod k, _, vs, c + 1, ns, rfl, ?_, ?_, hI', Nat.le_succ _, rfl⟩
      · exact (hf.2.2.1 (by omega)).1
      · exact (hf.2.2.1 (by omega)).2
theorem law_draw_go {dp un : Nat} {gd : Option (List Code)} {cn : Str} {cs : Scope} {a : Addr} {ccd : Value} {cl : List (Str × Addr)} {outer : List Env} {A₀ : Around} {base h₀ : Heap} {L : Addr} {m : Str → Option Value} {s : Shared} {Q E : Value → Shared → Prop} {w : World} {p : Program} {loose : List Str} {mean : ExcName → Option Value} {mg : Str → Option Value} {mb : Str → Option Value} {rest : List (Addr × Obj)} {d : Addr} {vs : List Value} {c : Nat} {ns : List Int} {k : Int} {u : Tok} (P : (Below A₀ base outer h₀) ∧ (Fr h₀ L s.heap m) ∧ ((Mine.ka.heap_1 w.params).In h₀) ∧ (News h₀ L s.heap (((d, listOf vs.toArray c) :: rest))) ∧ (Top p loose mean mg mb h₀) ∧ (cs.kind = .function) ∧ (dp + 1 < 900) ∧ (un + 8 * 1 < 9000) ∧ (IntsAre vs ns) ∧ (ns.length ≤ 100) ∧ (∀ q ∈ rest, q.1 ≠ d) ∧ (2 ≤ k) ∧ (k ≤ 64) ∧ True)  (h : ∀ (h' : Heap) (tk' : Nat), Fr h₀ L h' m → ∀ (r : Int) (t : Tok) (vs' : List Value) (c' : Nat) (ns' : List Int), (0 ≤ r) → (r < k) → (IntsAre vs' ns') → (ns'.length ≤ ns.length) → News h₀ L h' ((d, listOf vs'.toArray c') :: rest) → Q (.int r t) { s with heap := h', toks := tk' }) :
    wpAny (model PySem.Challenge.rw_ok0058_01.row.prog w) (ktrTop dp un gd cn cs L a ccd cl outer) (call (.ref 317) [.ref d, .int k u]) Q E s :=
  by
  exact con_use (law_draw_con w p loose mean mg mb rest d vs c ns k u P.2.2.2.2.2.2.2.2.1 P.2.2.2.2.2.2.2.2.2.1 P.2.2.2.2.2.2.2.2.2.2.1 P.2.2.2.2.2.2.2.2.2.2.2.1 P.2.2.2.2.2.2.2.2.2.2.2.2.1) P.1 P.2.1 P.2.2.1 P.2.2.2.1 P.2.2.2.2.1 P.2.2.2.2.2.1 P.2.2.2.2.2.2.1 P.2.2.2.2.2.2.2.1 (fun v h' tk' n' F' N' r => by obtain ⟨r, t, vs', c', ns', e, f1, f2, f3, f4, q⟩ := r; subst e; subst q; exact h _ _ F' _ _ _ _ _ f1 f2 f3 f4 N')
end Mine
namespace Mine
set_option maxRecDepth 100000
set_option maxHeartbeats 0
/-- signs as they are written: an escaped one behind a backslash -/
noncomputable def enc : List (Bool × Nat) → List Nat
  | [] => []
  | (true, c) :: r => 92 :: c :: enc r
  | (false, c) :: r => c :: enc r
noncomputable abbrev ItOk (i : Bool × Nat) : Prop := i.2 < 128 ∧ (i.1 = false → isBreak (i.2 : Int) = false ∧ i.2 ≠ 92)
theorem enc_app : ∀ a b : List (Bool × Nat), enc (a ++ b) = enc a ++ enc b
  | [], _ => rfl
  | (true, c) :: r, b => by show 92 :: c :: enc (r ++ b) = _; rw [enc_app r b]; rfl
  | (false, c) :: r, b => by show c :: enc (r ++ b) = _; rw [enc_app r b]; rfl
theorem enc_nil {a : List (Bool × Nat)} (h : enc a = []) : a = [] := by
  cases a with
  | nil => rfl
  | cons x r => obtain ⟨b, c⟩ := x; cases b <;> cases h
noncomputable def WordOk (wr nm : List Nat) (q : Bool) : Prop :=
  ∃ its : List (Bool × Nat), wr = enc its ∧ nm = its.map (·.2) ∧ q = its.any (·.1) ∧ (∀ i ∈ its, ItOk i) ∧ its.head? ≠ some (false, 63)
theorem word_nil : WordOk [] [] false := ⟨[], rfl, rfl, rfl, fun _ h => (nomatch h), by simp⟩
noncomputable def pieceIts (p : List Nat) : List (Bool × Nat) := match p with | 92 :: c :: _ => [(true, c)] | p => p.map fun c => (false, c)
noncomputable def pieces : List (List Nat) := [[43], [45], [46], [49], [50, 51], [101], [69], [48], [105, 110, 102], [78, 97, 78], [97], [53], [63], [92, 49], [92, 46], [92, 32], [120]]
theorem pieces_ok : ∀ p ∈ pieces, p = enc (pieceIts p) ∧ (if p.head? = some 92 then p.drop 1 else p) = (pieceIts p).map (·.2) ∧ decide (p.head? = some 92) = (pieceIts p).any (·.1) ∧ (∀ i ∈ pieceIts p, ItOk i) ∧ pieceIts p ≠ [] ∧ (p ≠ [63] → (pieceIts p).head? ≠ some (false, 63)) ∧ 1 ≤ p.length ∧ p.length ≤ 3 := by
  decide +kernel
theorem word_step {wr nm p : List Nat} {q : Bool} (h : WordOk wr nm q) (hp : p ∈ pieces) (h63 : wr = [] → p ≠ [63]) :
    WordOk (wr ++ p) (nm ++ if p.head? = some 92 then p.drop 1 else p) (q || decide (p.head? = some 92)) := by
  obtain ⟨its, e1, e2, e3, e4, e5⟩ := h
  obtain ⟨p1, p2, p3, p4, p5, p6, _⟩ := pieces_ok p hp
  refine ⟨its ++ pieceIts p, ?_, ?_, ?_, ?_, ?_⟩
  · rw [enc_app, ← p1, e1]
  · rw [p2, e2, List.map_append]
  · rw [p3, e3, List.any_append]
  · intro i hi
    rcases List.mem_append.mp hi with h | h
    · exact e4 i h
    · exact p4 i h
  · cases its with
    | nil => exact p6 (h63 e1)
    | cons a r => exact e5
theorem its_ne {wr nm : List Nat} {q : Bool} {its : List (Bool × Nat)} (e : wr = enc its) (h : wr ≠ []) : its ≠ [] := fun z => h (by rw [e, z]; rfl)
end Mine
namespace Mine
set_option maxRecDepth 100000
set_option maxHeartbeats 0
local macro_rules | `(tactic| walk_at "InvEndN") => `(tactic| refine hold ?_)
local macro_rules | `(tactic| walk_at "pyIter ref") => `(tactic| refine hold ?_)
local macro_rules | `(tactic| walk_at "eval Subscript List") => `(tactic| refine hold ?_)
local macro_rules | `(tactic| walk_at "exec If") => `(tactic| refine hold ?_)
local macro_rules | `(tactic| walk_at "call ref") => `(tactic| (k_here; k_dflt (refine' law_draw_go ?k1 ?_; (case k1 => keq_rows); rotate_right 1; intros)))

noncomputable def pieceStrs : List Str := [Str.ofString "+", Str.ofString "-", Str.ofString ".", Str.ofString "1", Str.ofString "23", Str.ofString "e", Str.ofString "E", Str.ofString "0", Str.ofString "inf", Str.ofString "NaN", Str.ofString "a", Str.ofString "5", Str.ofString "?", Str.ofString "\\1", Str.ofString "\\.", Str.ofString "\\ "]
theorem piece_in : ∀ i : Nat, i < 16 → (pieceStrs.getD i Str.empty).cps.toList ∈ pieces := by decide +kernel
theorem piece_at {r : Int} (h : r < 16) : (pieceStrs.getD r.toNat Str.empty).cps.toList ∈ pieces := piece_in _ (by omega)

theorem x_in : (Str.ofString "x").cps.toList ∈ pieces ∧ (Str.ofString "x").cps.toList ≠ [63] := by decide +kernel
theorem ask_is : (Str.ofString "?").cps.toList = [63] := by decide +kernel
theorem slash_is : Str.ofString "\\" = ⟨#[92]⟩ := by decide +kernel
theorem back_is {x : Str} (h0 : 1 ≤ x.length) : (Txt.item x 0 == Str.ofString "\\") = decide (x.cps.toList.head? = some 92) := by
  rw [item_at (x := x) (Int.le_refl 0) (by omega), slash_is, str_beq]
  cases hx : x.cps.toList with
  | nil => rw [str_len, hx] at h0; simp at h0
  | cons a r => show decide ([a] = [92]) = _; simp
theorem law_word_con (w : World) (p : Program) (loose : List Str) (mean : ExcName → Option Value) (mg mb : Str → Option Value) (rest : List (Addr × Obj)) (d : Addr) (vs : List Value) (c : Nat) (ns : List Int)
    (hI : IntsAre vs ns) (hl : ns.length ≤ 100) (hr : ∀ q ∈ rest, q.1 ≠ d) :
   Con w p loose mean mg mb 324 [.ref d] ((d, listOf vs.toArray c) :: rest) 2
     (fun v news' => ∃ (vs' : List Value) (c' : Nat) (ns' : List Int) (a : Addr) (wr nm : Str) (q : Bool) (t1 t2 : Tok), v = .ref a ∧ IntsAre vs' ns' ∧ ns'.length ≤ ns.length ∧ news' = (a, tupObj [.str wr t1, .str nm t2, .bool q]) :: (d, listOf vs'.toArray c') :: rest ∧ WordOk wr.cps.toList nm.cps.toList q ∧ wr.cps.toList ≠ [] ∧ wr.length ≤ 15 ∧ nm.length ≤ 15) := by
  unfold Con
  k_fill
  intro dp un gd cn cs a ccd cl outer A₀ base h₀ L m s Q E B F X N T hk hd hu hret
  have hd' : dp < recursionLimit := dep_lim (by assumption)
  refine wpAny_call ?_
  k_dflt ktr_enter
  rename_i g' L' h' FG' F' N' B' X' T'
  replace F' : Fr g' L' h' (fun z => List.lookup z [(Str.ofString "deck", .ref d)]) := F'
  generalize s.toks + List.length _ = tk0
  tb_start
  unfold Hold
  with_reducible rename IsRange _ _ _ _ _ _ _ _ => hR
  with_reducible rename Fr g' _ _ _ => F1
  with_reducible rename News g' _ _ _ => N1
  with_reducible rename (0 ≤ _) => hr0
  with_reducible rename (_ < (5 : Int)) => hr5
  with_reducible rename IntsAre _ _ => hI9
  with_reducible rename (List.length _ ≤ List.length ns) => hl9
  rename Int => r9
  refine range_inv (1 + r9).toNat (fun i m1 news1 => ∃ (vs1 : List Value) (c1 : Nat) (ns1 : List Int) (wr nm : Str) (q : Bool) (t1 t2 : Tok), IntsAre vs1 ns1 ∧ ns1.length ≤ ns.length ∧ news1 = (d, listOf vs1.toArray c1) :: rest ∧ Has m1 [(Str.ofString "deck", .ref d), (Str.ofString "written_here", .str wr t1), (Str.ofString "name", .str nm t2), (Str.ofString "is_quoted_here", .bool q)] ∧ wr.length ≤ 3 * i ∧ nm.length ≤ 3 * i ∧ WordOk wr.cps.toList nm.cps.toList q ∧ (0 < i → wr.cps.toList ≠ [])) rfl hR (by omega) (by omega) F1 (news_drop2 N1) ?_ ?_ ?_
  · exact ⟨_, _, _, Str.ofString "", Str.ofString "", false, _, _, hI9, hl9, rfl, .cons rfl (.cons rfl (.cons rfl (.cons rfl .nil))), by decide +kernel, by decide +kernel, by rw [empty_is]; exact word_nil, fun z => absurd z (Nat.lt_irrefl 0)⟩
  · rintro i m1 news1 h1 tk1 own t1 hi hadr hoff ⟨vs1, c1, ns1, wr, nm, q, t1, t2, hI1, hl1, rfl, hm, hwl, hnl, hW, hWn⟩ F2 N2
    rw [hm.see] at F2
    rw [List.cons_append] at N2
    have hr' : ∀ q ∈ rest ++ own, q.1 ≠ d := fun q hq => (List.mem_append.mp hq).elim (hr q) fun h => hoff.ne (by simp) q h
    tb_start
    refine unhold ?_
    with_reducible refine cut_eval (fun (v : Value) (s' : Shared) => Hold (∃ (b : Str) (tb : Tok) (h' : Heap) (tk : Nat) (vs2 : List Value) (c2 : Nat) (ns2 : List Int) (m2 : Str → Option Value), v = Value.str b tb ∧ s' = { s with heap := h', toks := tk } ∧ Fr g' L' h' m2 ∧ Has m2 [(Str.ofString "deck", .ref d), (Str.ofString "written_here", .str wr t1), (Str.ofString "name", .str nm t2), (Str.ofString "is_quoted_here", .bool q)] ∧ News g' L' h' ((d, listOf vs2.toArray c2) :: (rest ++ own)) ∧ IntsAre vs2 ns2 ∧ ns2.length ≤ ns1.length ∧ b.cps.toList ∈ pieces)) ?_ ?_
    · refine Subscript_ ?_
      tb_start
      with_reducible rename Fr g' _ _ _ => F3
      with_reducible rename News g' _ _ _ => N3
      with_reducible rename IntsAre _ _ => hI2
      with_reducible rename (_ < (16 : Int)) => hr16
      with_reducible rename (List.length _ ≤ List.length ns1) => hl2
      exact unhold ⟨_, _, _, _, _, _, _, _, rfl, rfl, F3, .cons rfl (.cons rfl (.cons rfl (.cons rfl .nil))), news_drop2 N3, hI2, hl2, piece_at hr16⟩
    rintro v s' ⟨b, tb, h2, tk2, vs2, c2, ns2, m2, rfl, rfl, F3, hm2, N3, hI2, hl2, hb⟩
    rw [hm2.see] at F3
    clear F2 N2
    tb_start
    refine unhold ?_
    with_reducible rename Fr g' _ _ _ => F4
    with_reducible rename News g' _ _ _ => N4

    have hb3 := (pieces_ok _ hb).2.2.2.2.2.2
    have hbl : 1 ≤ b.length ∧ b.length ≤ 3 := by rw [str_len]; exact hb3
    obtain ⟨hbl1, hbl3⟩ := hbl
    with_reducible refine cut_exec (fun (s' : Shared) => Hold (∃ (b' : Str) (tb' : Tok) (h' : Heap) (tk : Nat) (m3 : Str → Option Value), s' = { s with heap := h', toks := tk } ∧ Fr g' L' h' m3 ∧ Has m3 [(Str.ofString "deck", .ref d), (Str.ofString "written_here", .str wr t1), (Str.ofString "name", .str nm t2), (Str.ofString "is_quoted_here", .bool q), (Str.ofString "piece", .str b' tb')] ∧ News g' L' h' ((d, listOf vs2.toArray c2) :: (rest ++ own)) ∧ b'.cps.toList ∈ pieces ∧ (wr.cps.toList = [] → b'.cps.toList ≠ [63]))) ?_ ?_
    · refine wpAny_If ?_
      tb_start
      · with_reducible rename Fr g' _ _ _ => F5
        with_reducible rename News g' _ _ _ => N5
        exact unhold ⟨_, _, _, _, _, rfl, F5, .cons rfl (.cons rfl (.cons rfl (.cons rfl (.cons rfl .nil)))), N5, x_in.1, fun _ => x_in.2⟩
      · with_reducible rename Fr g' _ _ _ => F5
        with_reducible rename News g' _ _ _ => N5
        with_reducible rename (b == _) = false => hq3
        rw [str_beq, ask_is, decide_eq_false_iff_not] at hq3
        exact unhold ⟨_, _, _, _, _, rfl, F5, .cons rfl (.cons rfl (.cons rfl (.cons rfl (.cons rfl .nil)))), N5, hb, fun _ => hq3⟩
      · with_reducible rename Fr g' _ _ _ => F5
        with_reducible rename News g' _ _ _ => N5
        with_reducible rename (wr == _) = false => hq3
        rw [str_beq, empty_is, decide_eq_false_iff_not] at hq3
        exact unhold ⟨_, _, _, _, _, rfl, F5, .cons rfl (.cons rfl (.cons rfl (.cons rfl (.cons rfl .nil)))), N5, hb, fun z => absurd z hq3⟩
    rintro s' ⟨b', tb', h3, tk3, m3, rfl, F5, hm3, N5, hb', h63⟩
    rw [hm3.see] at F5
    clear hbl1 hbl3
    have hb3' := (pieces_ok _ hb').2.2.2.2.2.2
    have hbl' : 1 ≤ b'.length ∧ b'.length ≤ 3 := by rw [str_len]; exact hb3'
    obtain ⟨hbl1', hbl3'⟩ := hbl'
    tb_start
    · with_reducible rename Fr g' _ _ _ => F6
      with_reducible rename News g' _ _ _ => N6
      with_reducible rename (Txt.item b' _ == _) = true => hbk
      with_reducible rename (q = true) => hq
      rw [back_is hbl1', decide_eq_true_eq] at hbk
      have hstep := word_step hW hb' h63
      rw [if_pos hbk] at hstep
      refine unhold (InvEndN.intro F6 N6 ⟨vs2, c2, ns2, _, _, _, _, _, hI2, by omega, rfl, .cons rfl (.cons rfl (.cons rfl (.cons rfl .nil))), ?_, ?_, ?_, ?_⟩ rfl (fun p hp => by rcases List.mem_cons.mp hp with h | h <;> simp [h]) (fun p hp => by simp [hp]))
      · rw [Str.length_append]; omega
      · rw [Str.length_append]; try (have := Txt.slice_le b' (some 1) none); omega
      · rw [app_list, app_list]
        rw [slice_from (by decide)]
        rw [hq, Bool.true_or] at hstep; rw [hq]
        exact hstep
      · intro _ z
        rw [app_list] at z
        have := List.append_eq_nil_iff.mp z
        rw [this.2] at hb3'
        simp at hb3'
    · with_reducible rename Fr g' _ _ _ => F6
      with_reducible rename News g' _ _ _ => N6
      with_reducible rename (Txt.item b' _ == _) = true => hbk
      with_reducible rename (q = false) => hq
      rw [back_is hbl1', decide_eq_true_eq] at hbk
      have hstep := word_step hW hb' h63
      rw [if_pos hbk] at hstep
      refine unhold (InvEndN.intro F6 N6 ⟨vs2, c2, ns2, _, _, _, _, _, hI2, by omega, rfl, .cons rfl (.cons rfl (.cons rfl (.cons rfl .nil))), ?_, ?_, ?_, ?_⟩ rfl (fun p hp => by rcases List.mem_cons.mp hp with h | h <;> simp [h]) (fun p hp => by simp [hp]))
      · rw [Str.length_append]; omega
      · rw [Str.length_append]; try (have := Txt.slice_le b' (some 1) none); omega
      · rw [app_list, app_list]
        rw [slice_from (by decide)]
        rw [hq, Bool.false_or] at hstep; rw [back_is hbl1']
        exact hstep
      · intro _ z
        rw [app_list] at z
        have := List.append_eq_nil_iff.mp z
        rw [this.2] at hb3'
        simp at hb3'
    · with_reducible rename Fr g' _ _ _ => F6
      with_reducible rename News g' _ _ _ => N6
      with_reducible rename (Txt.item b' _ == _) = false => hbk
      with_reducible rename (q = true) => hq
      rw [back_is hbl1', decide_eq_false_iff_not] at hbk
      have hstep := word_step hW hb' h63
      rw [if_neg hbk] at hstep
      refine unhold (InvEndN.intro F6 N6 ⟨vs2, c2, ns2, _, _, _, _, _, hI2, by omega, rfl, .cons rfl (.cons rfl (.cons rfl (.cons rfl .nil))), ?_, ?_, ?_, ?_⟩ rfl (fun p hp => by rcases List.mem_cons.mp hp with h | h <;> simp [h]) (fun p hp => by simp [hp]))
      · rw [Str.length_append]; omega
      · rw [Str.length_append]; try (have := Txt.slice_le b' (some 1) none); omega
      · rw [app_list, app_list]
        skip
        rw [hq, Bool.true_or] at hstep; rw [hq]
        exact hstep
      · intro _ z
        rw [app_list] at z
        have := List.append_eq_nil_iff.mp z
        rw [this.2] at hb3'
        simp at hb3'
    · with_reducible rename Fr g' _ _ _ => F6
      with_reducible rename News g' _ _ _ => N6
      with_reducible rename (Txt.item b' _ == _) = false => hbk
      with_reducible rename (q = false) => hq
      rw [back_is hbl1', decide_eq_false_iff_not] at hbk
      have hstep := word_step hW hb' h63
      rw [if_neg hbk] at hstep
      refine unhold (InvEndN.intro F6 N6 ⟨vs2, c2, ns2, _, _, _, _, _, hI2, by omega, rfl, .cons rfl (.cons rfl (.cons rfl (.cons rfl .nil))), ?_, ?_, ?_, ?_⟩ rfl (fun p hp => by rcases List.mem_cons.mp hp with h | h <;> simp [h]) (fun p hp => by simp [hp]))
      · rw [Str.length_append]; omega
      · rw [Str.length_append]; try (have := Txt.slice_le b' (some 1) none); omega
      · rw [app_list, app_list]
        skip
        rw [hq, Bool.false_or] at hstep; rw [back_is hbl1']
        exact hstep
      · intro _ z
        rw [app_list] at z
        have := List.append_eq_nil_iff.mp z
        rw [this.2] at hb3'
        simp at hb3'
  · rintro m1 news1 h1 tk1 ⟨vs1, c1, ns1, wr, nm, q, t1, t2, hI1, hl1, rfl, hm, hwl, hnl, hW, hWn⟩ F2 N2
    rw [hm.see] at F2
    tb_start
    with_reducible rename Fr h₀ _ _ _ => kF
    with_reducible rename News h₀ _ _ _ => kN
    refine hret _ _ _ _ kF kN ⟨vs1, c1, ns1, _, wr, nm, q, _, _, rfl, hI1, hl1, rfl, hW, hWn (by omega), by omega, by omega⟩
theorem law_word_go {dp un : Nat} {gd : Option (List Code)} {cn : Str} {cs : Scope} {a : Addr} {ccd : Value} {cl : List (Str × Addr)} {outer : List Env} {A₀ : Around} {base h₀ : Heap} {L : Addr} {m : Str → Option Value} {s : Shared} {Q E : Value → Shared → Prop} {w : World} {p : Program} {loose : List Str} {mean : ExcName → Option Value} {mg : Str → Option Value} {mb : Str → Option Value} {rest : List (Addr × Obj)} {d : Addr} {vs : List Value} {c : Nat} {ns : List Int} (P : (Below A₀ base outer h₀) ∧ (Fr h₀ L s.heap m) ∧ ((Mine.ka.heap_1 w.params).In h₀) ∧ (News h₀ L s.heap (((d, listOf vs.toArray c) :: rest))) ∧ (Top p loose mean mg mb h₀) ∧ (cs.kind = .function) ∧ (dp + 2 < 900) ∧ (un + 8 * 2 < 9000) ∧ (IntsAre vs ns) ∧ (ns.length ≤ 100) ∧ (∀ q ∈ rest, q.1 ≠ d) ∧ True)  (h : ∀ (h' : Heap) (tk' : Nat), Fr h₀ L h' m → ∀ (vs' : List Value) (c' : Nat) (ns' : List Int) (a1 : Addr) (wr nm : Str) (q : Bool) (t1 t2 : Tok), (IntsAre vs' ns') → (ns'.length ≤ ns.length) → (WordOk wr.cps.toList nm.cps.toList q) → (wr.cps.toList ≠ []) → (wr.length ≤ 15) → (nm.length ≤ 15) → News h₀ L h' ((a1, tupObj [.str wr t1, .str nm t2, .bool q]) :: (d, listOf vs'.toArray c') :: rest) → Q (.ref a1) { s with heap := h', toks := tk' }) :
    wpAny (model PySem.Challenge.rw_ok0058_01.row.prog w) (ktrTop dp un gd cn cs L a ccd cl outer) (call (.ref 324) [.ref d]) Q E s :=
  by
  exact con_use (law_word_con w p loose mean mg mb rest d vs c ns P.2.2.2.2.2.2.2.2.1 P.2.2.2.2.2.2.2.2.2.1 P.2.2.2.2.2.2.2.2.2.2.1) P.1 P.2.1 P.2.2.1 P.2.2.2.1 P.2.2.2.2.1 P.2.2.2.2.2.1 P.2.2.2.2.2.2.1 P.2.2.2.2.2.2.2.1 (fun v h' tk' n' F' N' r => by obtain ⟨vs', c', ns', a1, wr, nm, q, t1, t2, e, f1, f2, s9, f3, f4, f5, f6⟩ := r; subst e; subst s9; exact h _ _ F' _ _ _ _ _ _ _ _ _ f1 f2 f3 f4 f5 f6 N')
end Mine
local macro_rules | `(tactic| walk_at "call ref") => `(tactic| (k_here; k_dflt (refine' Mine.law_draw_go ?k1 ?_; (case k1 => keq_rows); rotate_right 1; intros)))
namespace Mine
set_option maxRecDepth 100000
set_option maxHeartbeats 0
local macro_rules | `(tactic| walk_at "InvEndN") => `(tactic| refine hold ?_)
local macro_rules | `(tactic| walk_at "pyIter ref") => `(tactic| refine hold ?_)
local macro_rules | `(tactic| walk_at "eval Subscript List") => `(tactic| refine hold ?_)
local macro_rules | `(tactic| walk_at "exec Assign cons Call") => `(tactic| refine hold ?_)
local macro_rules | `(tactic| walk_at "eval Compare") => `(tactic| refine hold ?_)
local macro_rules | `(tactic| walk_at "binaryOp Mult int int") => `(tactic| refine mul_int ?_ (PySem.IntMulOk.of_right (by with_reducible assumption)))

theorem news_drop3 {h₀ h : Heap} {L : Addr} {x y z : Addr × Obj} {r : List (Addr × Obj)} (N : News h₀ L h (x :: y :: z :: r)) : News h₀ L h (x :: r) := news_sub N fun p hp => by
  simp only [List.mem_cons] at hp ⊢
  rcases hp with h | h <;> simp [h]
noncomputable def radii : List Int := [2, 8, 16, 3, 24, 36, 1, 37]
theorem radius_in : ∀ i : Nat, i < 8 → radii.getD i 0 ∈ radii := by decide +kernel
noncomputable def headOf (r : Int) : List Nat := if r = 2 then [35, 98] else if r = 8 then [35, 111] else if r = 16 then [35, 88] else if r = 3 then [35, 51, 114] else if r = 24 then [35, 50, 52, 114] else if r = 36 then [35, 51, 54, 114] else if r = 1 then [35, 49, 114] else [35, 51, 55, 114]
theorem bool_cut {M : Model} {A : Around} {e : Expr} {env : Env} {Q E : Value → Shared → Prop} {s : Shared} (b : Bool)
    (h : wpAny M A (eval e env) (fun v s' => Hold (v = .bool b ∧ ∃ tk, s' = { s with toks := tk })) E s) (k : ∀ tk, Q (.bool b) { s with toks := tk }) : wpAny M A (eval e env) Q E s :=
  wpAny_mono h (fun v s' ⟨e1, tk, e2⟩ => by subst e1; subst e2; exact k tk) fun _ _ x => x
theorem head_len : ∀ r ∈ radii, (headOf r).length ≤ 4 := by decide +kernel
noncomputable def isFigC (c : Nat) : Prop := (48 ≤ c ∧ c ≤ 57) ∨ (97 ≤ c ∧ c ≤ 122)
noncomputable def figAcc (r : Int) (l : List Nat) : Int := l.foldl (fun (a : Int) (c : Nat) => a * r + figZ c) 0
noncomputable def RadOk (r : Int) (l : List Nat) (wo : Int) (b : Bool) : Prop :=
  (∀ c ∈ l, isFigC c) ∧ wo = figAcc r l ∧ b = (decide (2 ≤ r ∧ r ≤ 36) && l.all fun c => decide (figZ c < r))
theorem rad_nil (r : Int) : RadOk r [] 0 (decide (2 ≤ r ∧ r ≤ 36)) := ⟨fun _ h => (nomatch h), rfl, by simp⟩
theorem rad_step {r : Int} {l : List Nat} {wo : Int} {b : Bool} {c : Nat} (h : RadOk r l wo b) (hc : isFigC c) : RadOk r (l ++ [c]) (wo * r + figZ c) (b && decide (figZ c < r)) := by
  obtain ⟨h1, h2, h3⟩ := h
  refine ⟨fun x hx => ?_, ?_, ?_⟩
  · rcases List.mem_append.mp hx with h | h
    · exact h1 x h
    · rw [List.mem_singleton.mp h]; exact hc
  · rw [h2]; unfold figAcc; rw [List.foldl_append]; rfl
  · rw [h3, List.all_append, Bool.and_assoc]; simp
noncomputable def digStr : Str := Str.ofString "0123456789abcdefghijklmnopqrstuvwxyz"
theorem dig_at : ∀ i : Nat, i < 36 → isFigC (digStr.cps.toList.getD i 0) ∧ figZ (digStr.cps.toList.getD i 0) = i := by unfold isFigC; decide +kernel
theorem dig_item {f : Int} (h0 : 0 ≤ f) (h1 : f < 36) : ∃ c, Txt.item (Str.ofString "0123456789abcdefghijklmnopqrstuvwxyz") f = ⟨#[c]⟩ ∧ isFigC c ∧ figZ c = f := by
  have hl : (Str.ofString "0123456789abcdefghijklmnopqrstuvwxyz").length = 36 := by decide +kernel
  refine ⟨_, item_at h0 (by rw [hl]; exact h1), ?_⟩
  have := dig_at f.toNat (by omega)
  refine ⟨this.1, this.2.trans (by omega)⟩
theorem radii_bits : ∀ r ∈ radii, Builtin.Int.intBits r ≤ 64 := by decide +kernel
theorem sign_in : ∀ i : Nat, i < 3 → ([Str.ofString "", Str.ofString "-", Str.ofString "+"].getD i Str.empty).cps.toList ∈ [[], [45], [43]] := by decide +kernel
noncomputable def radixDue (r : Int) (sg fl : List Nat) : Option (Str × DV) :=
  if (2 ≤ r ∧ r ≤ 36) ∧ (∀ c ∈ fl, figZ c < r) ∧ fl ≠ [] then some (Str.ofString "integer", .int (if sg = [45] then 0 - figAcc r fl else figAcc r fl)) else none
theorem sub_tail {x y : Addr × Obj} {r o : List (Addr × Obj)} : ∀ p ∈ x :: r, p ∈ y :: x :: (r ++ o) := fun p hp => by
  rcases List.mem_cons.mp hp with h | h <;> simp [h]
theorem all_lt {r : Int} {l : List Nat} : (l.all fun c => decide (figZ c < r)) = true ↔ ∀ c ∈ l, figZ c < r := by simp
theorem due_none {r wo : Int} {sg fl : List Nat} {q : Bool} (h : RadOk r fl wo q) (hq : q = false ∨ fl = []) : radixDue r sg fl = none := by
  unfold radixDue
  refine if_neg fun ⟨a, b, c⟩ => ?_
  rcases hq with e | e
  · have := h.2.2
    rw [e, decide_eq_true a, all_lt.mpr b] at this
    exact Bool.noConfusion this
  · exact c e
theorem due_some {r wo : Int} {sg fl : List Nat} {q : Bool} (h : RadOk r fl wo q) (hq : q = true) (hf : fl ≠ []) : radixDue r sg fl = some (Str.ofString "integer", .int (if sg = [45] then 0 - wo else wo)) := by
  unfold radixDue
  have := h.2.2
  rw [hq] at this
  have := Bool.and_eq_true_iff.mp this.symm
  rw [if_pos ⟨of_decide_eq_true this.1, all_lt.mp this.2, hf⟩, h.2.1]
noncomputable def headTab : List (PyData × PyData) := [(.int 2, .str (Str.ofString "#b")), (.int 8, .str (Str.ofString "#o")), (.int 16, .str (Str.ofString "#X"))]
local macro_rules | `(tactic| walk_at "eval Dict") => `(tactic| refine hold ?_)
local macro_rules | `(tactic| walk_at "call builtin:dict.get") => `(tactic| refine hold ?_)
theorem law_radix_con (w : World) (p : Program) (loose : List Str) (mean : ExcName → Option Value) (mg mb : Str → Option Value) (rest : List (Addr × Obj)) (d : Addr) (vs : List Value) (c : Nat) (ns : List Int)
    (hI : IntsAre vs ns) (hl : ns.length ≤ 100) (hr : ∀ q ∈ rest, q.1 ≠ d) :
   Con w p loose mean mg mb 352 [.ref d] ((d, listOf vs.toArray c) :: rest) 2
     (fun v news' => ∃ (vs' : List Value) (c' : Nat) (ns' : List Int) (a : Addr) (tx : Str) (t1 : Tok) (v2 : Value) (r : Int) (sg fl : List Nat), v = .ref a ∧ IntsAre vs' ns' ∧ ns'.length ≤ ns.length ∧ (d, listOf vs'.toArray c') ∈ news' ∧ rest ⊆ news' ∧ (a, tupObj [.str tx t1, v2]) ∈ news' ∧ DueAt v2 news' (radixDue r sg fl) ∧ tx.cps.toList = headOf r ++ sg ++ fl ∧ r ∈ radii ∧ sg ∈ [[], [45], [43]] ∧ fl.length ≤ 3 ∧ ∀ c ∈ fl, isFigC c) := by
  unfold Con
  k_fill
  intro dp un gd cn cs a ccd cl outer A₀ base h₀ L m s Q E B F X N T hk hd hu hret
  have hd' : dp < recursionLimit := dep_lim (by assumption)
  refine wpAny_call ?_
  k_dflt ktr_enter
  rename_i g' L' h' FG' F' N' B' X' T'
  replace F' : Fr g' L' h' (fun z => List.lookup z [(Str.ofString "deck", .ref d)]) := F'
  generalize s.toks + List.length _ = tk0
  tb_start
  refine unhold ?_
  refine Subscript_ ?_
  tb_start
  refine unhold ?_
  with_reducible rename Fr g' _ _ _ => F1
  with_reducible rename News g' _ _ _ => N1
  with_reducible rename IntsAre _ _ => hI9
  with_reducible rename (0 ≤ _) => hr0
  with_reducible rename (_ < (8 : Int)) => hr8
  with_reducible rename (List.length _ ≤ List.length ns) => hl9
  rename Int => r9
  obtain ⟨r, hre, hri⟩ : ∃ r, r = [2, 8, 16, 3, 24, 36, 1, 37].getD r9.toNat (0 : Int) ∧ r ∈ radii := ⟨_, rfl, radius_in r9.toNat (by omega)⟩
  rw [← hre] at F1
  replace N1 := news_drop2 N1
  clear hre
  with_reducible refine cut_exec (fun (s' : Shared) => Hold (∃ (vs2 : List Value) (c2 : Nat) (ns2 : List Int) (hh : Str) (th tr : Tok) (h' : Heap) (tk : Nat) (m2 : Str → Option Value), s' = { s with heap := h', toks := tk } ∧ Fr g' L' h' m2 ∧ Has m2 [(Str.ofString "deck", .ref d), (Str.ofString "radix", .int r tr), (Str.ofString "head", .str hh th)] ∧ News g' L' h' ((d, listOf vs2.toArray c2) :: rest) ∧ IntsAre vs2 ns2 ∧ ns2.length ≤ ns.length ∧ hh.cps.toList = headOf r)) ?_ ?_
  · refine wpAny_Assign_Name ?_
    tb_start
    refine unhold ?_
    with_reducible rename News g' _ _ _ => N2
    with_reducible rename Fr g' _ _ _ => F2
    refine Dict_lits_int (D := headTab) ?hD ?hs ?hn ?hall ?hl ?h0 ?hlen ?_
    case hD => exact rfl
    case hs => exact rfl
    case hn => decide
    case hall => exact rfl
    case hl => exact rfl
    case h0 => exact List.cons_ne_nil _ _
    case hlen => exact Nat.le_of_ble_eq_true rfl
    intro a8 o8 h8 tk8 le8 g8 t8 k8
    have F8 : Fr g' L' h8 _ := F2.keeps k8
    have N9 : News g' L' h8 _ := fun q hq => ⟨k8 _ _ (N2 q hq).1, (N2 q hq).2⟩
    have lo8 : (a8 == sysModules) = false := by
      have := modules_low (T'.nolimit.keeps F2.keep)
      exact beq_eq_false_iff_ne.mpr (Nat.ne_of_gt (Nat.lt_of_lt_of_le this le8))
    clear F2 N2
    obtain ⟨kvs, hd8, hf8⟩ := t8
    have T8 := TabAt.ofObj lo8 g8 hd8 hf8
    have hbits := radii_bits r hri
    tb_start
    simp only [radii, List.mem_cons, List.not_mem_nil, or_false] at hri
    rcases hri with rfl | rfl | rfl | rfl | rfl | rfl | rfl | rfl
    all_goals
      tb_start
      refine unhold ?_
      refine call_get2_intTab T8 (.str _ _) ?_
      intro v8 hv8
      obtain ⟨t8, rfl⟩ := PyProof.V.Flat.str_inv hv8
      clear hv8
      tb_start
      · trivial
      · with_reducible rename Fr g' _ _ _ => F2
        with_reducible rename News g' _ _ _ => N2
        exact unhold ⟨_, _, _, _, _, _, _, _, _, rfl, F2, .cons rfl (.cons rfl (.cons rfl .nil)), N2, hI9, hl9, by decide +kernel⟩
  rintro s' ⟨vs2, c2, ns2, hh, th, tr, h2, tk2, m2, rfl, F2, hm2, N2, hI2, hl2, hhd⟩
  rw [hm2.see] at F2
  tb_start
  refine unhold ?_
  refine Subscript_ ?_
  k_with "table" => skip
  have hbits := radii_bits r hri
  tb_start
  refine unhold ?_
  with_reducible refine bool_cut (decide (2 ≤ r ∧ r ≤ 36)) ?_ ?_
  · with_reducible refine Compare_chain ?_
    tb_start
    · with_reducible rename (2 ≤ r) => h2
      exact unhold ⟨by rw [show decide (2 ≤ r ∧ r ≤ 36) = decide (r ≤ 36) by apply decide_eq_decide.mpr; omega], _, rfl⟩
    · with_reducible rename (¬ (2 ≤ r)) => h2
      exact unhold ⟨by rw [decide_eq_false h2, decide_eq_false fun z => h2 z.1], _, rfl⟩
  intro tk3
  have hhl : hh.length ≤ 4 := by rw [str_len, hhd]; exact head_len r hri
  tb_start
  all_goals
    refine unhold ?_
    with_reducible rename IsRange _ _ _ _ _ _ _ _ => hR
    with_reducible rename Fr g' _ _ _ => F1
    with_reducible rename News g' _ _ _ => N1
    with_reducible rename (_ < (4 : Int)) => hr4
    with_reducible rename (_ < (3 : Int)) => hr3
    with_reducible rename IntsAre _ _ => hI9
    with_reducible rename (List.length _ ≤ List.length _) => hl9
    rename Int => r9
    refine range_inv r9.toNat (fun i m1 news1 => ∃ (vs1 : List Value) (c1 : Nat) (ns1 : List Int) (sg tx : Str) (wo : Int) (q : Bool) (t1 t2 t3 : Tok), IntsAre vs1 ns1 ∧ ns1.length ≤ ns.length ∧ news1 = (d, listOf vs1.toArray c1) :: rest ∧ Has m1 [(Str.ofString "deck", .ref d), (Str.ofString "radix", .int r tr), (Str.ofString "head", .str hh th), (Str.ofString "sign", .str sg t1), (Str.ofString "worth", .int wo t2), (Str.ofString "is_right", .bool q), (Str.ofString "text", .str tx t3)] ∧ tx.length = i ∧ RadOk r tx.cps.toList wo q ∧ sg.cps.toList ∈ [[], [45], [43]]) rfl hR (by omega) (by omega) F1 (news_drop3 N1) ?_ ?_ ?_
    · exact ⟨_, _, _, _, _, _, _, _, _, _, hI9, by omega, rfl, .cons rfl (.cons rfl (.cons rfl (.cons rfl (.cons rfl (.cons rfl (.cons rfl .nil)))))), by decide +kernel, rad_nil r, sign_in _ (by omega)⟩
    · rintro i m1 news1 h1 tk1 own t1 hi hadr hoff ⟨vs1, c1, ns1, sg, tx, wo, q, t1, t2, t3, hI1, hl1, rfl, hm, htl, hW, hsg⟩ F2 N2
      rw [hm.see] at F2
      rw [List.cons_append] at N2
      have hr' : ∀ q ∈ rest ++ own, q.1 ≠ d := fun q hq => (List.mem_append.mp hq).elim (hr q) fun h => hoff.ne (by simp) q h
      tb_start
      refine unhold ?_
      refine wpAny_Assign_Name ?_
      tb_start
      · refine unhold ?_
        with_reducible refine wpAny_Compare1 ?_
        tb_start
        with_reducible rename Fr g' _ _ _ => F3
        with_reducible rename News g' _ _ _ => N3
        with_reducible rename IntsAre _ _ => hI2
        with_reducible rename (_ < (36 : Int)) => h36
        with_reducible rename (0 ≤ _) => h0
        with_reducible rename (q = true) => hq
        with_reducible rename (List.length _ ≤ List.length ns1) => hl2
        obtain ⟨cc, e1, e2, e3⟩ := dig_item h0 h36
        refine unhold (InvEndN.intro F3 N3 ⟨_, _, _, sg, _, _, _, _, _, _, hI2, by omega, rfl, .cons rfl (.cons rfl (.cons rfl (.cons rfl (.cons rfl (.cons rfl (.cons rfl .nil)))))), ?_, ?_, hsg⟩ rfl sub_tail (fun p hp => by simp [hp]))
        · rw [Str.length_append, e1, htl]; rfl
        · rw [app_list, e1]
          have := rad_step hW e2
          rw [hq, Bool.true_and, e3] at this
          exact this
      · with_reducible rename Fr g' _ _ _ => F3
        with_reducible rename News g' _ _ _ => N3
        with_reducible rename IntsAre _ _ => hI2
        with_reducible rename (_ < (36 : Int)) => h36
        with_reducible rename (0 ≤ _) => h0
        with_reducible rename (q = false) => hq
        with_reducible rename (List.length _ ≤ List.length ns1) => hl2
        obtain ⟨cc, e1, e2, e3⟩ := dig_item h0 h36
        refine unhold (InvEndN.intro F3 N3 ⟨_, _, _, sg, _, _, _, _, _, _, hI2, by omega, rfl, .cons rfl (.cons rfl (.cons rfl (.cons rfl (.cons rfl (.cons rfl (.cons rfl .nil)))))), ?_, ?_, hsg⟩ rfl sub_tail (fun p hp => by simp [hp]))
        · rw [Str.length_append, e1, htl]; rfl
        · rw [app_list, e1]
          have := rad_step hW e2
          rw [hq, Bool.false_and, e3] at this
          rw [hq]
          exact this
    · rintro m1 news1 h1 tk1 ⟨vs1, c1, ns1, sg, tx, wo, q, t1, t2, t3, hI1, hl1, rfl, hm, htl, hW, hsg⟩ F2 N2
      rw [hm.see] at F2
      have hsl : sg.length ≤ 1 := by rw [str_len]; simp only [List.mem_cons, List.not_mem_nil, or_false] at hsg; rcases hsg with e | e | e <;> rw [e] <;> simp
      tb_start
      · with_reducible rename Fr h₀ _ _ _ => kF
        with_reducible rename News h₀ _ _ _ => kN
        with_reducible rename (tx == _) = true => he
        rw [str_beq, empty_is, decide_eq_true_eq] at he
        exact hret _ _ _ _ kF kN ⟨vs1, c1, ns1, _, _, _, _, r, sg.cps.toList, tx.cps.toList, rfl, hI1, hl1, by simp, fun p hp => by simp [hp], List.mem_cons_self .., by rw [due_none hW (.inr he)]; exact rfl, by rw [app_list, app_list, hhd], hri, hsg, by rw [← str_len]; omega, hW.1⟩
      · with_reducible rename Fr h₀ _ _ _ => kF
        with_reducible rename News h₀ _ _ _ => kN
        with_reducible rename (tx == _) = false => he
        with_reducible rename (sg == _) = true => hs
        with_reducible rename (q = true) => hq
        rw [str_beq, empty_is, decide_eq_false_iff_not] at he
        rw [minus_is, str_beq, decide_eq_true_eq] at hs
        exact hret _ _ _ _ kF kN ⟨vs1, c1, ns1, _, _, _, _, r, sg.cps.toList, tx.cps.toList, rfl, hI1, hl1, by simp, fun p hp => by simp [hp], List.mem_cons_self .., by rw [due_some hW hq he, if_pos hs]; exact ⟨_, _, _, rfl, List.mem_cons_of_mem _ (List.mem_cons_self ..), _, rfl⟩, by rw [app_list, app_list, hhd], hri, hsg, by rw [← str_len]; omega, hW.1⟩
      · with_reducible rename Fr h₀ _ _ _ => kF
        with_reducible rename News h₀ _ _ _ => kN
        with_reducible rename (tx == _) = false => he
        with_reducible rename (sg == _) = false => hs
        with_reducible rename (q = true) => hq
        rw [str_beq, empty_is, decide_eq_false_iff_not] at he
        rw [minus_is, str_beq, decide_eq_false_iff_not] at hs
        exact hret _ _ _ _ kF kN ⟨vs1, c1, ns1, _, _, _, _, r, sg.cps.toList, tx.cps.toList, rfl, hI1, hl1, by simp, fun p hp => by simp [hp], List.mem_cons_self .., by rw [due_some hW hq he, if_neg hs]; exact ⟨_, _, _, rfl, List.mem_cons_of_mem _ (List.mem_cons_self ..), _, rfl⟩, by rw [app_list, app_list, hhd], hri, hsg, by rw [← str_len]; omega, hW.1⟩
      · with_reducible rename Fr h₀ _ _ _ => kF
        with_reducible rename News h₀ _ _ _ => kN
        with_reducible rename (q = false) => hq
        exact hret _ _ _ _ kF kN ⟨vs1, c1, ns1, _, _, _, _, r, sg.cps.toList, tx.cps.toList, rfl, hI1, hl1, by simp, fun p hp => by simp [hp], List.mem_cons_self .., by rw [due_none hW (.inl hq)]; exact rfl, by rw [app_list, app_list, hhd], hri, hsg, by rw [← str_len]; omega, hW.1⟩
theorem law_radix_go {dp un : Nat} {gd : Option (List Code)} {cn : Str} {cs : Scope} {a : Addr} {ccd : Value} {cl : List (Str × Addr)} {outer : List Env} {A₀ : Around} {base h₀ : Heap} {L : Addr} {m : Str → Option Value} {s : Shared} {Q E : Value → Shared → Prop} {w : World} {p : Program} {loose : List Str} {mean : ExcName → Option Value} {mg : Str → Option Value} {mb : Str → Option Value} {rest : List (Addr × Obj)} {d : Addr} {vs : List Value} {c : Nat} {ns : List Int} (P : (Below A₀ base outer h₀) ∧ (Fr h₀ L s.heap m) ∧ ((Mine.ka.heap_1 w.params).In h₀) ∧ (News h₀ L s.heap (((d, listOf vs.toArray c) :: rest))) ∧ (Top p loose mean mg mb h₀) ∧ (cs.kind = .function) ∧ (dp + 2 < 900) ∧ (un + 8 * 2 < 9000) ∧ (IntsAre vs ns) ∧ (ns.length ≤ 100) ∧ (∀ q ∈ rest, q.1 ≠ d) ∧ True)  (h : ∀ (h' : Heap) (tk' : Nat), Fr h₀ L h' m → ∀ (vs' : List Value) (c' : Nat) (ns' : List Int) (a1 : Addr) (tx : Str) (t1 : Tok) (v2 : Value) (r : Int) (sg fl : List Nat) (n : List (Addr × Obj)), (IntsAre vs' ns') → (ns'.length ≤ ns.length) → ((d, listOf vs'.toArray c') ∈ n) → (rest ⊆ n) → ((a1, tupObj [.str tx t1, v2]) ∈ n) → (DueAt v2 n (radixDue r sg fl)) → (tx.cps.toList = headOf r ++ sg ++ fl) → (r ∈ radii) → (sg ∈ ([[], [45], [43]] : List (List Nat))) → (fl.length ≤ 3) → (∀ c ∈ fl, isFigC c) → News h₀ L h' (n) → Q (.ref a1) { s with heap := h', toks := tk' }) :
    wpAny (model PySem.Challenge.rw_ok0058_01.row.prog w) (ktrTop dp un gd cn cs L a ccd cl outer) (call (.ref 352) [.ref d]) Q E s :=
  by
  exact con_use (law_radix_con w p loose mean mg mb rest d vs c ns P.2.2.2.2.2.2.2.2.1 P.2.2.2.2.2.2.2.2.2.1 P.2.2.2.2.2.2.2.2.2.2.1) P.1 P.2.1 P.2.2.1 P.2.2.2.1 P.2.2.2.2.1 P.2.2.2.2.2.1 P.2.2.2.2.2.2.1 P.2.2.2.2.2.2.2.1 (fun v h' tk' n' F' N' r => by obtain ⟨vs', c', ns', a1, tx, t1, v2, r, sg, fl, e, f1, f2, f3, f4, f5, f6, f7, f8, f9, f10, f11⟩ := r; subst e; exact h _ _ F' _ _ _ _ _ _ _ _ _ _ _ f1 f2 f3 f4 f5 f6 f7 f8 f9 f10 f11 N')
end Mine
namespace Mine
set_option maxRecDepth 100000
set_option maxHeartbeats 0
local macro_rules | `(tactic| walk_at "InvEndN") => `(tactic| refine hold ?_)
local macro_rules | `(tactic| ktr_enter) => `(tactic| (refine' code_def ?k1 ?k2 ?k3 ?k4 ?k5 ?kA ?kF ?kK ?k6 ?k7 ?k8 ?k9 ?kB ?_ ?c2 ?c3 ?c4 ?c5; (case kA => exact rfl); (case kF => exact rfl); (case kK => assumption); (case k1 => k_asm); (case k2 => k_asm); (case k3 => k_asm); (case k4 => k_asm); (case k5 => k_asm); (case k6 => k_is); (case k7 => k_is); (case k8 => ktr_room); (case k9 => exact binds_K (by k_in) rfl (by k_is) rfl rfl rfl); (case c5 => decide); (case kB => exact locs rfl); (case c2 => exact rfl); (case c3 => exact rfl); (case c4 => exact rfl); k_whole; intro g' L' h' FG' F' N' B' X' T'; (try dsimp only); (try k_fold)))
noncomputable abbrev entry (P : Params) (n : Str) (t : Tok) (v : Value) : DictEntry := { hash := PyData.keyHash P n, key := .str n t, val := v }
noncomputable abbrev tokD (P : Params) (k1 k2 : Tok) (l : Addr) (p : Int) (tp : Tok) : Obj := dictOf [entry P (Str.ofString "codes") k1 (.ref l), entry P (Str.ofString "place") k2 (.int p tp)] 2
noncomputable abbrev tokL (P : Params) (k1 k2 : Tok) (l : Addr) (p : Int) (tp : Tok) (x dx : Addr) (cv : List Value) (cc : Nat) (rest : List (Addr × Obj)) : List (Addr × Obj) :=
  (dx, tokD P k1 k2 l p tp) :: (x, instObj 306 dx) :: (l, listOf cv.toArray cc) :: rest
noncomputable def codeAt (ns : List Int) (i : Int) : Int := if i < ns.length then ns.getD i.toNat 0 else -1
theorem code_con (w : World) (p : Program) (loose : List Str) (mean : ExcName → Option Value) (mg mb : Str → Option Value) (rest : List (Addr × Obj)) (k1 k2 : Tok) (l x dx : Addr) (pl : Int) (tp : Tok) (cv : List Value) (cc : Nat) (ns : List Int)
    (hI : IntsAre cv ns) (hl : ns.length ≤ 200) (hp0 : 0 ≤ pl) (hp1 : pl ≤ 300) :
   Con w p loose mean mg mb 233 [.ref x] (tokL w.params k1 k2 l pl tp x dx cv cc rest) 1 (fun v news' => (∃ c t, v = .int c t ∧ c = codeAt ns pl) ∧ news' = tokL w.params k1 k2 l pl tp x dx cv cc rest) := by
  unfold Con
  k_fill
  intro dp un gd cn cs a ccd cl outer A₀ base h₀ L m s Q E B F X N T hk hd hu hret
  have hd' : dp < recursionLimit := dep_lim (by assumption)
  refine wpAny_call ?_
  k_dflt ktr_enter
  rename_i g' L' h' FG' F' N' B' X' T'
  generalize s.toks + List.length _ = tk0
  tb_start
  · with_reducible rename Fr h₀ _ _ _ => kF
    with_reducible rename News h₀ _ _ _ => kN
    refine hret _ _ _ _ kF kN ⟨⟨_, _, rfl, ?_⟩, rfl⟩
    unfold codeAt
    with_reducible rename (pl + 0 < _) => h
    rw [Int.add_zero] at h ⊢
    rw [if_pos h]
  · with_reducible rename Fr h₀ _ _ _ => kF
    with_reducible rename News h₀ _ _ _ => kN
    refine hret _ _ _ _ kF kN ⟨⟨_, _, rfl, ?_⟩, rfl⟩
    unfold codeAt
    with_reducible rename ¬ (pl + 0 < _) => h
    rw [Int.add_zero] at h
    rw [if_neg h]
theorem code1_con (w : World) (p : Program) (loose : List Str) (mean : ExcName → Option Value) (mg mb : Str → Option Value) (rest : List (Addr × Obj)) (k1 k2 : Tok) (l x dx : Addr) (pl : Int) (tp : Tok) (cv : List Value) (cc : Nat) (ns : List Int) (ah : Int) (ta : Tok)
    (hI : IntsAre cv ns) (hl : ns.length ≤ 200) (hp0 : 0 ≤ pl) (hp1 : pl ≤ 300) (ha0 : 0 ≤ ah) (ha1 : ah ≤ 10) :
   Con w p loose mean mg mb 233 [.ref x, .int ah ta] (tokL w.params k1 k2 l pl tp x dx cv cc rest) 1 (fun v news' => (∃ c t, v = .int c t ∧ c = codeAt ns (pl + ah)) ∧ news' = tokL w.params k1 k2 l pl tp x dx cv cc rest) := by
  unfold Con
  k_fill
  intro dp un gd cn cs a ccd cl outer A₀ base h₀ L m s Q E B F X N T hk hd hu hret
  have hd' : dp < recursionLimit := dep_lim (by assumption)
  refine wpAny_call ?_
  k_dflt ktr_enter
  rename_i g' L' h' FG' F' N' B' X' T'
  generalize s.toks + List.length _ = tk0
  tb_start
  · with_reducible rename Fr h₀ _ _ _ => kF
    with_reducible rename News h₀ _ _ _ => kN
    refine hret _ _ _ _ kF kN ⟨⟨_, _, rfl, ?_⟩, rfl⟩
    unfold codeAt
    with_reducible rename (pl + ah < _) => h
    rw [if_pos h]
  · with_reducible rename Fr h₀ _ _ _ => kF
    with_reducible rename News h₀ _ _ _ => kN
    refine hret _ _ _ _ kF kN ⟨⟨_, _, rfl, ?_⟩, rfl⟩
    unfold codeAt
    with_reducible rename ¬ (pl + ah < _) => h
    rw [if_neg h]
theorem code1_go {dp un : Nat} {gd : Option (List Code)} {cn : Str} {cs : Scope} {a : Addr} {ccd : Value} {cl : List (Str × Addr)} {outer : List Env} {A₀ : Around} {base h₀ : Heap} {L : Addr} {m : Str → Option Value} {s : Shared} {Q E : Value → Shared → Prop} {w : World} {p : Program} {loose : List Str} {mean : ExcName → Option Value} {mg : Str → Option Value} {mb : Str → Option Value} {rest : List (Addr × Obj)} {k1 : Tok} {k2 : Tok} {l : Addr} {x : Addr} {dx : Addr} {pl : Int} {tp : Tok} {cv : List Value} {cc : Nat} {ns : List Int} {ah : Int} {ta : Tok} (P : (Below A₀ base outer h₀) ∧ (Fr h₀ L s.heap m) ∧ ((Mine.ka.heap_1 w.params).In h₀) ∧ (News h₀ L s.heap ((tokL w.params k1 k2 l pl tp x dx cv cc rest))) ∧ (Top p loose mean mg mb h₀) ∧ (cs.kind = .function) ∧ (dp + 1 < 900) ∧ (un + 8 * 1 < 9000) ∧ (IntsAre cv ns) ∧ (ns.length ≤ 200) ∧ (0 ≤ pl) ∧ (pl ≤ 300) ∧ (0 ≤ ah) ∧ (ah ≤ 10) ∧ True)  (h : ∀ (h' : Heap) (tk' : Nat), Fr h₀ L h' m → ∀ (c : Int) (t : Tok), (c = codeAt ns (pl + ah)) → News h₀ L h' (tokL w.params k1 k2 l pl tp x dx cv cc rest) → Q (.int c t) { s with heap := h', toks := tk' }) :
    wpAny (model PySem.Challenge.rw_ok0058_01.row.prog w) (ktrTop dp un gd cn cs L a ccd cl outer) (call (.ref 233) [.ref x, .int ah ta]) Q E s :=
  by
  exact con_use (code1_con w p loose mean mg mb rest k1 k2 l x dx pl tp cv cc ns ah ta P.2.2.2.2.2.2.2.2.1 P.2.2.2.2.2.2.2.2.2.1 P.2.2.2.2.2.2.2.2.2.2.1 P.2.2.2.2.2.2.2.2.2.2.2.1 P.2.2.2.2.2.2.2.2.2.2.2.2.1 P.2.2.2.2.2.2.2.2.2.2.2.2.2.1) P.1 P.2.1 P.2.2.1 P.2.2.2.1 P.2.2.2.2.1 P.2.2.2.2.2.1 P.2.2.2.2.2.2.1 P.2.2.2.2.2.2.2.1 (fun v h' tk' n' F' N' r => by obtain ⟨⟨c, t, e, f1⟩, q⟩ := r; subst e; subst q; exact h _ _ F' _ _ f1 N')
theorem code_go {dp un : Nat} {gd : Option (List Code)} {cn : Str} {cs : Scope} {a : Addr} {ccd : Value} {cl : List (Str × Addr)} {outer : List Env} {A₀ : Around} {base h₀ : Heap} {L : Addr} {m : Str → Option Value} {s : Shared} {Q E : Value → Shared → Prop} {w : World} {p : Program} {loose : List Str} {mean : ExcName → Option Value} {mg : Str → Option Value} {mb : Str → Option Value} {rest : List (Addr × Obj)} {k1 : Tok} {k2 : Tok} {l : Addr} {x : Addr} {dx : Addr} {pl : Int} {tp : Tok} {cv : List Value} {cc : Nat} {ns : List Int} (P : (Below A₀ base outer h₀) ∧ (Fr h₀ L s.heap m) ∧ ((Mine.ka.heap_1 w.params).In h₀) ∧ (News h₀ L s.heap ((tokL w.params k1 k2 l pl tp x dx cv cc rest))) ∧ (Top p loose mean mg mb h₀) ∧ (cs.kind = .function) ∧ (dp + 1 < 900) ∧ (un + 8 * 1 < 9000) ∧ (IntsAre cv ns) ∧ (ns.length ≤ 200) ∧ (0 ≤ pl) ∧ (pl ≤ 300) ∧ True)  (h : ∀ (h' : Heap) (tk' : Nat), Fr h₀ L h' m → ∀ (c : Int) (t : Tok), (c = codeAt ns pl) → News h₀ L h' (tokL w.params k1 k2 l pl tp x dx cv cc rest) → Q (.int c t) { s with heap := h', toks := tk' }) :
    wpAny (model PySem.Challenge.rw_ok0058_01.row.prog w) (ktrTop dp un gd cn cs L a ccd cl outer) (call (.ref 233) [.ref x]) Q E s :=
  by
  exact con_use (code_con w p loose mean mg mb rest k1 k2 l x dx pl tp cv cc ns P.2.2.2.2.2.2.2.2.1 P.2.2.2.2.2.2.2.2.2.1 P.2.2.2.2.2.2.2.2.2.2.1 P.2.2.2.2.2.2.2.2.2.2.2.1) P.1 P.2.1 P.2.2.1 P.2.2.2.1 P.2.2.2.2.1 P.2.2.2.2.2.1 P.2.2.2.2.2.2.1 P.2.2.2.2.2.2.2.1 (fun v h' tk' n' F' N' r => by obtain ⟨⟨c, t, e, f1⟩, q⟩ := r; subst e; subst q; exact h _ _ F' _ _ f1 N')
end Mine
local macro_rules | `(tactic| walk_at "setAttr ref") => `(tactic| (k_here; k_dflt (refine' set_dict ?k1 ?k2 ?k3 ?k4 ?k5 ?k6 ?k7 ?k8 ?k9 ?k10 ?k11 ?k12 ?k13 ?_; (case k1 => k_asm); (case k2 => k_asm); (case k3 => k_asm); (case k4 => k_inst); (case k5 => exact rfl); (case k6 => k_is); (case k7 => k_is); (case k8 => k_is); (case k9 => k_is); (case k10 => k_get); (case k11 => k_put); (case k12 => first | exact Upd.head (by repeat' (first | assumption | (refine List.forall_mem_cons.mpr ⟨by k_ne, ?_⟩))) | exact Upd.tail (by k_ne) (Upd.head (by repeat' (first | assumption | (refine List.forall_mem_cons.mpr ⟨by k_ne, ?_⟩)))) | exact Upd.tail (by k_ne) (Upd.tail (by k_ne) (Upd.head (by repeat' (first | assumption | (refine List.forall_mem_cons.mpr ⟨by k_ne, ?_⟩))))) | exact Upd.tail (by k_ne) (Upd.tail (by k_ne) (Upd.tail (by k_ne) (Upd.head (by repeat' (first | assumption | (refine List.forall_mem_cons.mpr ⟨by k_ne, ?_⟩))))))); (case k13 => exact Nat.le_of_ble_eq_true rfl); k_whole; intro h' F' N'; (try k_sweep))))
namespace Mine
set_option maxRecDepth 100000
set_option maxHeartbeats 0
local macro_rules | `(tactic| walk_at "InvEndN") => `(tactic| refine hold ?_)
local macro_rules | `(tactic| walk_at "call ref") => `(tactic| (k_here; k_dflt (refine' code1_go ?k1 ?_; (case k1 => keq_rows); rotate_right 1; intros)))
local macro_rules | `(tactic| walk_at "call ref") => `(tactic| (k_here; k_dflt (refine' code_go ?k1 ?_; (case k1 => keq_rows); rotate_right 1; intros)))

theorem code_cases {ns : List Int} {j : Int} (hj : 0 ≤ j) (hn : ∀ c ∈ ns, 0 ≤ c) :
    (j < ns.length ∧ 0 ≤ codeAt ns j ∧ ns.drop j.toNat = codeAt ns j :: ns.drop (j + 1).toNat) ∨ (ns.length ≤ j ∧ codeAt ns j = -1 ∧ ns.drop j.toNat = []) := by
  unfold codeAt
  by_cases h : j < ns.length
  · left
    rw [if_pos h]
    have hl : j.toNat < ns.length := by omega
    refine ⟨h, hn _ ?_, ?_⟩
    · simp [List.getD, hl]
    · rw [List.drop_eq_getElem_cons hl, show (j + 1).toNat = j.toNat + 1 by omega]
      simp [List.getD, hl]
  · right
    rw [if_neg h]
    exact ⟨by omega, rfl, List.drop_eq_nil_of_le (by omega)⟩
noncomputable def lineLen : List Int → Nat
  | [] => 0
  | c :: r => if c = 10 then 0 else lineLen r + 1
theorem ends_is (r : Int) : ([-1, 10].any fun x => x == r) = decide (r = -1 ∨ r = 10) := by
  show (decide ((-1 : Int) = r) || (decide ((10 : Int) = r) || false)) = _
  rw [Bool.or_false, show decide ((-1 : Int) = r) = decide (r = -1) from decide_eq_decide.mpr eq_comm, show decide ((10 : Int) = r) = decide (r = 10) from decide_eq_decide.mpr eq_comm]
  simp
theorem skip_line_con (w : World) (p : Program) (loose : List Str) (mean : ExcName → Option Value) (mg mb : Str → Option Value) (rest : List (Addr × Obj)) (k1 k2 : Tok) (l x dx : Addr) (pl : Int) (tp : Tok) (cv : List Value) (cc : Nat) (ns : List Int)
    (hI : IntsAre cv ns) (hl : ns.length ≤ 200) (hp0 : 0 ≤ pl) (hp1 : pl ≤ ns.length) (hn : ∀ c ∈ ns, 0 ≤ c) (o1 : @LT.lt Nat _ l dx) (o2 : @LT.lt Nat _ dx x) (hr : ∀ q ∈ rest, q.1 ≠ dx) :
   Con w p loose mean mg mb 240 [.ref x] (tokL w.params k1 k2 l pl tp x dx cv cc rest) 2 (fun v news' => v = .none ∧ ∃ (pl' : Int) (tp' : Tok), news' = tokL w.params k1 k2 l pl' tp' x dx cv cc rest ∧ pl' = pl + lineLen (ns.drop pl.toNat) ∧ pl' ≤ ns.length) := by
  unfold Con
  k_fill
  intro dp un gd cn cs a ccd cl outer A₀ base h₀ L m s Q E B F X N T hk hd hu hret
  have hd' : dp < recursionLimit := dep_lim (by assumption)
  refine wpAny_call ?_
  k_dflt ktr_enter
  rename_i g' L' h' FG' F' N' B' X' T'
  replace F' : Fr g' L' h' (fun y => List.lookup y [(Str.ofString "self", .ref x)]) := F'
  refine wpAny_execs_cons ?_
  refine While_inv2 (n₀ := (ns.length - pl).toNat) (fun k m1 news1 => ∃ (j : Int) (t1 : Tok), news1 = tokL w.params k1 k2 l j t1 x dx cv cc rest ∧ Has m1 [(Str.ofString "self", .ref x)] ∧ pl ≤ j ∧ j ≤ ns.length ∧ (k : Int) + j = ns.length ∧ j + lineLen (ns.drop j.toNat) = pl + lineLen (ns.drop pl.toNat)) F' N' ⟨pl, tp, rfl, .cons rfl .nil, Int.le_refl _, hp1, by omega, rfl⟩ ?_ (by passes_own)
  rintro k m1 news1 h1 tk1 F1 N1 ⟨j, t1, rfl, hm, hj0, hj1, hjk, hj⟩
  rw [hm.see] at F1
  have hj00 : 0 ≤ j := by omega
  have hj200 : j ≤ 300 := by omega
  tb_start
  · with_reducible rename Fr h₀ _ _ _ => kF
    with_reducible rename News h₀ _ _ _ => kN
    with_reducible rename _ = codeAt ns j => hc
    with_reducible rename (_ = true) => he
    rw [ends_is, decide_eq_true_eq, hc] at he
    refine hret _ _ _ _ kF (news_tail kN) ⟨rfl, j, t1, rfl, ?_, hj1⟩
    rw [← hj]
    rcases code_cases hj00 hn with ⟨a1, a2, a3⟩ | ⟨a1, a2, a3⟩
    · rw [a3, lineLen, if_pos (by omega)]; simp
    · rw [a3]; simp [lineLen]
  · with_reducible rename Fr g' _ _ _ => F2
    with_reducible rename News g' _ _ _ => N2
    with_reducible rename _ = codeAt ns j => hc
    with_reducible rename (_ = false) => he
    rw [ends_is, decide_eq_false_iff_not, hc] at he
    rcases code_cases hj00 hn with ⟨a1, a2, a3⟩ | ⟨a1, a2, a3⟩
    · rw [a3, lineLen, if_neg (by omega)] at hj
      refine ⟨_, _, _, _, k - 1, rfl, F2, news_tail N2, by omega, j + 1, _, rfl, .cons rfl .nil, by omega, by omega, by omega, by omega⟩
    · omega
theorem skip_line_go {dp un : Nat} {gd : Option (List Code)} {cn : Str} {cs : Scope} {a : Addr} {ccd : Value} {cl : List (Str × Addr)} {outer : List Env} {A₀ : Around} {base h₀ : Heap} {L : Addr} {m : Str → Option Value} {s : Shared} {Q E : Value → Shared → Prop} {w : World} {p : Program} {loose : List Str} {mean : ExcName → Option Value} {mg : Str → Option Value} {mb : Str → Option Value} {rest : List (Addr × Obj)} {k1 : Tok} {k2 : Tok} {l : Addr} {x : Addr} {dx : Addr} {pl : Int} {tp : Tok} {cv : List Value} {cc : Nat} {ns : List Int} (P : (Below A₀ base outer h₀) ∧ (Fr h₀ L s.heap m) ∧ ((Mine.ka.heap_1 w.params).In h₀) ∧ (News h₀ L s.heap ((tokL w.params k1 k2 l pl tp x dx cv cc rest))) ∧ (Top p loose mean mg mb h₀) ∧ (cs.kind = .function) ∧ (dp + 2 < 900) ∧ (un + 8 * 2 < 9000) ∧ (IntsAre cv ns) ∧ (ns.length ≤ 200) ∧ (0 ≤ pl) ∧ (pl ≤ ns.length) ∧ (∀ c ∈ ns, 0 ≤ c) ∧ (@LT.lt Nat _ l dx) ∧ (@LT.lt Nat _ dx x) ∧ (∀ q ∈ rest, q.1 ≠ dx) ∧ True)  (h : ∀ (h' : Heap) (tk' : Nat), Fr h₀ L h' m → ∀ (pl' : Int) (tp' : Tok), (pl' = pl + lineLen (ns.drop pl.toNat)) → (pl' ≤ ns.length) → News h₀ L h' (tokL w.params k1 k2 l pl' tp' x dx cv cc rest) → Q (.none) { s with heap := h', toks := tk' }) :
    wpAny (model PySem.Challenge.rw_ok0058_01.row.prog w) (ktrTop dp un gd cn cs L a ccd cl outer) (call (.ref 240) [.ref x]) Q E s :=
  by
  exact con_use (skip_line_con w p loose mean mg mb rest k1 k2 l x dx pl tp cv cc ns P.2.2.2.2.2.2.2.2.1 P.2.2.2.2.2.2.2.2.2.1 P.2.2.2.2.2.2.2.2.2.2.1 P.2.2.2.2.2.2.2.2.2.2.2.1 P.2.2.2.2.2.2.2.2.2.2.2.2.1 P.2.2.2.2.2.2.2.2.2.2.2.2.2.1 P.2.2.2.2.2.2.2.2.2.2.2.2.2.2.1 P.2.2.2.2.2.2.2.2.2.2.2.2.2.2.2.1) P.1 P.2.1 P.2.2.1 P.2.2.2.1 P.2.2.2.2.1 P.2.2.2.2.2.1 P.2.2.2.2.2.2.1 P.2.2.2.2.2.2.2.1 (fun v h' tk' n' F' N' r => by obtain ⟨e, pl', tp', q, f1, f2⟩ := r; subst e; subst q; exact h _ _ F' _ _ f1 f2 N')
local macro_rules | `(tactic| walk_at "call ref") => `(tactic| (k_here; k_dflt (refine' skip_line_go ?k1 ?_; (case k1 => keq_rows); rotate_right 1; intros)))

theorem head_code {ns : List Int} {j : Int} (hj : 0 ≤ j) (hn : ∀ c ∈ ns, 0 ≤ c) : (ns.drop j.toNat).head? = some 33 ↔ codeAt ns j = 33 := by
  rcases code_cases hj hn with ⟨a1, a2, a3⟩ | ⟨a1, a2, a3⟩
  · rw [a3]; simp
  · rw [a3, a2]; simp
noncomputable def isLine (c : Int) (r : List Int) : Prop := c = 59 ∨ (c = 35 ∧ r.head? = some 33)
inductive Skips (ns : List Int) : Nat → Nat → Prop
  | stop {i : Nat} (h : ∀ c r, ns.drop i = c :: r → ¬ isLine c r ∧ ¬ (c ≤ 32 ∨ c = 160)) : Skips ns i i
  | line {i j : Nat} {c : Int} {r : List Int} (e : ns.drop i = c :: r) (h : isLine c r) (k : Skips ns (i + lineLen (c :: r)) j) : Skips ns i j
  | blank {i j : Nat} {c : Int} {r : List Int} (e : ns.drop i = c :: r) (h : ¬ isLine c r) (h2 : c ≤ 32 ∨ c = 160) (k : Skips ns (i + 1) j) : Skips ns i j
theorem sb_next {k n : Nat} {j : Int} (hj0 : 0 ≤ j) (hjk : (k : Int) + j = n) (hlt : j < n) : k - 1 < k ∧ 0 ≤ j + 1 ∧ j + 1 ≤ n ∧ ((k - 1 : Nat) : Int) + (j + 1) = n ∧ j.toNat + 1 = (j + 1).toNat := by omega
theorem sb_line {k n m : Nat} {j pl' : Int} (hj0 : 0 ≤ j) (hjk : (k : Int) + j = n) (hm : 1 ≤ m) (hpl : pl' = j + m) (hle : pl' ≤ n) : k - m < k ∧ 0 ≤ pl' ∧ pl' ≤ n ∧ ((k - m : Nat) : Int) + pl' = n ∧ j.toNat + m = (j + m).toNat := by omega
theorem skip_blanks_con (w : World) (p : Program) (loose : List Str) (mean : ExcName → Option Value) (mg mb : Str → Option Value) (rest : List (Addr × Obj)) (k1 k2 : Tok) (l x dx : Addr) (pl : Int) (tp : Tok) (cv : List Value) (cc : Nat) (ns : List Int)
    (hI : IntsAre cv ns) (hl : ns.length ≤ 200) (hp0 : 0 ≤ pl) (hp1 : pl ≤ ns.length) (hn : ∀ c ∈ ns, 0 ≤ c) (o1 : @LT.lt Nat _ l dx) (o2 : @LT.lt Nat _ dx x) (hr : ∀ q ∈ rest, q.1 ≠ dx) :
   Con w p loose mean mg mb 247 [.ref x] (tokL w.params k1 k2 l pl tp x dx cv cc rest) 3 (fun v news' => v = .none ∧ ∃ (pl' : Int) (tp' : Tok), news' = tokL w.params k1 k2 l pl' tp' x dx cv cc rest ∧ Skips ns pl.toNat pl'.toNat ∧ 0 ≤ pl' ∧ pl' ≤ ns.length) := by
  unfold Con
  k_fill
  intro dp un gd cn cs a ccd cl outer A₀ base h₀ L m s Q E B F X N T hk hd hu hret
  have hd' : dp < recursionLimit := dep_lim (by assumption)
  refine wpAny_call ?_
  k_dflt ktr_enter
  rename_i g' L' h' FG' F' N' B' X' T'
  replace F' : Fr g' L' h' (fun y => List.lookup y [(Str.ofString "self", .ref x)]) := F'
  refine wpAny_execs_cons ?_
  refine While_inv2 (n₀ := (ns.length - pl).toNat) (fun k m1 news1 => ∃ (j : Int) (t1 : Tok), news1 = tokL w.params k1 k2 l j t1 x dx cv cc rest ∧ Has m1 [(Str.ofString "self", .ref x)] ∧ 0 ≤ j ∧ j ≤ ns.length ∧ (k : Int) + j = ns.length ∧ ∀ e, Skips ns j.toNat e → Skips ns pl.toNat e) F' N' ⟨pl, tp, rfl, .cons rfl .nil, hp0, hp1, by omega, fun _ h => h⟩ ?_ (by passes_own)
  rintro k m1 news1 h1 tk1 F1 N1 ⟨j, t1, rfl, hm, hj0, hj1, hjk, hj⟩
  rw [hm.see] at F1
  have hj200 : j ≤ 300 := by omega
  tb_start
  rotate_left 3
  (dsimp only; unfold WhileStep2; dsimp only; tb_start)
  rotate_left 3
  (dsimp only; unfold WhileStep2; dsimp only; tb_start)
  all_goals
    (repeat (with_reducible rename (_ = codeAt ns _) => e9; subst e9))
    rcases code_cases hj0 hn with ⟨a1, a2, a3⟩ | ⟨a1, a2, a3⟩
    all_goals try (exfalso; omega)
    all_goals have hh := head_code (ns := ns) (j := j + 1) (by omega) hn
  all_goals first
    | (with_reducible rename Fr h₀ _ _ _ => kF
       with_reducible rename News h₀ _ _ _ => kN
       exact hret _ _ _ _ kF kN ⟨rfl, j, t1, rfl, hj _ (.stop fun c r e => by
         rw [a3] at e
         first
           | (cases e
              refine ⟨fun z => ?_, by omega⟩
              rcases z with z | ⟨z, z2⟩
              · omega
              · have := hh.mp z2
                omega)
           | cases e), hj0, hj1⟩)
    | (with_reducible rename Fr g' _ _ _ => F2
       with_reducible rename News g' _ _ _ => N2
       with_reducible rename (_ = j + _) => hpl
       have hll : 1 ≤ lineLen (ns.drop j.toNat) := by rw [a3, lineLen, if_neg (by omega)]; omega
       obtain ⟨q1, q2, q3, q4, q5⟩ := sb_line hj0 hjk hll hpl (by assumption)
       refine ⟨_, _, _, _, (k - lineLen (ns.drop j.toNat)), rfl, F2, N2, q1, _, _, rfl, .cons rfl .nil, q2, q3, q4, fun e h => hj e (.line a3 ?_ ?_)⟩
       · first
           | exact .inl (by omega)
           | exact .inr ⟨by omega, hh.mpr (by omega)⟩
       · rw [hpl] at h
         rw [← a3, q5]
         exact h)
    | (with_reducible rename Fr g' _ _ _ => F2
       with_reducible rename News g' _ _ _ => N2
       obtain ⟨q1, q2, q3, q4, q5⟩ := sb_next hj0 hjk a1
       refine ⟨_, _, _, _, k - 1, rfl, F2, N2, q1, j + 1, _, rfl, .cons rfl .nil, q2, q3, q4, fun e h => hj e (.blank a3 ?_ (by omega) ?_)⟩
       · intro z
         rcases z with z | ⟨z, z2⟩
         · omega
         · have := hh.mp z2
           omega
       · rw [q5]
         exact h)
theorem skip_blanks_go {dp un : Nat} {gd : Option (List Code)} {cn : Str} {cs : Scope} {a : Addr} {ccd : Value} {cl : List (Str × Addr)} {outer : List Env} {A₀ : Around} {base h₀ : Heap} {L : Addr} {m : Str → Option Value} {s : Shared} {Q E : Value → Shared → Prop} {w : World} {p : Program} {loose : List Str} {mean : ExcName → Option Value} {mg : Str → Option Value} {mb : Str → Option Value} {rest : List (Addr × Obj)} {k1 : Tok} {k2 : Tok} {l : Addr} {x : Addr} {dx : Addr} {pl : Int} {tp : Tok} {cv : List Value} {cc : Nat} {ns : List Int} (P : (Below A₀ base outer h₀) ∧ (Fr h₀ L s.heap m) ∧ ((Mine.ka.heap_1 w.params).In h₀) ∧ (News h₀ L s.heap ((tokL w.params k1 k2 l pl tp x dx cv cc rest))) ∧ (Top p loose mean mg mb h₀) ∧ (cs.kind = .function) ∧ (dp + 3 < 900) ∧ (un + 8 * 3 < 9000) ∧ (IntsAre cv ns) ∧ (ns.length ≤ 200) ∧ (0 ≤ pl) ∧ (pl ≤ ns.length) ∧ (∀ c ∈ ns, 0 ≤ c) ∧ (@LT.lt Nat _ l dx) ∧ (@LT.lt Nat _ dx x) ∧ (∀ q ∈ rest, q.1 ≠ dx) ∧ True)  (h : ∀ (h' : Heap) (tk' : Nat), Fr h₀ L h' m → ∀ (pl' : Int) (tp' : Tok), (Skips ns pl.toNat pl'.toNat) → (0 ≤ pl') → (pl' ≤ ns.length) → News h₀ L h' (tokL w.params k1 k2 l pl' tp' x dx cv cc rest) → Q (.none) { s with heap := h', toks := tk' }) :
    wpAny (model PySem.Challenge.rw_ok0058_01.row.prog w) (ktrTop dp un gd cn cs L a ccd cl outer) (call (.ref 247) [.ref x]) Q E s :=
  by
  exact con_use (skip_blanks_con w p loose mean mg mb rest k1 k2 l x dx pl tp cv cc ns P.2.2.2.2.2.2.2.2.1 P.2.2.2.2.2.2.2.2.2.1 P.2.2.2.2.2.2.2.2.2.2.1 P.2.2.2.2.2.2.2.2.2.2.2.1 P.2.2.2.2.2.2.2.2.2.2.2.2.1 P.2.2.2.2.2.2.2.2.2.2.2.2.2.1 P.2.2.2.2.2.2.2.2.2.2.2.2.2.2.1 P.2.2.2.2.2.2.2.2.2.2.2.2.2.2.2.1) P.1 P.2.1 P.2.2.1 P.2.2.2.1 P.2.2.2.2.1 P.2.2.2.2.2.1 P.2.2.2.2.2.2.1 P.2.2.2.2.2.2.2.1 (fun v h' tk' n' F' N' r => by obtain ⟨e, pl', tp', q, f1, f2, f3⟩ := r; subst e; subst q; exact h _ _ F' _ _ f1 f2 f3 N')
end Mine
section SA
local macro_rules | `(tactic| walk_at "call ref") => `(tactic| (k_here; k_dflt (refine' Mine.code_go ?k1 ?_; (case k1 => keq_rows); rotate_right 1; intros)))
namespace Mine
set_option maxRecDepth 100000
set_option maxHeartbeats 0
local macro_rules | `(tactic| walk_at "InvEndN") => `(tactic| refine hold ?_)

theorem sign_of_con (w : World) (p : Program) (loose : List Str) (mean : ExcName → Option Value) (mg mb : Str → Option Value) (news : List (Addr × Obj)) (c pl : Int) (t u : Tok) (h0 : 0 ≤ c) (h1 : c < 55296) :
   Con w p loose mean mg mb 211 [.int c t, .int pl u] news 1 (fun v news' => (∃ t', v = .str ⟨#[c.toNat]⟩ t') ∧ news' = news) := by
  unfold Con
  k_fill
  intro dp un gd cn cs a ccd cl outer A₀ base h₀ L m s Q E B F X N T hk hd hu hret
  have hd' : dp < recursionLimit := dep_lim (by assumption)
  refine wpAny_call ?_
  k_dflt ktr_enter
  rename_i g' L' h' FG' F' N' B' X' T'
  generalize s.toks + List.length _ = tk0
  tb_start
  with_reducible rename Fr h₀ _ _ _ => kF
  with_reducible rename News h₀ _ _ _ => kN
  exact hret _ _ _ _ kF kN ⟨⟨_, rfl⟩, rfl⟩
theorem sign_of_go {dp un : Nat} {gd : Option (List Code)} {cn : Str} {cs : Scope} {a : Addr} {ccd : Value} {cl : List (Str × Addr)} {outer : List Env} {A₀ : Around} {base h₀ : Heap} {L : Addr} {m : Str → Option Value} {s : Shared} {Q E : Value → Shared → Prop} {w : World} {p : Program} {loose : List Str} {mean : ExcName → Option Value} {mg : Str → Option Value} {mb : Str → Option Value} {news : List (Addr × Obj)} {c : Int} {pl : Int} {t : Tok} {u : Tok} (P : (Below A₀ base outer h₀) ∧ (Fr h₀ L s.heap m) ∧ ((Mine.ka.heap_1 w.params).In h₀) ∧ (News h₀ L s.heap (news)) ∧ (Top p loose mean mg mb h₀) ∧ (cs.kind = .function) ∧ (dp + 1 < 900) ∧ (un + 8 * 1 < 9000) ∧ (0 ≤ c) ∧ (c < 55296) ∧ True)  (h : ∀ (h' : Heap) (tk' : Nat), Fr h₀ L h' m → ∀ (t' : Tok), News h₀ L h' (news) → Q (.str ⟨#[c.toNat]⟩ t') { s with heap := h', toks := tk' }) :
    wpAny (model PySem.Challenge.rw_ok0058_01.row.prog w) (ktrTop dp un gd cn cs L a ccd cl outer) (call (.ref 211) [.int c t, .int pl u]) Q E s :=
  by
  exact con_use (sign_of_con w p loose mean mg mb news c pl t u P.2.2.2.2.2.2.2.2.1 P.2.2.2.2.2.2.2.2.2.1) P.1 P.2.1 P.2.2.1 P.2.2.2.1 P.2.2.2.2.1 P.2.2.2.2.2.1 P.2.2.2.2.2.2.1 P.2.2.2.2.2.2.2.1 (fun v h' tk' n' F' N' r => by obtain ⟨⟨t', e⟩, q⟩ := r; subst e; subst q; exact h _ _ F' _ N')
local macro_rules | `(tactic| walk_at "call ref") => `(tactic| (k_here; k_dflt (refine' sign_of_go ?k1 ?_; (case k1 => keq_rows); rotate_right 1; intros)))
local macro_rules | `(tactic| walk_at "call ref") => `(tactic| (k_here; k_dflt (refine' is_break_go ?k1 ?_; (case k1 => keq_rows); rotate_right 1; intros)))
local macro_rules | `(tactic| walk_at "call builtin:list.append") => `(tactic| (k_here; k_dflt (refine' append_K ?k1 ?k2 ?k3 ?_ ?z; (case k1 => k_asm); (case k2 => k_asm); (case k3 => first | exact Upd.head (by repeat' (first | assumption | (refine List.forall_mem_cons.mpr ⟨by k_ne, ?_⟩))) | exact Upd.tail (by k_ne) (Upd.head (by repeat' (first | assumption | (refine List.forall_mem_cons.mpr ⟨by k_ne, ?_⟩)))) | exact Upd.tail (by k_ne) (Upd.tail (by k_ne) (Upd.head (by repeat' (first | assumption | (refine List.forall_mem_cons.mpr ⟨by k_ne, ?_⟩))))) | exact Upd.tail (by k_ne) (Upd.tail (by k_ne) (Upd.tail (by k_ne) (Upd.head (by repeat' (first | assumption | (refine List.forall_mem_cons.mpr ⟨by k_ne, ?_⟩))))))); (case z => assumption); k_whole); intro h' F' N'; (try k_sweep)))

noncomputable def isS (c : Nat) (v : Value) : Prop := ∃ t, v = .str ⟨#[c]⟩ t
theorem news_rot {h₀ h : Heap} {L : Addr} {f a b c : Addr × Obj} {r : List (Addr × Obj)} (N : News h₀ L h (f :: a :: b :: c :: r)) : News h₀ L h (a :: b :: c :: f :: r) := news_sub N fun p hp => by
  simp only [List.mem_cons] at hp ⊢
  rcases hp with h | h | h | h | h <;> simp [h]
theorem codeAt_of {ns : List Int} {j : Int} {c : Int} {r : List Int} (hj : 0 ≤ j) (h : ns.drop j.toNat = c :: r) : codeAt ns j = c ∧ j < ns.length ∧ ns.drop (j + 1).toNat = r := by
  have hl : j.toNat < ns.length := by
    rcases Nat.lt_or_ge j.toNat ns.length with h1 | h1
    · exact h1
    · rw [List.drop_eq_nil_of_le h1] at h; cases h
  rw [List.drop_eq_getElem_cons hl] at h
  have h2 := List.cons.inj h
  refine ⟨?_, by omega, ?_⟩
  · unfold codeAt
    rw [if_pos (by omega), ← h2.1]
    simp [List.getD, hl]
  · rw [show (j + 1).toNat = j.toNat + 1 by omega]; exact h2.2
theorem codeAt_end {ns : List Int} {j : Int} (hj : 0 ≤ j) (h : ns.drop j.toNat = []) : codeAt ns j = -1 := by
  unfold codeAt
  have := List.drop_eq_nil_iff.mp h
  rw [if_neg (by omega)]
theorem joined (e : Str) (he : e.cps.toList = []) : ∀ l : List (Bool × Nat), (Str.join e (l.map fun i => (⟨#[i.2]⟩ : Str))).cps.toList = l.map (·.2)
  | [] => rfl
  | [i] => rfl
  | i :: k :: r => by
    have h := joined e he (k :: r)
    show ((⟨#[i.2]⟩ : Str) ++ e ++ Str.join e ((k :: r).map fun i => (⟨#[i.2]⟩ : Str))).cps.toList = _
    rw [app_list, app_list, he, h]
    rfl
theorem join_cps (l : List (Bool × Nat)) : (Txt.join (Str.ofString "") (l.map fun i => (⟨#[i.2]⟩ : Str))).cps.toList = l.map (·.2) := by
  show (Builtin.Str.glued (Str.ofString "") _).cps.toList = _
  rw [StrLaws.glued_eq_join]
  exact joined _ empty_is l
theorem news_drop5 {h₀ h : Heap} {L : Addr} {d a b c f : Addr × Obj} {r : List (Addr × Obj)} (N : News h₀ L h (d :: a :: b :: c :: f :: r)) : News h₀ L h (d :: a :: b :: c :: r) := news_sub N fun p hp => by
  simp only [List.mem_cons] at hp ⊢
  rcases hp with h | h | h | h | h <;> simp [h]
theorem allLt_ne {d : Addr} (r : List (Addr × Obj)) (h : AllLt d r) : ∀ q ∈ r, q.1 ≠ d := by
  induction r with
  | nil => exact fun q hq => (nomatch hq)
  | cons p r ih =>
    intro q hq
    rcases List.mem_cons.mp hq with e | e
    · subst e; exact fun z => Nat.lt_irrefl _ (z ▸ h.1 : @LT.lt Nat _ d d)
    · exact ih h.2 q e
theorem enc_len (l : List (Bool × Nat)) : l.length ≤ (enc l).length := by
  induction l with
  | nil => exact Nat.le_refl _
  | cons i r ih => obtain ⟨b, c⟩ := i; cases b <;> simp only [enc, List.length_cons] <;> omega
local macro_rules | `(tactic| walk_at "exec If") => `(tactic| refine hold ?_)
local macro_rules | `(tactic| walk_at "eval Call") => `(tactic| k_dflt (refine Call_ ?_))
local macro_rules | `(tactic| walk_at "call builtin:str.join") => `(tactic| refine hold ?_)
theorem name_con (w : World) (p : Program) (loose : List Str) (mean : ExcName → Option Value) (mg mb : Str → Option Value) (rest : List (Addr × Obj)) (k1 k2 : Tok) (l x dx : Addr) (pl : Int) (tp : Tok) (cv : List Value) (cc : Nat) (ns : List Int)
    (hI : IntsAre cv ns) (hl : ns.length ≤ 200) (hp0 : 0 ≤ pl) (hp1 : pl ≤ ns.length) (hn : ∀ c ∈ ns, 0 ≤ c) (o1 : @LT.lt Nat _ l dx) (o2 : @LT.lt Nat _ dx x) (hr : ∀ q ∈ rest, q.1 ≠ dx)
    (its : List (Bool × Nat)) (stop : List Int) (hits : ∀ i ∈ its, ItOk i) (hdr : ns.drop pl.toNat = (enc its).map (fun (c : Nat) => (c : Int)) ++ stop) (hstop : ∀ c r, stop = c :: r → isBreak c = true) :
   Con w p loose mean mg mb 275 [.ref x] (tokL w.params k1 k2 l pl tp x dx cv cc rest) 2 (fun v news' => ∃ (a : Addr) (nm : Str) (t1 : Tok) (pl' : Int) (tp' : Tok), v = .ref a ∧ news' = (a, tupObj [.str nm t1, .bool (its.any (·.1))]) :: tokL w.params k1 k2 l pl' tp' x dx cv cc rest ∧ nm.cps.toList = its.map (·.2) ∧ pl' = pl + (enc its).length) := by
  unfold Con
  k_fill
  intro dp un gd cn cs a ccd cl outer A₀ base h₀ L m s Q E B F X N T hk hd hu hret
  have hd' : dp < recursionLimit := dep_lim (by assumption)
  refine wpAny_call ?_
  k_dflt ktr_enter
  rename_i g' L' h' FG' F' N' B' X' T'
  replace F' : Fr g' L' h' (fun y => List.lookup y [(Str.ofString "self", .ref x)]) := F'
  generalize s.toks + List.length _ = tk0
  tb_start
  refine unhold ?_
  with_reducible rename Fr g' _ _ _ => F1
  with_reducible rename News g' _ _ _ => N1
  with_reducible rename (_ ∧ _ ∧ _ ∧ AllLt _ rest) => l1
  rename_i fa ha hb hc
  obtain ⟨l1a, l1b, l1c, l1d⟩ := l1
  refine While_inv2 (n₀ := its.length) (fun k m1 news1 => ∃ (done todo : List (Bool × Nat)) (vals : List Value) (cnt : Nat) (j : Int) (t1 : Tok), its = done ++ todo ∧ news1 = tokL w.params k1 k2 l j t1 x dx cv cc ((fa, listOf vals.toArray cnt) :: rest) ∧ Has m1 [(Str.ofString "self", .ref x), (Str.ofString "found", .ref fa), (Str.ofString "is_quoted", .bool (done.any (·.1)))] ∧ CarriedAll vals (done.map fun i => PyData.str ⟨#[i.2]⟩) ∧ ns.drop j.toNat = (enc todo).map (fun (c : Nat) => (c : Int)) ++ stop ∧ 0 ≤ j ∧ j ≤ ns.length ∧ j = pl + (enc done).length ∧ k = todo.length) F1 (news_rot N1) ⟨[], its, [], 0, pl, tp, rfl, rfl, .cons rfl (.cons rfl (.cons rfl .nil)), .nil, hdr, hp0, hp1, by simp [enc], rfl⟩ ?_ (by passes_own)
  rintro k m1 news1 h1 tk1 F2 N2 ⟨done, todo, vals, cnt, j, t1, hits2, rfl, hm, hcar, hdr, hj0, hj1, hjp, hk2⟩
  rw [hm.see] at F2
  have hj200 : j ≤ 300 := by omega
  have hvl : vals.toArray.size ≤ sizeLine := by
    have h1 := enc_len done
    have h2 := hcar.length_eq
    rw [List.length_map] at h2
    rw [sizeLine_eq]
    simp only [List.size_toArray]
    omega
  have hrf : ∀ q ∈ rest, q.1 ≠ fa := allLt_ne rest l1d
  cases todo with
  | nil =>
    have hend : codeAt ns j = -1 ∨ isBreak (codeAt ns j) = true := by
      cases hs : stop with
      | nil => left; exact codeAt_end hj0 (by rw [hdr, hs]; rfl)
      | cons c r => right; rw [(codeAt_of hj0 (by rw [hdr, hs]; rfl)).1]; exact hstop c r hs
    rw [List.append_nil] at hits2
    have hlen : its.length ≤ 300 := by have := enc_len its; rw [hits2] at this ⊢; omega
    rw [← hits2] at hcar hjp
    tb_start
    · refine unhold ?_
      with_reducible rename News g' _ _ _ => N3
      refine KT.join_1 (l := its) (g := fun i => (⟨#[i.2]⟩ : Str)) (News.isList N3 (by k_mem)) hcar (fun _ _ => rfl) (by omega) ?_
      intro t' k' hlen'
      tb_start
      with_reducible rename Fr h₀ _ _ _ => kF
      with_reducible rename News h₀ _ _ _ => kN
      rw [← hits2] at kN
      exact hret _ _ _ _ kF (news_drop5 kN) ⟨_, _, _, j, t1, rfl, rfl, join_cps its, hjp⟩
    · exfalso
      with_reducible rename (isBreak _ = false) => hb
      with_reducible rename (_ ≠ (-1 : Int)) => hm1
      rcases hend with e | e
      · omega
      · with_reducible rename (_ = codeAt ns j) => hc
        rw [hc, e] at hb
        cases hb
    · refine unhold ?_
      with_reducible rename News g' _ _ _ => N3
      refine KT.join_1 (l := its) (g := fun i => (⟨#[i.2]⟩ : Str)) (News.isList N3 (by k_mem)) hcar (fun _ _ => rfl) (by omega) ?_
      intro t' k' hlen'
      tb_start
      with_reducible rename Fr h₀ _ _ _ => kF
      with_reducible rename News h₀ _ _ _ => kN
      rw [← hits2] at kN
      exact hret _ _ _ _ kF (news_drop5 kN) ⟨_, _, _, j, t1, rfl, rfl, join_cps its, hjp⟩
  | cons i todo =>
    obtain ⟨ib, ic⟩ := i
    have hok := hits (ib, ic) (by rw [hits2]; simp)
    obtain ⟨hc128, hplain⟩ := hok
    cases ib with
    | true =>
      obtain ⟨hA1, hA2, hA3⟩ : codeAt ns j = (92 : Int) ∧ j < ns.length ∧ ns.drop (j + 1).toNat = (ic : Int) :: ((enc todo).map (fun (c : Nat) => (c : Int)) ++ stop) := codeAt_of hj0 hdr
      obtain ⟨hB1, hB2, hB3⟩ : codeAt ns (j + 1) = (ic : Int) ∧ j + 1 < ns.length ∧ ns.drop (j + 1 + 1).toNat = (enc todo).map (fun (c : Nat) => (c : Int)) ++ stop := codeAt_of (j := j + 1) (by omega) hA3
      replace hc128 : ic < 128 := hc128
      tb_start
      rotate_left 1
      · refine unhold ?_
        refine wpAny_If ?_
        tb_start
        · refine unhold ?_
          refine wpAny_If ?_
          tb_start
          · exfalso; omega
          · with_reducible rename Fr g' _ _ _ => F4
            with_reducible rename News g' _ _ _ => N4
            with_reducible rename (_ = codeAt ns (j + 1)) => hc9
            rw [hc9, hB1, List.push_toArray] at N4
            refine ⟨_, _, _, _, todo.length, rfl, F4, N4, by rw [hk2]; exact Nat.lt_succ_self _, done ++ [(true, ic)], todo, vals ++ [_], cnt + 1, _, _, by rw [hits2, List.append_assoc]; rfl, rfl, .cons rfl (.cons rfl (.cons (by rw [show (done ++ [(true, ic)]).any (·.1) = true by simp]; rfl) .nil)), ?_, hB3, by omega, by omega, ?_, rfl⟩
            · rw [List.map_append]
              exact hcar.appendLM (.cons (by first | exact rfl | constructor) .nil)
            · rw [enc_app, hjp, List.length_append]
              simp only [enc, List.length_cons, List.length_nil]
              omega
        · exfalso; omega
      all_goals
        exfalso
        first
          | omega
          | (with_reducible rename (isBreak _ = true) => hb
             with_reducible rename (_ = codeAt ns j) => hc
             rw [hc, hA1] at hb
             first
               | cases hb
               | (rw [hp1'] at hb; cases hb))
    | false =>
      obtain ⟨hA1, hA2, hA3⟩ : codeAt ns j = (ic : Int) ∧ j < ns.length ∧ ns.drop (j + 1).toNat = (enc todo).map (fun (c : Nat) => (c : Int)) ++ stop := codeAt_of hj0 hdr
      replace hc128 : ic < 128 := hc128
      obtain ⟨hp1', hp2'⟩ : isBreak (ic : Int) = false ∧ ic ≠ 92 := hplain rfl
      tb_start
      rotate_left 1
      · refine unhold ?_
        refine wpAny_If ?_
        tb_start
        · exfalso
          omega
        · with_reducible rename Fr g' _ _ _ => F4
          with_reducible rename News g' _ _ _ => N4
          with_reducible rename (_ = codeAt ns j) => hc9
          rw [hc9, hA1, List.push_toArray] at N4
          refine ⟨_, _, _, _, todo.length, rfl, F4, N4, by rw [hk2]; exact Nat.lt_succ_self _, done ++ [(false, ic)], todo, vals ++ [_], cnt + 1, _, _, by rw [hits2, List.append_assoc]; rfl, rfl, .cons rfl (.cons rfl (.cons (by rw [show (done ++ [(false, ic)]).any (·.1) = done.any (·.1) by simp]; rfl) .nil)), ?_, hA3, by omega, by omega, ?_, rfl⟩
          · rw [List.map_append]
            exact hcar.appendLM (.cons (by first | exact rfl | constructor) .nil)
          · rw [enc_app, hjp, List.length_append]
            simp only [enc, List.length_cons, List.length_nil]
            omega
      all_goals
        exfalso
        first
          | omega
          | (with_reducible rename (isBreak _ = true) => hb
             with_reducible rename (_ = codeAt ns j) => hc
             rw [hc, hA1] at hb
             first
               | cases hb
               | (rw [hp1'] at hb; cases hb))
theorem name_go {dp un : Nat} {gd : Option (List Code)} {cn : Str} {cs : Scope} {a : Addr} {ccd : Value} {cl : List (Str × Addr)} {outer : List Env} {A₀ : Around} {base h₀ : Heap} {L : Addr} {m : Str → Option Value} {s : Shared} {Q E : Value → Shared → Prop} {w : World} {p : Program} {loose : List Str} {mean : ExcName → Option Value} {mg : Str → Option Value} {mb : Str → Option Value} {rest : List (Addr × Obj)} {k1 : Tok} {k2 : Tok} {l : Addr} {x : Addr} {dx : Addr} {pl : Int} {tp : Tok} {cv : List Value} {cc : Nat} {ns : List Int} {its : List (Bool × Nat)} {stop : List Int} (P : (Below A₀ base outer h₀) ∧ (Fr h₀ L s.heap m) ∧ ((Mine.ka.heap_1 w.params).In h₀) ∧ (News h₀ L s.heap ((tokL w.params k1 k2 l pl tp x dx cv cc rest))) ∧ (Top p loose mean mg mb h₀) ∧ (cs.kind = .function) ∧ (dp + 2 < 900) ∧ (un + 8 * 2 < 9000) ∧ (IntsAre cv ns) ∧ (ns.length ≤ 200) ∧ (0 ≤ pl) ∧ (pl ≤ ns.length) ∧ (∀ c ∈ ns, 0 ≤ c) ∧ (@LT.lt Nat _ l dx) ∧ (@LT.lt Nat _ dx x) ∧ (∀ q ∈ rest, q.1 ≠ dx) ∧ (∀ i ∈ its, ItOk i) ∧ (ns.drop pl.toNat = (enc its).map (fun (c : Nat) => (c : Int)) ++ stop) ∧ (∀ c r, stop = c :: r → isBreak c = true) ∧ True)  (h : ∀ (h' : Heap) (tk' : Nat), Fr h₀ L h' m → ∀ (a1 : Addr) (nm : Str) (t1 : Tok) (pl' : Int) (tp' : Tok), (nm.cps.toList = its.map (·.2)) → (pl' = pl + (enc its).length) → News h₀ L h' ((a1, tupObj [.str nm t1, .bool (its.any (·.1))]) :: tokL w.params k1 k2 l pl' tp' x dx cv cc rest) → Q (.ref a1) { s with heap := h', toks := tk' }) :
    wpAny (model PySem.Challenge.rw_ok0058_01.row.prog w) (ktrTop dp un gd cn cs L a ccd cl outer) (call (.ref 275) [.ref x]) Q E s :=
  by
  exact con_use (name_con w p loose mean mg mb rest k1 k2 l x dx pl tp cv cc ns P.2.2.2.2.2.2.2.2.1 P.2.2.2.2.2.2.2.2.2.1 P.2.2.2.2.2.2.2.2.2.2.1 P.2.2.2.2.2.2.2.2.2.2.2.1 P.2.2.2.2.2.2.2.2.2.2.2.2.1 P.2.2.2.2.2.2.2.2.2.2.2.2.2.1 P.2.2.2.2.2.2.2.2.2.2.2.2.2.2.1 P.2.2.2.2.2.2.2.2.2.2.2.2.2.2.2.1 its stop P.2.2.2.2.2.2.2.2.2.2.2.2.2.2.2.2.1 P.2.2.2.2.2.2.2.2.2.2.2.2.2.2.2.2.2.1 P.2.2.2.2.2.2.2.2.2.2.2.2.2.2.2.2.2.2.1) P.1 P.2.1 P.2.2.1 P.2.2.2.1 P.2.2.2.2.1 P.2.2.2.2.2.1 P.2.2.2.2.2.2.1 P.2.2.2.2.2.2.2.1 (fun v h' tk' n' F' N' r => by obtain ⟨a1, nm, t1, pl', tp', e, q, f1, f2⟩ := r; subst e; subst q; exact h _ _ F' _ _ _ _ _ f1 f2 N')
end Mine
end SA
namespace Mine
set_option maxRecDepth 100000
set_option maxHeartbeats 0
theorem ns_of_in {K : Frag} {h : Heap} {N : Addr} {n : Str} {v : Value} (X : K.In h) (ok : nsOkIn K N = true) (e : nsIn K N n = some (some v)) : h.nsMap N n = some v := by
  obtain ⟨o, es, ep, ho, hd, _, hf⟩ := Heap.Ns.of_isNs (isNs_of_in X ok)
  unfold nsIn at e
  split at e
  · rename_i c d es' n' sl q
    have := X _ _ q
    rw [ho] at this
    cases this
    cases hd
    split at e
    · rename_i en he
      rw [← hf]
      unfold nsFind findBy
      rw [← Array.find?_toList, he]
      simpa using e
    · split at e <;> cases e
  · cases e
theorem bad_cls (P : Params) : (ka.heap_1 P).lookup 79 = some (excClassObj (Str.ofString "BadSyntax") (Str.ofString "BadSyntax") 79 78 [.type "Exception"] [.type "Exception", .type "BaseException", .type "object"] true [] [] false none none (some (.ref 63)) none (some (Value.str (Str.ofString "BadSyntax") 285)) (some (Value.str (Str.ofString "BadSyntax") 293)) (some (Value.bool true)) "Exception.__new__") := rfl
theorem bad_ok (P : Params) : nsOkIn (ka.heap_1 P) 78 = true := by kernel_rfl
theorem bad_init (P : Params) : nsIn (ka.heap_1 P) 78 (Str.ofString "__init__") = some (some (.ref 76)) := rfl
theorem bad_sa (P : Params) : nsIn (ka.heap_1 P) 78 (Str.ofString "__setattr__") = some none := rfl
theorem bad_word (P : Params) : nsIn (ka.heap_1 P) 78 (Str.ofString "word") = some none := rfl
theorem bad_place (P : Params) : nsIn (ka.heap_1 P) 78 (Str.ofString "place") = some none := rfl
theorem bad_76 (P : Params) : ∃ o, (ka.heap_1 P).lookup 76 = some o ∧ o.cls = .type "function" := ⟨_, rfl, rfl⟩
theorem exc_word : typeLookup (.type "Exception") (Str.ofString "word") = pure none := by rw [typeLookup_type, builtinLookup_eq_fast]; kernel_rfl
theorem exc_place : typeLookup (.type "Exception") (Str.ofString "place") = pure none := by rw [typeLookup_type, builtinLookup_eq_fast]; kernel_rfl

noncomputable abbrev badObj : Obj := excClassObj (Str.ofString "BadSyntax") (Str.ofString "BadSyntax") 79 78 [.type "Exception"] [.type "Exception", .type "BaseException", .type "object"] true [] [] false none none (some (.ref 63)) none (some (Value.str (Str.ofString "BadSyntax") 285)) (some (Value.str (Str.ofString "BadSyntax") 293)) (some (Value.bool true)) "Exception.__new__"
open Builtin Builtin.ObjectAttr in
theorem first_entry {B sa owner : String} {bm : List Value} {nm q : Str} {C N : Addr} {bs : List Value} {sn : List Str} {sub : List Value} {ab : Bool} {col : Option Bool} {dd : Option Addr} {k0 k1 k2 k3 k5 : Option Value} {newId : String} {prog : Program} {w : World} {A : Around} {E : Value → Shared → Prop} {h : Heap} {g : Array GenState} {d : Drawn} {t : Nat} {os : OsState} {x : Addr} {o : Obj} {mN : Str → Option Value} {name : Str} {v : Value} {tk : Tok} {Q : Fin → Shared → Prop}
    (SF : StoreFacts B bm sa owner) (hC : h.get? C = some (excClassObj nm q C N bs bm true sn sub ab col dd k0 k1 k2 k3 k5 newId)) (hn : h.Ns N mN) (hna : mN name = none) (hB : typeLookup (.type B) name = pure none)
    (hx : h.get? x = some o) (hc : o.cls = .ref C) (hnc : ∀ c, o.data ≠ .cls c) (hdn : o.dict = none)
    (hq : ∀ h' tk' dx, (∀ b ob, b ≠ x → h.get? b = some ob → h'.get? b = some ob) → h'.get? x = some { cls := o.cls, dict := some dx, data := o.data, slots := o.slots } → h.get? dx = none → h'.Ns1 dx (fun y => if y = name then some v else none) → Q (.done (.ret .none)) ⟨h', g, d, tk', os⟩) :
    wpAny (model prog w) A (Builtin.«object.__setattr__» ⟨[.ref x, .str name tk, v], []⟩) Q E ⟨h, g, d, t, os⟩ := by
  have hpass := SF.passes (.ref x)
  unfold Builtin.«object.__setattr__»
  repeat (first | rw [refuse_eq] | (rw [refuseLoop_ref, hpass]) | (with_reducible refine wpAny_loadPart_at hx ?_; rw [hc]) | with_reducible refine wpAny_mroOf_exc hC ?_ | (with_reducible refine wpAny_typeLookup_exc hC hn SF.mro hB ?_; rw [hna]) | wp_step)
  rw [hdn, if_neg (by simp [typeHasDict])]
  split
  · rename_i q; cases q
  split
  · rename_i c q; exact absurd q (hnc c)
  have hx1 : (h.push { cls := .type "dict", data := .dict #[] }).get? x = some o := Heap.get?_push_of_some _ hx
  have hxs : x ≠ h.objs.size := Nat.ne_of_lt (Heap.lt_size hx)
  refine wpAny_bind (wpAny_alloc' ?_)
  refine wpAny_bind (wpAny_update' hx1 ?_)
  refine wpAny_pure ?_
  generalize hH : ((h.push { cls := .type "dict", data := .dict #[] }).update x fun o => { cls := o.cls, dict := some h.objs.size, data := o.data, slots := o.slots }) = H
  have hD : H.get? h.objs.size = some { cls := .type "dict", data := .dict #[] } := by
    rw [← hH]; exact (Heap.get?_update_ne _ _ _ _ hxs.symm).trans (Heap.get?_push_at rfl rfl)
  have hX : H.get? x = some { cls := o.cls, dict := some h.objs.size, data := o.data, slots := o.slots } := by
    rw [← hH]; refine Heap.get?_update_self _ hx1 ?_
    have hfr := (Heap.get?_some_iff.mp hx).2
    obtain ⟨oc, od, odt, osl⟩ := o
    cases odt <;> first | rfl | exact hfr
  have hO : ∀ b ob, b ≠ x → h.get? b = some ob → H.get? b = some ob := fun b ob hbx hb => by
    rw [← hH]; exact (Heap.get?_update_ne _ _ _ _ hbx).trans (Heap.get?_push_of_some _ hb)
  have hE : H.Ns1 h.objs.size (fun _ => none) := Heap.Ns1.of_empty ⟨_, #[], _, hD, rfl, fun e he => absurd he (by simp), fun _ => rfl⟩
  show wpAny _ _ (storeInDict h.objs.size (.str name tk) name v) _ _ _
  unfold storeInDict newKeyGuard
  refine wpAny_bind (wpAny_pure (wpAny_bind (wpAny_nsSet1 hE fun h' hn' hs => ?_)))
  obtain ⟨oD, esD, epD, hoD, hdD, hcD⟩ := hn'.count (Within.cons name v Within.nil)
  refine wpAny_bind (wpAny_lookBehind hoD (by rw [hdD]; exact pastItsLine_dict (Nat.le_trans hcD (by rw [List.length_cons, List.length_nil, sizeLine_eq]; omega))) ?_)
  wp_walk
  exact hq h' _ h.objs.size (fun b ob hbx hb => (hs.2 b (Nat.ne_of_lt (Heap.lt_size hb))).trans (hO b ob hbx hb)) ((hs.2 x hxs).trans hX) (Heap.get?_none_of_le (Nat.le_refl _)) hn'
theorem first_call {B sa owner : String} {bm : List Value} {nm q : Str} {C N : Addr} {bs : List Value} {sn : List Str} {sub : List Value} {ab : Bool} {col : Option Bool} {dd : Option Addr} {k0 k1 k2 k3 k5 : Option Value} {newId : String} {prog : Program} {w : World} {A : Around} {h : Heap} {g : Array GenState} {d : Drawn} {t : Nat} {os : OsState} {x : Addr} {o : Obj} {mN : Str → Option Value} {name : Str} {v : Value} {tk : Tok} {R : Result → Shared → Prop}
    (SF : StoreFacts B bm sa owner) (hC : h.get? C = some (excClassObj nm q C N bs bm true sn sub ab col dd k0 k1 k2 k3 k5 newId)) (hn : h.Ns N mN) (hna : mN name = none) (hB : typeLookup (.type B) name = pure none)
    (hx : h.get? x = some o) (hc : o.cls = .ref C) (hnc : ∀ c, o.data ≠ .cls c) (hdn : o.dict = none)
    (hq : ∀ h' tk' dx, (∀ b ob, b ≠ x → h.get? b = some ob → h'.get? b = some ob) → h'.get? x = some { cls := o.cls, dict := some dx, data := o.data, slots := o.slots } → h.get? dx = none → h'.Ns1 dx (fun y => if y = name then some v else none) → R (.ok (.ret .none)) ⟨h', g, d, tk', os⟩) :
    codeAny (model prog w) A (.call (.builtin sa) ⟨[.ref x, .str name tk, v], []⟩) R ⟨h, g, d, t, os⟩ :=
  codeAny_call_builtin SF.slot.plain SF.entry (wpAny_check_sa SF hC hx hc (first_entry SF hC hn hna hB hx hc hnc hdn hq))
theorem first_attr {B sa owner : String} {bm : List Value} {nm q : Str} {C N : Addr} {bs : List Value} {sn : List Str} {sub : List Value} {ab : Bool} {col : Option Bool} {dd : Option Addr} {k0 k1 k2 k3 k5 : Option Value} {newId : String} {prog : Program} {w : World} {A : Around} {E : Value → Shared → Prop} {h : Heap} {g : Array GenState} {d : Drawn} {t : Nat} {os : OsState} {x : Addr} {o : Obj} {mN : Str → Option Value} {name : Str} {v : Value} {Q : Unit → Shared → Prop}
    (SF : StoreFacts B bm sa owner) (hC : h.get? C = some (excClassObj nm q C N bs bm true sn sub ab col dd k0 k1 k2 k3 k5 newId)) (hn : h.Ns N mN) (hns : mN (Str.ofString "__setattr__") = none) (hna : mN name = none) (hB : typeLookup (.type B) name = pure none)
    (hx : h.get? x = some o) (hc : o.cls = .ref C) (hnc : ∀ c, o.data ≠ .cls c) (hdn : o.dict = none)
    (hq : ∀ h' tk' dx, (∀ b ob, b ≠ x → h.get? b = some ob → h'.get? b = some ob) → h'.get? x = some { cls := o.cls, dict := some dx, data := o.data, slots := o.slots } → h.get? dx = none → h'.Ns1 dx (fun y => if y = name then some v else none) → Q () ⟨h', g, d, tk', os⟩) :
    wpAny (model prog w) A (setAttr (.ref x) name v) Q E ⟨h, g, d, t, os⟩ := by
  have f3 := SF.slot.bind (.ref x)
  unfold setAttr callSpecial? specialOf
  repeat (any_goals (first | (with_reducible refine wpAny_loadPart_at hx ?_; rw [hc]) | (with_reducible refine wpAny_typeLookup_exc hC hn SF.mro SF.slot.lookup ?_; rw [hns]) | wp_step))
  refine first_call SF hC hn hna hB hx hc hnc hdn fun h' tk' dx h1 h2 h3 h4 => ?_
  repeat (any_goals (first | assumption | wp_step))
  exact hq h' tk' dx h1 h2 h3 h4
end Mine
namespace Mine
set_option maxRecDepth 100000
set_option maxHeartbeats 0
noncomputable def DictIs (o : Obj) (m : Str → Option Value) : Prop := ∃ es n, o.data = .dict es n ∧ ∀ (h : Heap) (d : Addr), h.get? d = some o → h.Ns1 d m
theorem dictIs_of {h : Heap} {d : Addr} {m : Str → Option Value} (hn : h.Ns1 d m) : ∃ o, h.get? d = some o ∧ DictIs o m := by
  obtain ⟨o, es, ep, ho, hd, hk, hu, hm⟩ := hn
  exact ⟨o, ho, es, ep, hd, fun h' d' e => ⟨o, es, ep, e, hd, hk, hu, hm⟩⟩
/-- an exception of the class BadSyntax, as __new__ or __init__ leave it -/
noncomputable abbrev badInst (dx : Option Addr) (t : Addr) : Obj := { cls := .ref 79, dict := dx, data := .fields #[.ref t, .none, .none, .none, .bool false, .none] }
section
variable {prog : Program} {w : World} {A : Around} {E : Value → Shared → Prop} {s : Shared} {h₀ : Heap} {L : Addr} {m : Str → Option Value} {news : List (Addr × Obj)} {Q : Unit → Shared → Prop} {P : Params}
theorem bad_at (F : Fr h₀ L s.heap m) (X : (ka.heap_1 P).In h₀) : s.heap.get? 79 = some badObj := F.keep _ _ (X _ _ (bad_cls P))
theorem bad_ns (F : Fr h₀ L s.heap m) (X : (ka.heap_1 P).In h₀) : s.heap.Ns 78 (s.heap.nsMap 78) := Heap.Ns.of_isNs (isNs_of_in (X.keeps F.keep) (bad_ok P))
theorem frame_not_fields (F : Fr h₀ L s.heap m) {b : Addr} {o : Obj} {vs : Array Value} (e : s.heap.get? b = some o) (hd : o.data = .fields vs) : b ≠ L := by
  rintro rfl
  obtain ⟨o', es, ep, ho, hd', _⟩ := F.ns
  rw [e] at ho; cases ho; rw [hd] at hd'; cases hd'
theorem set_exc1 {e t : Addr} {name : Str} {v : Value} (F : Fr h₀ L s.heap m) (X : (ka.heap_1 P).In h₀) (N : News h₀ L s.heap ((e, badInst none t) :: news)) (he : ∀ q ∈ news, q.1 ≠ e)
    (hns : nsIn (ka.heap_1 P) 78 name = some none) (hB : typeLookup (.type "Exception") name = pure none)
    (h : ∀ h' tk' dx od, Fr h₀ L h' m → News h₀ L h' ((e, badInst (some dx) t) :: (dx, od) :: news) → DictIs od (fun y => if y = name then some v else none) → (∀ q ∈ news, q.1 ≠ dx) → e ≠ dx → Q () { s with heap := h', toks := tk' }) :
    wpAny (model prog w) A (setAttr (.ref e) name v) Q E s := by
  obtain ⟨h9, g, d, tk, os⟩ := s
  have He := N _ (List.mem_cons_self ..)
  have Xh := X.keeps F.keep
  refine first_attr PySem.F.store_Exception (bad_at F X) (bad_ns F X) (nsMap_none_of_in Xh (bad_ok P) (bad_sa P)) (nsMap_none_of_in Xh (bad_ok P) hns) hB He.1 rfl (fun c q => by cases q) rfl fun h' tk' dx h1 h2 h3 h4 => ?_
  obtain ⟨od, hod, hdi⟩ := dictIs_of h4
  have hne : ∀ b ob, h9.get? b = some ob → b ≠ dx := fun b ob hb q => by rw [q, h3] at hb; cases hb
  have Fk : Fr h₀ L h' m := by
    obtain ⟨o, es, ep, ho, r⟩ := F.ns
    exact ⟨⟨o, es, ep, h1 _ _ (Ne.symm He.2.1) ho, r⟩, fun b o hb => h1 _ _ (fun q => by rw [q, He.2.2] at hb; cases hb) (F.keep _ _ hb), F.above⟩
  refine h h' tk' dx od Fk (fun q hq => ?_) hdi (fun q hq => hne _ _ (N q (List.mem_cons_of_mem _ hq)).1) (hne _ _ He.1)
  rcases List.mem_cons.mp hq with rfl | hq
  · exact ⟨h2, He.2⟩
  rcases List.mem_cons.mp hq with rfl | hq
  · refine ⟨hod, ?_, ?_⟩
    · obtain ⟨o, es, ep, ho, _⟩ := F.ns
      exact fun q => hne _ _ ho q.symm
    · cases q : h₀.get? dx with
      | none => rfl
      | some o => exact absurd rfl (hne _ _ (F.keep _ _ q))
  · have Hq := N q (List.mem_cons_of_mem _ hq)
    exact ⟨h1 _ _ (he q hq) Hq.1, Hq.2⟩
theorem set_exc2 {e t dx : Addr} {od : Obj} {mA : Str → Option Value} {name : Str} {v : Value} {ns : List Str} (F : Fr h₀ L s.heap m) (X : (ka.heap_1 P).In h₀) (N : News h₀ L s.heap ((e, badInst (some dx) t) :: (dx, od) :: news)) (D : DictIs od mA)
    (he : ∀ q ∈ news, q.1 ≠ e) (hdx : ∀ q ∈ news, q.1 ≠ dx) (hed : e ≠ dx)
    (hns : nsIn (ka.heap_1 P) 78 name = some none) (hB : typeLookup (.type "Exception") name = pure none) (hw : Within mA ns) (hsz : ns.length ≤ sizeLine)
    (h : ∀ h' tk' od', Fr h₀ L h' m → News h₀ L h' ((e, badInst (some dx) t) :: (dx, od') :: news) → Q () { s with heap := h', toks := tk' }) :
    wpAny (model prog w) A (setAttr (.ref e) name v) Q E s := by
  obtain ⟨h9, g, d, tk, os⟩ := s
  have He := N _ (List.mem_cons_self ..)
  have Hd := N (dx, od) (by simp)
  have Xh := X.keeps F.keep
  have I : h9.Inst e 79 mA := ⟨badInst (some dx) t, He.1, rfl, (fun c q => by cases q), Or.inr ⟨dx, rfl, hed.symm, by obtain ⟨_, _, _, D3⟩ := D; exact D3 _ _ Hd.1⟩⟩
  refine store_attr PySem.F.store_Exception (bad_at F X) (bad_ns F X) (nsMap_none_of_in Xh (bad_ok P) (bad_sa P)) (nsMap_none_of_in Xh (bad_ok P) hns) hB (fun q => ?_) I (fun h' tk' I' h1 h2 => ?_) hw hsz
  · have := bad_at F X
    rw [← q, He.1] at this; cases this
  · have h1' : ∀ b o, b ≠ e → b ≠ dx → h9.get? b = some o → h'.get? b = some o := fun b o x y hb => h1 b o x (fun o0 dx' e0 ed => by rw [He.1] at e0; cases e0; cases ed; exact y) hb
    have Fk : Fr h₀ L h' m := by
      obtain ⟨o, es, ep, ho, r⟩ := F.ns
      exact ⟨⟨o, es, ep, h1' _ _ (Ne.symm He.2.1) (Ne.symm Hd.2.1) ho, r⟩, fun b o hb => h1' _ _ (fun q => by rw [q, He.2.2] at hb; cases hb) (fun q => by rw [q, Hd.2.2] at hb; cases hb) (F.keep _ _ hb), F.above⟩
    obtain ⟨o1, ho1, c1, c2, c3, c4⟩ := h2 _ He.1
    have eo : o1 = badInst (some dx) t := by
      obtain ⟨oc, odi, oda, osl⟩ := o1
      have := c4 dx rfl
      dsimp only at c1 c2 c3 this
      subst c1 c2 c3 this; rfl
    subst eo
    obtain ⟨oi, hoi, _, _, hoid⟩ := I'
    rw [ho1] at hoi; cases hoi
    rcases hoid with ⟨q, _⟩ | ⟨dx', q, _, hns'⟩
    · cases q
    · cases q
      obtain ⟨od', hod', _⟩ := dictIs_of hns'
      refine h h' tk' od' Fk fun q hq => ?_
      rcases List.mem_cons.mp hq with rfl | hq
      · exact ⟨ho1, He.2⟩
      rcases List.mem_cons.mp hq with rfl | hq
      · exact ⟨hod', Hd.2⟩
      · have Hq := N q (List.mem_cons_of_mem _ (List.mem_cons_of_mem _ hq))
        exact ⟨h1' _ _ (he q hq) (hdx q hq) Hq.1, Hq.2⟩
end
end Mine
namespace Mine
set_option maxRecDepth 100000
set_option maxHeartbeats 0
local macro_rules | `(tactic| walk_at "setAttr ref") => `(tactic| (k_here; refine hold ?_))
theorem bad_con (w : World) (p : Program) (loose : List Str) (mean : ExcName → Option Value) (mg mb : Str → Option Value) (news : List (Addr × Obj)) (b : Str) (i : Int) (t u : Tok) :
   Con w p loose mean mg mb 79 [.str b t, .int i u] news 2 (fun v news' => ∃ e dx tt, v = .ref e ∧ news' = (e, badInst (some dx) tt) :: news ∧ ∀ q ∈ news, q.1 ≠ e) := by
  unfold Con
  k_fill
  intro dp un gd cn cs a ccd cl outer A₀ base h₀ L m s Q E B F X N T hk hd hu hret
  have hd' : dp < recursionLimit := dep_lim (by assumption)
  obtain ⟨h9, g9, d9, t9, o9⟩ := s
  obtain ⟨oI, hI, hIc⟩ := bad_76 w.params
  refine wpAny_call_exc_init PySem.F.excBase_Exception (bad_at F X) (bad_ns F X) (ns_of_in (X.keeps F.keep) (bad_ok _) (bad_init _)) (F.keep _ _ (X _ _ hI)) hIc (fun h1 e hm => ?_) (by rw [sizeLine_eq]; simp)
  obtain ⟨tt, he, hnt, htt⟩ := hm.there
  have F1 : Fr h₀ L h1 m := F.keeps hm.keeps
  have hne : ∀ q ∈ news, q.1 ≠ e := fun q hq z => by have := (N q hq).1; rw [z, hm.new] at this; cases this
  have N1 : News h₀ L h1 ((e, badInst none tt) :: news) := by
    intro q hq
    rcases List.mem_cons.mp hq with rfl | hq
    · refine ⟨he, frame_not_fields (s := ⟨h1, g9, d9, t9, o9⟩) F1 he rfl, ?_⟩
      cases z : h₀.get? e with
      | none => rfl
      | some o => have := F.keep _ _ z; rw [hm.new] at this; cases this
    · exact ⟨hm.keeps _ _ (N q hq).1, (N q hq).2⟩
  clear hI hIc F N
  refine wpAny_call ?_
  k_dflt ktr_enter
  rename_i g' L' h' FG' F' N' B' X' T'
  generalize t9 + List.length _ = tk0
  tb_start
  refine unhold ?_
  refine set_exc1 (by assumption) (by assumption) (by assumption) hne (bad_word _) exc_word ?_
  intro h2 tk2 dx od F2 N2 D hdx hed
  tb_start
  refine unhold ?_
  refine set_exc2 (ns := [Str.ofString "word"]) (by assumption) (by assumption) (by assumption) D hne hdx hed (bad_place _) exc_place (by within_ways) (by rw [sizeLine_eq]; simp) ?_
  intro h3 tk3 od3 F3 N3
  tb_start
  with_reducible rename Fr h₀ _ _ _ => kF
  with_reducible rename News h₀ _ _ _ => kN
  exact hret _ _ _ _ kF (news_drop2 kN) ⟨e, dx, tt, rfl, rfl, hne⟩

section
variable {M : Model} {A : Around} {E : Value → Shared → Prop} {env : Env}
variable {nm q : Str} {C N : Addr} {bs bm : List Value} {hdct : Bool} {sn : List Str} {sub : List Value} {ab : Bool} {col : Option Bool} {dd : Option Addr} {k0 k1 k2 k3 k5 : Option Value} {newId : String}
theorem raise_own {s : Shared} {x : Sem Value} {Q : Flow → Shared → Prop} (hbase : bm.contains (.type "BaseException") = true) (hh : A.handled = none)
    (h : wpAny M A x (fun v s₁ => Hold (∃ e od t, v = .ref e ∧ s₁.heap.get? C = some (excClassObj nm q C N bs bm hdct sn sub ab col dd k0 k1 k2 k3 k5 newId) ∧ s₁.heap.get? e = some { cls := .ref C, dict := od, data := .fields #[.ref t, .none, .none, .none, .bool false, .none] } ∧ E (.ref e) s₁)) E s) :
    wpAny M A (raiseStmt env (some x) none) Q E s := by
  have hcB : (Value.ref C :: bm).contains (.type "BaseException") = true := by rw [List.contains_cons, hbase, Bool.or_true]
  unfold raiseStmt
  refine wpAny_bind (wpAny_mono h (fun v s₁ h₁ => ?_) fun _ _ x => x)
  obtain ⟨e, od, t, rfl, hC, he, hE⟩ := h₁
  obtain ⟨hp, g, d, tk, os⟩ := s₁
  repeat (first | with_reducible refine wpAny_loadPart_at he ?_ | with_reducible refine wpAny_loadPart_at hC ?_ | (with_reducible refine wpAny_isSubtype_exc hC ?_; rw [hcB]) | wp_step)
  exact wpAny_raiseNew_none hh hE
end
theorem raise_bad {prog : Program} {w : World} {A : Around} {E : Value → Shared → Prop} {s : Shared} {env : Env} {x : Expr} {pos : Pos} {Q : Flow → Shared → Prop} (hh : A.handled = none)
    (h : wpAny (model prog w) A (eval x env) (fun v s₁ => Hold (∃ e od t, v = .ref e ∧ s₁.heap.get? 79 = some badObj ∧ s₁.heap.get? e = some (badInst od t) ∧ E (.ref e) s₁)) E s) :
    wpAny (model prog w) A (exec (.Raise (some x) none pos) env) Q E s := by
  rw [arm_exec_Raise]
  refine wpAny_bind (wpAny_standAt ?_)
  exact @raise_own (model prog w) A E env (Str.ofString "BadSyntax") (Str.ofString "BadSyntax") 79 78 [.type "Exception"] [.type "Exception", .type "BaseException", .type "object"] true [] [] false none none (some (.ref 63)) none (some (Value.str (Str.ofString "BadSyntax") 285)) (some (Value.str (Str.ofString "BadSyntax") 293)) (some (Value.bool true)) "Exception.__new__" s _ Q rfl hh
    (wpAny_bind (wpAny_mono h (fun v s₁ h₁ => wpAny_bind (wpAny_standAt (wpAny_pure h₁))) fun _ _ x => x))
theorem news_keep {h₀ h : Heap} {L : Addr} {x : Addr × Obj} {r r' : List (Addr × Obj)} (N : News h₀ L h (x :: r)) (hs : ∀ q ∈ r', q ∈ r) : News h₀ L h (x :: r') := news_sub N fun q hq => by
  rcases List.mem_cons.mp hq with z | z
  · rw [z]; exact List.mem_cons_self ..
  · exact List.mem_cons_of_mem _ (hs q z)
/-- as Con, of a def that may raise BadSyntax: what is kept of the ledger then is kept -/
noncomputable def ConX (w : World) (p : Program) (loose : List Str) (mean : ExcName → Option Value) (mg mb : Str → Option Value) (f : Addr) (vs : List Value) (news : List (Addr × Obj)) (k : Nat)
    (Ret : Value → List (Addr × Obj) → Prop) (may : Prop) (kept : List (Addr × Obj)) : Prop :=
  ∀ (dp un : Nat) (gd : Option (List Code)) (cn : Str) (cs : Scope) (a : Addr) (ccd : Value) (cl : List (Str × Addr)) (outer : List Env) (A₀ : Around) (base h₀ : Heap) (L : Addr) (m : Str → Option Value) (s : Shared) (Q E : Value → Shared → Prop),
    Below A₀ base outer h₀ → Fr h₀ L s.heap m → (Mine.ka.heap_1 w.params).In h₀ → News h₀ L s.heap news → Top p loose mean mg mb h₀ → cs.kind = .function →
    dp + k < 900 → un + 8 * k < 9000 →
    (∀ (v : Value) (h' : Heap) (tk' : Nat) (news' : List (Addr × Obj)), Fr h₀ L h' m → News h₀ L h' news' → Ret v news' → Q v { s with heap := h', toks := tk' }) →
    (∀ (e : Addr) (g h' : Heap) (tk' : Nat), Fr h₀ L g m → g.UpToSlots h' → RaisedSN base g (envX cn cs L a ccd cl :: outer) e (.ref 79) kept h' → may → E (.ref e) { s with heap := h', toks := tk' }) →
    wpAny (model PySem.Challenge.rw_ok0058_01.row.prog w) (ktrTop dp un gd cn cs L a ccd cl outer) (call (.ref f) vs) Q E s

theorem conx_use {w : World} {p : Program} {loose : List Str} {mean : ExcName → Option Value} {mg mb : Str → Option Value} {f : Addr} {vs : List Value} {news : List (Addr × Obj)} {k : Nat}
    {Ret : Value → List (Addr × Obj) → Prop} {may : Prop} {kept : List (Addr × Obj)} {dp un : Nat} {gd : Option (List Code)} {cn : Str} {cs : Scope} {a : Addr} {ccd : Value} {cl : List (Str × Addr)} {outer : List Env} {A₀ : Around} {base h₀ : Heap} {L : Addr} {m : Str → Option Value} {s : Shared} {Q E : Value → Shared → Prop}
    (C : ConX w p loose mean mg mb f vs news k Ret may kept) (B : Below A₀ base outer h₀) (F : Fr h₀ L s.heap m) (X : (Mine.ka.heap_1 w.params).In h₀) (N : News h₀ L s.heap news) (T : Top p loose mean mg mb h₀) (hk : cs.kind = .function)
    (hdp : dp + k < 900) (hu : un + 8 * k < 9000)
    (hE : ∀ (e : Addr) (g h' : Heap) (tk' : Nat), Fr h₀ L g m → g.UpToSlots h' → RaisedSN base g (envX cn cs L a ccd cl :: outer) e (.ref 79) kept h' → may → E (.ref e) { s with heap := h', toks := tk' })
    (h : ∀ (v : Value) (h' : Heap) (tk' : Nat) (news' : List (Addr × Obj)), Fr h₀ L h' m → News h₀ L h' news' → Ret v news' → Q v { s with heap := h', toks := tk' }) :
    wpAny (model PySem.Challenge.rw_ok0058_01.row.prog w) (ktrTop dp un gd cn cs L a ccd cl outer) (call (.ref f) vs) Q E s :=
  C dp un gd cn cs a ccd cl outer A₀ base h₀ L m s Q E B F X N T hk hdp hu h hE

theorem conx_go {w : World} {p : Program} {loose : List Str} {mean : ExcName → Option Value} {mg mb : Str → Option Value} {f : Addr} {vs : List Value} {news : List (Addr × Obj)} {k : Nat}
    {Ret : Value → List (Addr × Obj) → Prop} {may : Prop} {kept : List (Addr × Obj)} {dp un : Nat} {gd : Option (List Code)} {cn : Str} {cs : Scope} {a : Addr} {ccd : Value} {cl : List (Str × Addr)} {outer : List Env} {A₀ : Around} {base h₀ : Heap} {L : Addr} {m : Str → Option Value} {s : Shared} {Q E : Value → Shared → Prop}
    (P : (ConX w p loose mean mg mb f vs news k Ret may kept) ∧ (Below A₀ base outer h₀) ∧ (Fr h₀ L s.heap m) ∧ ((Mine.ka.heap_1 w.params).In h₀) ∧ (News h₀ L s.heap news) ∧ (Top p loose mean mg mb h₀) ∧ (cs.kind = .function) ∧ (dp + k < 900) ∧ (un + 8 * k < 9000) ∧ True)
    (hE : ∀ (e : Addr) (g h' : Heap) (tk' : Nat), Fr h₀ L g m → g.UpToSlots h' → RaisedSN base g (envX cn cs L a ccd cl :: outer) e (.ref 79) kept h' → may → E (.ref e) { s with heap := h', toks := tk' })
    (h : ∀ (v : Value) (h' : Heap) (tk' : Nat) (news' : List (Addr × Obj)), Fr h₀ L h' m → News h₀ L h' news' → Ret v news' → Q v { s with heap := h', toks := tk' }) :
    wpAny (model PySem.Challenge.rw_ok0058_01.row.prog w) (ktrTop dp un gd cn cs L a ccd cl outer) (call (.ref f) vs) Q E s := by
  exact conx_use P.1 P.2.1 P.2.2.1 P.2.2.2.1 P.2.2.2.2.1 P.2.2.2.2.2.1 P.2.2.2.2.2.2.1 P.2.2.2.2.2.2.2.1 P.2.2.2.2.2.2.2.2.1 hE h

section
variable {M : Model} {A : Around} {E : Value → Shared → Prop} {s' : Shared} {base g h : Heap} {outer : List Env} {L a e : Addr} {m : Str → Option Value} {name : Str} {scope : Scope} {cd : Value} {Q : Unit → Shared → Prop} {news : List (Addr × Obj)}
/-- an exception that this very frame has made leaves it -/
theorem leave_bad {od : Option Addr} {t : Addr} (K : Below A base outer g) (F : Fr g L s'.heap m) (N : News g L s'.heap ((e, badInst od t) :: news)) (hne : ∀ q ∈ news, q.1 ≠ e)
    (hQ : ∀ h', RaisedSN base g outer e (.ref 79) news h' → g.UpToSlots h' → Q () { s' with heap := h' }) (hk : scope.kind = .function := by rfl) :
    wpAny M (A.deeper (envOf name scope L a cd)) (leaving (envOf name scope L a cd) (.ref e)) Q E s' := by
  have K' := K.push (name := name) (a := a) (cd := cd) F hk
  have He := N _ (List.mem_cons_self ..)
  let fs := (envOf name scope L a cd :: outer).filterMap (·.frame)
  have hin : ∀ env ∈ (envOf name scope L a cd :: outer), ∀ b, env.frame = some b → b ∈ e :: fs := fun env he b hb => List.mem_cons_of_mem _ (List.mem_filterMap.mpr ⟨env, he, hb⟩)
  have notIn : ∀ b o, g.get? b = none → b ≠ L → s'.heap.get? b = some o → b ∉ fs := fun b o hb hL ho hm => by
    obtain ⟨env, he, hf⟩ := List.mem_filterMap.mp hm
    rcases List.mem_cons.mp he with rfl | he
    · exact hL (Option.some.inj hf).symm
    · obtain ⟨o, ho, _⟩ := (K.frames.mem (List.mem_filterMap.mpr ⟨env, he, hf⟩)).2
      rw [hb] at ho; cases ho
  have st : base.StaysIn (hideAll s'.heap (e :: fs)) := fun b o q => hideAll_get _ (K'.stays b o q) fun hm => by
    rcases List.mem_cons.mp hm with rfl | hm
    · have := K.stays b o q; rw [He.2.2] at this; cases this
    · rw [(K'.frames.mem hm).1] at q; cases q
  have hl : ∀ q ∈ news, (hideAll s'.heap (e :: fs)).get? q.1 = some q.2 ∧ g.get? q.1 = none ∧ base.get? q.1 = none := fun q hq => by
    have Hq := N q (List.mem_cons_of_mem _ hq)
    refine ⟨hideAll_get _ Hq.1 fun hm => ?_, Hq.2.2, fresh_of_stays K.stays Hq.2.2⟩
    rcases List.mem_cons.mp hm with z | hm
    · exact hne q hq z
    · exact notIn _ _ Hq.2.2 Hq.2.1 Hq.1 hm
  have sg : ∀ b o, g.get? b = some o → b ∉ outer.filterMap (·.frame) → (hideAll s'.heap (e :: fs)).get? b = some o := fun b o q nm => hideAll_get _ (F.keep b o q) fun hm => by
    rcases List.mem_cons.mp hm with z | hm
    · rw [z, He.2.2] at q; cases q
    · rcases kts_mem hm with z | z
      · rw [z, kts_self F] at q; cases q
      · exact nm z
  refine wpAny_leaving_firstW (base := hideAll s'.heap (e :: fs)) (a0 := .ref t) K'.stack (funFrames_hide K'.frames hin) rfl He.1 (fun b o hb => of_hideAll _ hb) (hideAll_none _ (List.mem_cons_self ..)) rfl rfl rfl fun h' hL => ?_
  obtain ⟨k1, ⟨_, _, k2⟩, k3, k4⟩ := hL
  exact hQ h' ⟨_, .ref t, st, sg, hl, k1, hideAll_none _ (List.mem_cons_self ..), k2, k3⟩ ((Heap.UpToSlots.of_keeps F.keep).trans k4)
end
theorem bad_go {dp un : Nat} {gd : Option (List Code)} {cn : Str} {cs : Scope} {a : Addr} {ccd : Value} {cl : List (Str × Addr)} {outer : List Env} {A₀ : Around} {base h₀ : Heap} {L : Addr} {m : Str → Option Value} {s : Shared} {Q E : Value → Shared → Prop} {w : World} {p : Program} {loose : List Str} {mean : ExcName → Option Value} {mg : Str → Option Value} {mb : Str → Option Value} {news : List (Addr × Obj)} {b : Str} {i : Int} {t : Tok} {u : Tok} (P : (Below A₀ base outer h₀) ∧ (Fr h₀ L s.heap m) ∧ ((Mine.ka.heap_1 w.params).In h₀) ∧ (News h₀ L s.heap (news)) ∧ (Top p loose mean mg mb h₀) ∧ (cs.kind = .function) ∧ (dp + 2 < 900) ∧ (un + 8 * 2 < 9000) ∧ True)  (h : ∀ (h' : Heap) (tk' : Nat), Fr h₀ L h' m → ∀ (e dx : Addr) (tt : Addr), (∀ q ∈ news, q.1 ≠ e) → News h₀ L h' ((e, badInst (some dx) tt) :: news) → Q (.ref e) { s with heap := h', toks := tk' }) :
    wpAny (model PySem.Challenge.rw_ok0058_01.row.prog w) (ktrTop dp un gd cn cs L a ccd cl outer) (call (.ref 79) [.str b t, .int i u]) Q E s :=
  by
  exact con_use (bad_con w p loose mean mg mb news b i t u) P.1 P.2.1 P.2.2.1 P.2.2.2.1 P.2.2.2.2.1 P.2.2.2.2.2.1 P.2.2.2.2.2.2.1 P.2.2.2.2.2.2.2.1 (fun v h' tk' n' F' N' r => by obtain ⟨e, dx, tt, q, s9, ne⟩ := r; subst q; subst s9; exact h _ _ F' _ _ _ ne N')
end Mine
namespace Mine
set_option maxRecDepth 100000
set_option maxHeartbeats 0
local macro_rules | `(tactic| walk_at "call ref") => `(tactic| (k_here; k_dflt (refine' name_go ?k1 ?_; (case k1 => keq_rows); rotate_right 1; intros)))
local macro_rules | `(tactic| walk_at "call ref") => `(tactic| (k_here; k_dflt (refine' integer_of_go ?k1 (hold ?_) (hold ?_) ?_; (case k1 => keq_rows); rotate_right 1; intros)))
local macro_rules | `(tactic| walk_at "call ref") => `(tactic| (k_here; k_dflt (refine' is_float_go ?k1 (hold ?_) (hold ?_) ?_; (case k1 => keq_rows); rotate_right 1; intros)))
local macro_rules | `(tactic| walk_at "call ref") => `(tactic| (k_here; k_dflt (refine' bad_go ?k1 ?_; (case k1 => keq_rows); rotate_right 1; intros)))

local macro_rules | `(tactic| walk_at "exec Raise some none") => `(tactic| refine hold ?_)
noncomputable def tokDue (l : List Nat) (x : Str) (q : Bool) : Option (Str × DV) :=
  if q = true then some (Str.ofString "symbol", .str x)
  else if l = [46] then some (Str.ofString ".", .none)
  else match intOf l with
    | some n => some (Str.ofString "integer", .int n)
    | none => if isFlo l = true then none else some (Str.ofString "symbol", .str x)
noncomputable def TokAt (v : Value) (news : List (Addr × Obj)) (st : Int) (d : Str × DV) : Prop := ∃ a t v' t', v = .ref a ∧ (a, tupObj [.str d.1 t, v', .int st t']) ∈ news ∧ IsDV v' d.2
theorem word_con (w : World) (p : Program) (loose : List Str) (mean : ExcName → Option Value) (mg mb : Str → Option Value) (rest : List (Addr × Obj)) (k1 k2 : Tok) (l x dx : Addr) (pl : Int) (tp : Tok) (cv : List Value) (cc : Nat) (ns : List Int)
    (hI : IntsAre cv ns) (hl : ns.length ≤ 200) (hp0 : 0 ≤ pl) (hp1 : pl ≤ ns.length) (hn : ∀ c ∈ ns, 0 ≤ c) (o1 : @LT.lt Nat _ l dx) (o2 : @LT.lt Nat _ dx x) (hr : ∀ q ∈ rest, q.1 ≠ dx)
    (its : List (Bool × Nat)) (stop : List Int) (hits : ∀ i ∈ its, ItOk i) (hdr : ns.drop pl.toNat = (enc its).map (fun (c : Nat) => (c : Int)) ++ stop) (hstop : ∀ c r, stop = c :: r → isBreak c = true)
    (st : Int) (tst : Tok) (hil : its.length ≤ 20) :
   ConX w p loose mean mg mb 282 [.ref x, .int st tst] (tokL w.params k1 k2 l pl tp x dx cv cc rest) 6
     (fun v news' => ∃ (nm : Str) (d : Str × DV) (tp' : Tok), nm.cps.toList = its.map (·.2) ∧ tokDue (its.map (·.2)) nm (its.any (·.1)) = some d ∧ TokAt v news' st d ∧ ∀ q ∈ tokL w.params k1 k2 l (pl + (enc its).length) tp' x dx cv cc rest, q ∈ news')
     (∀ nm, tokDue (its.map (·.2)) nm (its.any (·.1)) = none) rest := by
  unfold ConX
  k_fill
  intro dp un gd cn cs a ccd cl outer A₀ base h₀ L m s Q E B F X N T hk hd hu hret hexc
  have hd' : dp < recursionLimit := dep_lim (by assumption)
  refine wpAny_call ?_
  k_dflt ktr_enter
  rename_i g' L' h' FG' F' N' B' X' T'

  replace F' : Fr g' L' h' (fun z => List.lookup z [(Str.ofString "start", .int st tst), (Str.ofString "self", .ref x)]) := F'
  generalize s.toks + List.length _ = tk0
  have hN128 : ∀ {nm : Str}, nm.cps.toList = its.map (·.2) → ∀ c ∈ nm.cps.toList, c < 128 := fun {nm} e c hc => by
    rw [e] at hc
    obtain ⟨i, hi, rfl⟩ := List.mem_map.mp hc
    exact (hits i hi).1
  have hNlen : ∀ {nm : Str}, nm.cps.toList = its.map (·.2) → nm.length ≤ 20 := fun {nm} e => by
    rw [str_len, e, List.length_map]; exact hil
  tb_start
  · with_reducible rename Fr h₀ _ _ _ => kF
    with_reducible rename News h₀ _ _ _ => kN
    with_reducible rename (its.any _ = true) => hq
    with_reducible rename (_ = List.map _ its) => cn
    with_reducible rename (_ = pl + _) => cp
    subst cp
    refine hret _ _ _ _ kF kN ⟨_, (Str.ofString "symbol", .str _), _, cn, ?_, ⟨_, _, _, _, rfl, List.mem_cons_self .., _, rfl⟩, fun q h => List.mem_cons_of_mem _ (List.mem_cons_of_mem _ h)⟩
    rw [tokDue, if_pos hq]
  · with_reducible rename Fr h₀ _ _ _ => kF
    with_reducible rename News h₀ _ _ _ => kN
    with_reducible rename (its.any _ = false) => hq
    with_reducible rename (_ = List.map _ its) => cn
    with_reducible rename (_ = pl + _) => cp
    with_reducible rename (_ == Str.ofString ".") = true => he
    rw [dot_is, str_beq, decide_eq_true_eq, cn] at he
    subst cp
    refine hret _ _ _ _ kF kN ⟨_, (Str.ofString ".", .none), _, cn, ?_, ⟨_, _, _, _, rfl, List.mem_cons_self .., rfl⟩, fun q h => List.mem_cons_of_mem _ (List.mem_cons_of_mem _ h)⟩
    rw [tokDue, if_neg (by simp [hq]), if_pos he]
  · with_reducible rename (its.any _ = false) => hq
    with_reducible rename (_ = List.map _ its) => cn
    with_reducible rename (_ = pl + _) => cp
    with_reducible rename (_ == Str.ofString ".") = false => he
    with_reducible rename OptInt _ _ => o9
    with_reducible rename (∀ p ∈ _, p ∈ _) => s9
    rw [dot_is, str_beq, decide_eq_false_iff_not, cn] at he
    rw [cn] at o9
    subst cp
    cases hint : intOf (its.map (·.2)) with
    | some n =>
      rw [hint] at o9
      obtain ⟨t9, rfl⟩ := o9
      tb_start
      with_reducible rename Fr h₀ _ _ _ => kF
      with_reducible rename News h₀ _ _ _ => kN
      refine hret _ _ _ _ kF kN ⟨_, (Str.ofString "integer", .int n), _, cn, ?_, ⟨_, _, _, _, rfl, List.mem_cons_self .., _, rfl⟩, fun q h => List.mem_cons_of_mem _ (s9 q (List.mem_cons_of_mem _ h))⟩
      rw [tokDue, if_neg (by simp [hq]), if_neg he, hint]
    | none =>
      rw [hint] at o9
      replace o9 : _ = Value.none := o9
      subst o9
      tb_start
      · with_reducible rename (isFlo _ = true) => hf
        refine unhold ?_
        refine raise_bad rfl ?_
        tb_start
        with_reducible rename Fr g' _ _ _ => F5
        with_reducible rename News g' _ _ _ => N5
        with_reducible rename (∀ q : Addr × Obj, _ → q.1 ≠ _) => ne5
        with_reducible rename (∀ p ∈ _, p ∈ _) => s5
        refine unhold ⟨_, _, _, rfl, bad_at F5 X', (N5 _ (List.mem_cons_self ..)).1, ?_⟩
        have hsub : ∀ q ∈ rest, q ∈ _ := fun q h => s5 q (s9 q (by simp [h]))
        refine leave_bad B' F5 (news_keep N5 hsub) (fun q h => ne5 q (hsub q h)) fun h8 R8 U8 => ?_
        · refine hexc _ _ _ _ FG' U8 R8 fun nm => ?_
          rw [tokDue, if_neg (by simp [hq]), if_neg he, hint]
          rw [cn] at hf
          simp only [hf, if_true]
      · with_reducible rename (isFlo _ = false) => hf
        with_reducible rename Fr h₀ _ _ _ => kF
        with_reducible rename News h₀ _ _ _ => kN
        with_reducible rename (∀ p ∈ _, p ∈ _) => s5
        refine hret _ _ _ _ kF kN ⟨_, (Str.ofString "symbol", .str _), _, cn, ?_, ⟨_, _, _, _, rfl, List.mem_cons_self .., _, rfl⟩, fun q h => List.mem_cons_of_mem _ (s5 q (s9 q (List.mem_cons_of_mem _ h)))⟩
        rw [tokDue, if_neg (by simp [hq]), if_neg he, hint]
        rw [cn] at hf
        simp only [hf, Bool.false_eq_true, if_false]
      · with_reducible rename (_ = List.map _ its) => cn
        exact unhold (Nat.le_trans (hNlen cn) (by decide))
      · with_reducible rename (_ = List.map _ its) => cn
        exact unhold (hN128 cn)
  · with_reducible rename (_ = List.map _ its) => cn
    exact unhold (Nat.le_trans (hNlen cn) (by decide))
  · with_reducible rename (_ = List.map _ its) => cn
    exact unhold (hN128 cn)
theorem word_go {dp un : Nat} {gd : Option (List Code)} {cn : Str} {cs : Scope} {a : Addr} {ccd : Value} {cl : List (Str × Addr)} {outer : List Env} {A₀ : Around} {base h₀ : Heap} {L : Addr} {m : Str → Option Value} {s : Shared} {Q E : Value → Shared → Prop} {w : World} {p : Program} {loose : List Str} {mean : ExcName → Option Value} {mg : Str → Option Value} {mb : Str → Option Value} {rest : List (Addr × Obj)} {k1 : Tok} {k2 : Tok} {l : Addr} {x : Addr} {dx : Addr} {pl : Int} {tp : Tok} {cv : List Value} {cc : Nat} {ns : List Int} {its : List (Bool × Nat)} {stop : List Int} {st : Int} {tst : Tok} (P : (Below A₀ base outer h₀) ∧ (Fr h₀ L s.heap m) ∧ ((Mine.ka.heap_1 w.params).In h₀) ∧ (News h₀ L s.heap ((tokL w.params k1 k2 l pl tp x dx cv cc rest))) ∧ (Top p loose mean mg mb h₀) ∧ (cs.kind = .function) ∧ (dp + 6 < 900) ∧ (un + 8 * 6 < 9000) ∧ (IntsAre cv ns) ∧ (ns.length ≤ 200) ∧ (0 ≤ pl) ∧ (pl ≤ ns.length) ∧ (∀ c ∈ ns, 0 ≤ c) ∧ (@LT.lt Nat _ l dx) ∧ (@LT.lt Nat _ dx x) ∧ (∀ q ∈ rest, q.1 ≠ dx) ∧ (∀ i ∈ its, ItOk i) ∧ (ns.drop pl.toNat = (enc its).map (fun (c : Nat) => (c : Int)) ++ stop) ∧ (∀ c r, stop = c :: r → isBreak c = true) ∧ (its.length ≤ 20) ∧ True)  (hE : ∀ (e : Addr) (g h' : Heap) (tk' : Nat), Fr h₀ L g m → g.UpToSlots h' → RaisedSN base g (envX cn cs L a ccd cl :: outer) e (.ref 79) (rest) h' → (∀ nm, tokDue (its.map (·.2)) nm (its.any (·.1)) = none) → E (.ref e) { s with heap := h', toks := tk' }) (h : ∀ (h' : Heap) (tk' : Nat), Fr h₀ L h' m → ∀ (v : Value) (n : List (Addr × Obj)), (∃ (nm : Str) (d : Str × DV) (tp' : Tok), nm.cps.toList = its.map (·.2) ∧ tokDue (its.map (·.2)) nm (its.any (·.1)) = some d ∧ TokAt v n st d ∧ ∀ q ∈ tokL w.params k1 k2 l (pl + (enc its).length) tp' x dx cv cc rest, q ∈ n) → News h₀ L h' (n) → Q (v) { s with heap := h', toks := tk' }) :
    wpAny (model PySem.Challenge.rw_ok0058_01.row.prog w) (ktrTop dp un gd cn cs L a ccd cl outer) (call (.ref 282) [.ref x, .int st tst]) Q E s :=
  by
  exact conx_use (word_con w p loose mean mg mb rest k1 k2 l x dx pl tp cv cc ns P.2.2.2.2.2.2.2.2.1 P.2.2.2.2.2.2.2.2.2.1 P.2.2.2.2.2.2.2.2.2.2.1 P.2.2.2.2.2.2.2.2.2.2.2.1 P.2.2.2.2.2.2.2.2.2.2.2.2.1 P.2.2.2.2.2.2.2.2.2.2.2.2.2.1 P.2.2.2.2.2.2.2.2.2.2.2.2.2.2.1 P.2.2.2.2.2.2.2.2.2.2.2.2.2.2.2.1 its stop P.2.2.2.2.2.2.2.2.2.2.2.2.2.2.2.2.1 P.2.2.2.2.2.2.2.2.2.2.2.2.2.2.2.2.2.1 P.2.2.2.2.2.2.2.2.2.2.2.2.2.2.2.2.2.2.1 st tst P.2.2.2.2.2.2.2.2.2.2.2.2.2.2.2.2.2.2.2.1) P.1 P.2.1 P.2.2.1 P.2.2.2.1 P.2.2.2.2.1 P.2.2.2.2.2.1 P.2.2.2.2.2.2.1 P.2.2.2.2.2.2.2.1 hE (fun v h' tk' n' F' N' r => by exact h _ _ F' _ _ r N')
end Mine
local macro_rules | `(tactic| walk_at "call ref") => `(tactic| (k_here; k_dflt (refine' Mine.name_go ?k1 ?_; (case k1 => keq_rows); rotate_right 1; intros)))
local macro_rules | `(tactic| walk_at "call ref") => `(tactic| (k_here; k_dflt (refine' Mine.bad_go ?k1 ?_; (case k1 => keq_rows); rotate_right 1; intros)))
namespace Mine
set_option maxRecDepth 100000
set_option maxHeartbeats 0
local macro_rules | `(tactic| walk_at "call ref") => `(tactic| (k_here; k_dflt (refine' value_in_go ?k1 (hold ?_) (hold ?_) ?_; (case k1 => keq_rows); rotate_right 1; intros)))

local macro_rules | `(tactic| walk_at "exec Raise some none") => `(tactic| refine hold ?_)
theorem in_radix_con (w : World) (p : Program) (loose : List Str) (mean : ExcName → Option Value) (mg mb : Str → Option Value) (rest : List (Addr × Obj)) (k1 k2 : Tok) (l x dx : Addr) (pl : Int) (tp : Tok) (cv : List Value) (cc : Nat) (ns : List Int)
    (hI : IntsAre cv ns) (hl : ns.length ≤ 200) (hp0 : 0 ≤ pl) (hp1 : pl ≤ ns.length) (hn : ∀ c ∈ ns, 0 ≤ c) (o1 : @LT.lt Nat _ l dx) (o2 : @LT.lt Nat _ dx x) (hr : ∀ q ∈ rest, q.1 ≠ dx)
    (its : List (Bool × Nat)) (stop : List Int) (hits : ∀ i ∈ its, ItOk i) (hdr : ns.drop pl.toNat = (enc its).map (fun (c : Nat) => (c : Int)) ++ stop) (hstop : ∀ c r, stop = c :: r → isBreak c = true)
    (r : Int) (tr : Tok) (st : Int) (tst : Tok) (hr0 : 0 ≤ r) (hr36 : r ≤ 36) (hil : its.length ≤ 20) (hq : its.any (·.1) = false) :
   ConX w p loose mean mg mb 296 [.ref x, .int r tr, .int st tst] (tokL w.params k1 k2 l pl tp x dx cv cc rest) 5
     (fun v news' => ∃ (n : Int) (t tp' : Tok), v = .int n t ∧ vIn (its.map (·.2)) r = some n ∧ ∀ q ∈ tokL w.params k1 k2 l (pl + (enc its).length) tp' x dx cv cc rest, q ∈ news')
     (vIn (its.map (·.2)) r = none) rest := by
  unfold ConX
  k_fill
  intro dp un gd cn cs a ccd cl outer A₀ base h₀ L m s Q E B F X N T hk hd hu hret hexc
  have hd' : dp < recursionLimit := dep_lim (by assumption)
  refine wpAny_call ?_
  k_dflt ktr_enter
  rename_i g' L' h' FG' F' N' B' X' T'

  replace F' : Fr g' L' h' (fun z => List.lookup z [(Str.ofString "start", .int st tst), (Str.ofString "radix", .int r tr), (Str.ofString "self", .ref x)]) := F'
  generalize s.toks + List.length _ = tk0
  have hN128 : ∀ {nm : Str}, nm.cps.toList = its.map (·.2) → ∀ c ∈ nm.cps.toList, c < 128 := fun {nm} e c hc => by
    rw [e] at hc
    obtain ⟨i, hi, rfl⟩ := List.mem_map.mp hc
    exact (hits i hi).1
  have hNlen : ∀ {nm : Str}, nm.cps.toList = its.map (·.2) → nm.length ≤ 20 := fun {nm} e => by
    rw [str_len, e, List.length_map]; exact hil

  tb_start
  · with_reducible rename (_ = List.map _ its) => cn
    with_reducible rename (_ = pl + _) => cp
    with_reducible rename OptInt _ _ => o9
    with_reducible rename (∀ p ∈ _, p ∈ _) => s9
    rw [cn] at o9
    subst cp
    cases hint : vIn (its.map (·.2)) r with
    | some n =>
      rw [hint] at o9
      obtain ⟨t9, rfl⟩ := o9
      tb_start
      with_reducible rename Fr h₀ _ _ _ => kF
      with_reducible rename News h₀ _ _ _ => kN
      exact hret _ _ _ _ kF kN ⟨n, _, _, rfl, hint, fun q h => s9 q (List.mem_cons_of_mem _ h)⟩
    | none =>
      rw [hint] at o9
      replace o9 : _ = Value.none := o9
      subst o9
      tb_start
      refine unhold ?_
      refine raise_bad rfl ?_
      tb_start
      with_reducible rename Fr g' _ _ _ => F5
      with_reducible rename News g' _ _ _ => N5
      with_reducible rename (∀ q : Addr × Obj, _ → q.1 ≠ _) => ne5
      refine unhold ⟨_, _, _, rfl, bad_at F5 X', (N5 _ (List.mem_cons_self ..)).1, ?_⟩
      have hsub : ∀ q ∈ rest, q ∈ _ := fun q h => s9 q (by simp [h])
      refine leave_bad B' F5 (news_keep N5 hsub) (fun q h => ne5 q (hsub q h)) fun h8 R8 U8 => ?_
      refine hexc _ _ _ _ FG' U8 R8 ?_
      exact hint

  · with_reducible rename (_ = List.map _ its) => cn
    exact unhold (Nat.le_trans (hNlen cn) (by decide))
  · with_reducible rename (_ = List.map _ its) => cn
    exact unhold (hN128 cn)
theorem in_radix_go {dp un : Nat} {gd : Option (List Code)} {cn : Str} {cs : Scope} {a : Addr} {ccd : Value} {cl : List (Str × Addr)} {outer : List Env} {A₀ : Around} {base h₀ : Heap} {L : Addr} {m : Str → Option Value} {s : Shared} {Q E : Value → Shared → Prop} {w : World} {p : Program} {loose : List Str} {mean : ExcName → Option Value} {mg : Str → Option Value} {mb : Str → Option Value} {rest : List (Addr × Obj)} {k1 : Tok} {k2 : Tok} {l : Addr} {x : Addr} {dx : Addr} {pl : Int} {tp : Tok} {cv : List Value} {cc : Nat} {ns : List Int} {its : List (Bool × Nat)} {stop : List Int} {r : Int} {tr : Tok} {st : Int} {tst : Tok} (P : (Below A₀ base outer h₀) ∧ (Fr h₀ L s.heap m) ∧ ((Mine.ka.heap_1 w.params).In h₀) ∧ (News h₀ L s.heap ((tokL w.params k1 k2 l pl tp x dx cv cc rest))) ∧ (Top p loose mean mg mb h₀) ∧ (cs.kind = .function) ∧ (dp + 5 < 900) ∧ (un + 8 * 5 < 9000) ∧ (IntsAre cv ns) ∧ (ns.length ≤ 200) ∧ (0 ≤ pl) ∧ (pl ≤ ns.length) ∧ (∀ c ∈ ns, 0 ≤ c) ∧ (@LT.lt Nat _ l dx) ∧ (@LT.lt Nat _ dx x) ∧ (∀ q ∈ rest, q.1 ≠ dx) ∧ (∀ i ∈ its, ItOk i) ∧ (ns.drop pl.toNat = (enc its).map (fun (c : Nat) => (c : Int)) ++ stop) ∧ (∀ c r, stop = c :: r → isBreak c = true) ∧ (0 ≤ r) ∧ (r ≤ 36) ∧ (its.length ≤ 20) ∧ (its.any (·.1) = false) ∧ True)  (hE : ∀ (e : Addr) (g h' : Heap) (tk' : Nat), Fr h₀ L g m → g.UpToSlots h' → RaisedSN base g (envX cn cs L a ccd cl :: outer) e (.ref 79) (rest) h' → (vIn (its.map (·.2)) r = none) → E (.ref e) { s with heap := h', toks := tk' }) (h : ∀ (h' : Heap) (tk' : Nat), Fr h₀ L h' m → ∀ (n0 : Int) (t tp' : Tok) (n : List (Addr × Obj)), (vIn (its.map (·.2)) r = some n0) → (∀ q ∈ tokL w.params k1 k2 l (pl + (enc its).length) tp' x dx cv cc rest, q ∈ n) → News h₀ L h' (n) → Q (.int n0 t) { s with heap := h', toks := tk' }) :
    wpAny (model PySem.Challenge.rw_ok0058_01.row.prog w) (ktrTop dp un gd cn cs L a ccd cl outer) (call (.ref 296) [.ref x, .int r tr, .int st tst]) Q E s :=
  by
  exact conx_use (in_radix_con w p loose mean mg mb rest k1 k2 l x dx pl tp cv cc ns P.2.2.2.2.2.2.2.2.1 P.2.2.2.2.2.2.2.2.2.1 P.2.2.2.2.2.2.2.2.2.2.1 P.2.2.2.2.2.2.2.2.2.2.2.1 P.2.2.2.2.2.2.2.2.2.2.2.2.1 P.2.2.2.2.2.2.2.2.2.2.2.2.2.1 P.2.2.2.2.2.2.2.2.2.2.2.2.2.2.1 P.2.2.2.2.2.2.2.2.2.2.2.2.2.2.2.1 its stop P.2.2.2.2.2.2.2.2.2.2.2.2.2.2.2.2.1 P.2.2.2.2.2.2.2.2.2.2.2.2.2.2.2.2.2.1 P.2.2.2.2.2.2.2.2.2.2.2.2.2.2.2.2.2.2.1 r tr st tst P.2.2.2.2.2.2.2.2.2.2.2.2.2.2.2.2.2.2.2.1 P.2.2.2.2.2.2.2.2.2.2.2.2.2.2.2.2.2.2.2.2.1 P.2.2.2.2.2.2.2.2.2.2.2.2.2.2.2.2.2.2.2.2.2.1 P.2.2.2.2.2.2.2.2.2.2.2.2.2.2.2.2.2.2.2.2.2.2.1) P.1 P.2.1 P.2.2.1 P.2.2.2.1 P.2.2.2.2.1 P.2.2.2.2.2.1 P.2.2.2.2.2.2.1 P.2.2.2.2.2.2.2.1 hE (fun v h' tk' n' F' N' r => by obtain ⟨n0, t, tp', e, f1, f2⟩ := r; subst e; exact h _ _ F' _ _ _ _ f1 f2 N')
end Mine
namespace Mine
set_option maxRecDepth 100000
set_option maxHeartbeats 0
local macro_rules | `(tactic| walk_at "call ref") => `(tactic| (k_here; k_dflt (refine' code_go ?k1 ?_; (case k1 => keq_rows); rotate_right 1; intro h9 tk9 F9 r9 t9 c9 N9; (try (have k9 := c9.trans (by with_reducible assumption); subst k9)))))
local macro_rules | `(tactic| walk_at "call ref") => `(tactic| (k_here; k_dflt (refine' in_radix_go ?k1 (hold ?_) ?_; (case k1 => keq_rows); rotate_right 1; intros)))

local macro_rules | `(tactic| walk_at "exec Raise some none") => `(tactic| refine hold ?_)
noncomputable def numAcc (k : Int) (l : List Int) : Int := l.foldl (fun a c => a * 10 + (c - 48)) k
theorem numAcc_ge : ∀ (l : List Int) (k : Int), 0 ≤ k → (∀ c ∈ l, 48 ≤ c) → k ≤ numAcc k l
  | [], _, _, _ => Int.le_refl _
  | c :: r, k, hk, h => by
    have hc := h c (List.mem_cons_self ..)
    have := numAcc_ge r (k * 10 + (c - 48)) (by omega) (fun x hx => h x (List.mem_cons_of_mem _ hx))
    show k ≤ numAcc (k * 10 + (c - 48)) r
    omega
theorem numbered_con (w : World) (p : Program) (loose : List Str) (mean : ExcName → Option Value) (mg mb : Str → Option Value) (rest : List (Addr × Obj)) (k1 k2 : Tok) (l x dx : Addr) (pl : Int) (tp : Tok) (cv : List Value) (cc : Nat) (ns : List Int)
    (hI : IntsAre cv ns) (hl : ns.length ≤ 200) (hp0 : 0 ≤ pl) (hp1 : pl ≤ ns.length) (hn : ∀ c ∈ ns, 0 ≤ c) (o1 : @LT.lt Nat _ l dx) (o2 : @LT.lt Nat _ dx x) (hr : ∀ q ∈ rest, q.1 ≠ dx)
    (its : List (Bool × Nat)) (stop ds : List Int) (hits : ∀ i ∈ its, ItOk i) (hdr : ns.drop pl.toNat = ds ++ 114 :: ((enc its).map (fun (c : Nat) => (c : Int)) ++ stop)) (hstop : ∀ c r, stop = c :: r → isBreak c = true)
    (hds : ∀ c ∈ ds, 48 ≤ c ∧ c ≤ 57) (hnum : numAcc 0 ds ≤ 99) (st : Int) (tst : Tok) (hil : its.length ≤ 20) (hq : its.any (·.1) = false) :
   ConX w p loose mean mg mb 303 [.ref x, .int st tst] (tokL w.params k1 k2 l pl tp x dx cv cc rest) 7
     (fun v news' => ∃ (n : Int) (tp' : Tok), TokAt v news' st (Str.ofString "integer", .int n) ∧ vIn (its.map (·.2)) (numAcc 0 ds) = some n ∧ (2 ≤ numAcc 0 ds ∧ numAcc 0 ds ≤ 36) ∧ ∀ q ∈ tokL w.params k1 k2 l (pl + ds.length + 1 + (enc its).length) tp' x dx cv cc rest, q ∈ news')
     (2 ≤ numAcc 0 ds ∧ numAcc 0 ds ≤ 36 → vIn (its.map (·.2)) (numAcc 0 ds) = none) rest := by
  unfold ConX
  k_fill
  intro dp un gd cn cs a ccd cl outer A₀ base h₀ L m s Q E B F X N T hk hd hu hret hexc
  have hd' : dp < recursionLimit := dep_lim (by assumption)
  refine wpAny_call ?_
  k_dflt ktr_enter
  rename_i g' L' h' FG' F' N' B' X' T'

  replace F' : Fr g' L' h' (fun z => List.lookup z [(Str.ofString "start", .int st tst), (Str.ofString "self", .ref x)]) := F'
  generalize s.toks + List.length _ = tk0
  tb_start
  refine unhold ?_
  with_reducible rename Fr g' _ _ _ => F1
  with_reducible rename News g' _ _ _ => N1
  refine While_inv2 (n₀ := ds.length) (fun n m1 news1 => ∃ (j : Int) (t1 : Tok) (k : Int) (tk : Tok) (left : List Int), news1 = tokL w.params k1 k2 l j t1 x dx cv cc rest ∧ Has m1 [(Str.ofString "self", .ref x), (Str.ofString "start", .int st tst), (Str.ofString "number", .int k tk)] ∧ ns.drop j.toNat = left ++ 114 :: ((enc its).map (fun (c : Nat) => (c : Int)) ++ stop) ∧ 0 ≤ j ∧ j ≤ ns.length ∧ j + left.length = pl + ds.length ∧ n = left.length ∧ 0 ≤ k ∧ numAcc k left = numAcc 0 ds ∧ ∀ c ∈ left, 48 ≤ c ∧ c ≤ 57) F1 N1 ⟨pl, tp, 0, _, ds, rfl, .cons rfl (.cons rfl (.cons rfl .nil)), hdr, hp0, hp1, rfl, rfl, Int.le_refl _, rfl, hds⟩ ?_ (by passes_own)
  rintro n m1 news1 h1 tk1 F2 N2 ⟨j, t1, k, tk, left, rfl, hm, hdr2, hj0, hj1, hjl, hn2, hk0, hk1, hd2⟩
  rw [hm.see] at F2
  have hkb : k ≤ 99 := by have := numAcc_ge left k hk0 (fun c hc => (hd2 c hc).1); omega
  have hj200 : j ≤ 300 := by omega
  cases left with
  | cons c left =>
    obtain ⟨hA1, hA2, hA3⟩ : codeAt ns j = c ∧ j < ns.length ∧ ns.drop (j + 1).toNat = left ++ 114 :: ((enc its).map (fun (c : Nat) => (c : Int)) ++ stop) := codeAt_of hj0 hdr2
    obtain ⟨hc1, hc2⟩ := hd2 c (List.mem_cons_self ..)
    tb_start
    with_reducible rename Fr g' _ _ _ => F3
    with_reducible rename News g' _ _ _ => N3
    refine ⟨_, _, _, _, left.length, rfl, F3, N3, by rw [hn2]; exact Nat.lt_succ_self _, j + 1, _, _, _, left, rfl, .cons rfl (.cons rfl (.cons rfl .nil)), hA3, by omega, by omega, ?_, rfl, by omega, ?_, fun y hy => hd2 y (List.mem_cons_of_mem _ hy)⟩
    · simp only [List.length_cons] at hjl; omega
    · rw [← hk1]
      refine congrArg (fun z => numAcc z left) ?_
      dsimp only
      omega
  | nil =>
    obtain ⟨hA1, hA2, hA3⟩ : codeAt ns j = 114 ∧ j < ns.length ∧ ns.drop (j + 1).toNat = (enc its).map (fun (c : Nat) => (c : Int)) ++ stop := codeAt_of hj0 hdr2
    have hkN : k = numAcc 0 ds := hk1
    subst hkN
    have hjl2 : j = pl + ds.length := by simpa using hjl
    subst hjl2
    tb_start
    · with_reducible rename Fr h₀ _ _ _ => kF
      with_reducible rename News h₀ _ _ _ => kN
      with_reducible rename (vIn _ _ = some _) => hv
      with_reducible rename (∀ q ∈ _, q ∈ _) => s9
      exact hret _ _ _ _ kF kN ⟨_, _, ⟨_, _, _, _, rfl, List.mem_cons_self .., _, rfl⟩, hv, ⟨by assumption, by assumption⟩, fun q h => List.mem_cons_of_mem _ (s9 q h)⟩
    · refine unhold fun e8 g8 h8 tk8 F8 U8 R8 m8 => ?_
      refine leave_onSN B' F8 R8 U8 fun h9 R9 _ U9 => ?_
      refine hexc _ _ _ _ FG' U9 R9 ?_
      exact fun _ => m8
    · refine unhold ?_
      refine raise_bad rfl ?_
      tb_start
      with_reducible rename Fr g' _ _ _ => F5
      with_reducible rename News g' _ _ _ => N5
      with_reducible rename (∀ q : Addr × Obj, _ → q.1 ≠ _) => ne5
      refine unhold ⟨_, _, _, rfl, bad_at F5 X', (N5 _ (List.mem_cons_self ..)).1, ?_⟩
      refine leave_bad (news := rest) B' F5 (news_keep N5 (fun q h => by simp [h])) (fun q h => ne5 q (by simp [h])) fun h8 R8 U8 => ?_
      refine hexc _ _ _ _ FG' U8 R8 ?_
      exact fun z => by omega
    · refine unhold ?_
      refine raise_bad rfl ?_
      tb_start
      with_reducible rename Fr g' _ _ _ => F5
      with_reducible rename News g' _ _ _ => N5
      with_reducible rename (∀ q : Addr × Obj, _ → q.1 ≠ _) => ne5
      refine unhold ⟨_, _, _, rfl, bad_at F5 X', (N5 _ (List.mem_cons_self ..)).1, ?_⟩
      refine leave_bad (news := rest) B' F5 (news_keep N5 (fun q h => by simp [h])) (fun q h => ne5 q (by simp [h])) fun h8 R8 U8 => ?_
      refine hexc _ _ _ _ FG' U8 R8 ?_
      exact fun z => by omega

theorem numbered_go {dp un : Nat} {gd : Option (List Code)} {cn : Str} {cs : Scope} {a : Addr} {ccd : Value} {cl : List (Str × Addr)} {outer : List Env} {A₀ : Around} {base h₀ : Heap} {L : Addr} {m : Str → Option Value} {s : Shared} {Q E : Value → Shared → Prop} {w : World} {p : Program} {loose : List Str} {mean : ExcName → Option Value} {mg : Str → Option Value} {mb : Str → Option Value} {rest : List (Addr × Obj)} {k1 : Tok} {k2 : Tok} {l : Addr} {x : Addr} {dx : Addr} {pl : Int} {tp : Tok} {cv : List Value} {cc : Nat} {ns : List Int} {its : List (Bool × Nat)} {stop : List Int} {ds : List Int} {st : Int} {tst : Tok} (P : (Below A₀ base outer h₀) ∧ (Fr h₀ L s.heap m) ∧ ((Mine.ka.heap_1 w.params).In h₀) ∧ (News h₀ L s.heap ((tokL w.params k1 k2 l pl tp x dx cv cc rest))) ∧ (Top p loose mean mg mb h₀) ∧ (cs.kind = .function) ∧ (dp + 7 < 900) ∧ (un + 8 * 7 < 9000) ∧ (IntsAre cv ns) ∧ (ns.length ≤ 200) ∧ (0 ≤ pl) ∧ (pl ≤ ns.length) ∧ (∀ c ∈ ns, 0 ≤ c) ∧ (@LT.lt Nat _ l dx) ∧ (@LT.lt Nat _ dx x) ∧ (∀ q ∈ rest, q.1 ≠ dx) ∧ (∀ i ∈ its, ItOk i) ∧ (ns.drop pl.toNat = ds ++ 114 :: ((enc its).map (fun (c : Nat) => (c : Int)) ++ stop)) ∧ (∀ c r, stop = c :: r → isBreak c = true) ∧ (∀ c ∈ ds, 48 ≤ c ∧ c ≤ 57) ∧ (numAcc 0 ds ≤ 99) ∧ (its.length ≤ 20) ∧ (its.any (·.1) = false) ∧ True)  (hE : ∀ (e : Addr) (g h' : Heap) (tk' : Nat), Fr h₀ L g m → g.UpToSlots h' → RaisedSN base g (envX cn cs L a ccd cl :: outer) e (.ref 79) (rest) h' → (2 ≤ numAcc 0 ds ∧ numAcc 0 ds ≤ 36 → vIn (its.map (·.2)) (numAcc 0 ds) = none) → E (.ref e) { s with heap := h', toks := tk' }) (h : ∀ (h' : Heap) (tk' : Nat), Fr h₀ L h' m → ∀ (v : Value) (n0 : Int) (tp' : Tok) (n : List (Addr × Obj)), (TokAt v n st (Str.ofString "integer", .int n0)) → (vIn (its.map (·.2)) (numAcc 0 ds) = some n0) → (2 ≤ numAcc 0 ds ∧ numAcc 0 ds ≤ 36) → (∀ q ∈ tokL w.params k1 k2 l (pl + ds.length + 1 + (enc its).length) tp' x dx cv cc rest, q ∈ n) → News h₀ L h' (n) → Q (v) { s with heap := h', toks := tk' }) :
    wpAny (model PySem.Challenge.rw_ok0058_01.row.prog w) (ktrTop dp un gd cn cs L a ccd cl outer) (call (.ref 303) [.ref x, .int st tst]) Q E s :=
  by
  exact conx_use (numbered_con w p loose mean mg mb rest k1 k2 l x dx pl tp cv cc ns P.2.2.2.2.2.2.2.2.1 P.2.2.2.2.2.2.2.2.2.1 P.2.2.2.2.2.2.2.2.2.2.1 P.2.2.2.2.2.2.2.2.2.2.2.1 P.2.2.2.2.2.2.2.2.2.2.2.2.1 P.2.2.2.2.2.2.2.2.2.2.2.2.2.1 P.2.2.2.2.2.2.2.2.2.2.2.2.2.2.1 P.2.2.2.2.2.2.2.2.2.2.2.2.2.2.2.1 its stop ds P.2.2.2.2.2.2.2.2.2.2.2.2.2.2.2.2.1 P.2.2.2.2.2.2.2.2.2.2.2.2.2.2.2.2.2.1 P.2.2.2.2.2.2.2.2.2.2.2.2.2.2.2.2.2.2.1 P.2.2.2.2.2.2.2.2.2.2.2.2.2.2.2.2.2.2.2.1 P.2.2.2.2.2.2.2.2.2.2.2.2.2.2.2.2.2.2.2.2.1 st tst P.2.2.2.2.2.2.2.2.2.2.2.2.2.2.2.2.2.2.2.2.2.1 P.2.2.2.2.2.2.2.2.2.2.2.2.2.2.2.2.2.2.2.2.2.2.1) P.1 P.2.1 P.2.2.1 P.2.2.2.1 P.2.2.2.2.1 P.2.2.2.2.2.1 P.2.2.2.2.2.2.1 P.2.2.2.2.2.2.2.1 hE (fun v h' tk' n' F' N' r => by obtain ⟨n0, tp', f1, f2, f3, f4⟩ := r; exact h _ _ F' _ _ _ _ f1 f2 f3 f4 N')
end Mine
local macro_rules | `(tactic| walk_at "call ref") => `(tactic| (k_here; k_dflt (refine' Mine.code_go ?k1 ?_; (case k1 => keq_rows); rotate_right 1; intro h9 tk9 F9 r9 t9 c9 N9; (try (have k9 := c9.trans (by with_reducible assumption); subst k9)))))
local macro_rules | `(tactic| walk_at "call ref") => `(tactic| (k_here; k_dflt (refine' Mine.in_radix_go ?k1 (Mine.hold ?_) ?_; (case k1 => keq_rows); rotate_right 1; intros)))
namespace Mine
set_option maxRecDepth 100000
set_option maxHeartbeats 0
theorem truthy_lit {M : Model} {A : Around} {E : Value → Shared → Prop} {s : Shared} {c b : Bool} {Q : Bool → Shared → Prop} (e : c = b) (h : Q b s) : wpAny M A (truthy (.bool c)) Q E s := by subst e; exact wpAny_pure h
local macro_rules | `(tactic| walk_at "truthy bool") => `(tactic| (first | with_reducible refine truthy_lit (b := true) (by decide) ?_ | with_reducible refine truthy_lit (b := false) (by decide) ?_))
local macro_rules | `(tactic| walk_at "ite") => `(tactic| first | with_reducible refine ite_tt ?_ | with_reducible refine ite_ff ?_)
local macro_rules | `(tactic| walk_at "call ref") => `(tactic| (k_here; k_dflt (refine' code1_go ?k1 ?_; (case k1 => keq_rows); rotate_right 1; intro h9 tk9 F9 r9 t9 c9 N9; (try (have k9 := c9.trans (by with_reducible assumption); subst k9)))))
local macro_rules | `(tactic| walk_at "call ref") => `(tactic| (k_here; k_dflt (refine' numbered_go ?k1 (hold ?_) ?_; (case k1 => keq_rows); rotate_right 1; intros)))

noncomputable def radTab : List (PyData × PyData) := [(.int 88, .int 16), (.int 120, .int 16), (.int 79, .int 8), (.int 111, .int 8), (.int 66, .int 2), (.int 98, .int 2)]
local macro_rules | `(tactic| walk_at "eval Dict") => `(tactic| refine hold ?_)
theorem disp_letter (w : World) (p : Program) (loose : List Str) (mean : ExcName → Option Value) (mg mb : Str → Option Value) (rest : List (Addr × Obj)) (k1 k2 : Tok) (l x dx : Addr) (pl : Int) (tp : Tok) (cv : List Value) (cc : Nat) (ns : List Int)
    (hI : IntsAre cv ns) (hl : ns.length ≤ 200) (hp0 : 0 ≤ pl) (hp1 : pl ≤ ns.length) (hn : ∀ c ∈ ns, 0 ≤ c) (o1 : @LT.lt Nat _ l dx) (o2 : @LT.lt Nat _ dx x) (hr : ∀ q ∈ rest, q.1 ≠ dx)
    (its : List (Bool × Nat)) (stop : List Int) (hits : ∀ i ∈ its, ItOk i) (hstop : ∀ c r, stop = c :: r → isBreak c = true) (hil : its.length ≤ 20) (hq : its.any (·.1) = false) (tst : Tok)
    (c r : Int) (hc : (c = 98 ∧ r = 2) ∨ (c = 111 ∧ r = 8) ∨ (c = 88 ∧ r = 16)) (hdr : ns.drop pl.toNat = 35 :: c :: ((enc its).map (fun (c : Nat) => (c : Int)) ++ stop)) :

   ConX w p loose mean mg mb 289 [.ref x, .int pl tst] (tokL w.params k1 k2 l pl tp x dx cv cc rest) 9
     (fun v news' => ∃ (n : Int) (tp' : Tok), TokAt v news' pl (Str.ofString "integer", .int n) ∧ vIn (its.map (·.2)) (r) = some n ∧ (2 ≤ r ∧ r ≤ 36) ∧ ∀ q ∈ tokL w.params k1 k2 l (pl + 2 + (enc its).length) tp' x dx cv cc rest, q ∈ news')
     (2 ≤ r ∧ r ≤ 36 → vIn (its.map (·.2)) (r) = none) rest := by
  unfold ConX
  k_fill
  intro dp un gd cn cs a ccd cl outer A₀ base h₀ L m s Q E B F X N T hk hd hu hret hexc
  have hd' : dp < recursionLimit := dep_lim (by assumption)
  refine wpAny_call ?_
  k_dflt ktr_enter
  rename_i g' L' h' FG' F' N' B' X' T'

  replace F' : Fr g' L' h' (fun z => List.lookup z [(Str.ofString "start", .int pl tst), (Str.ofString "self", .ref x)]) := F'
  generalize s.toks + List.length _ = tk0
  obtain ⟨hA1, hA2, hA3⟩ : codeAt ns pl = 35 ∧ pl < ns.length ∧ ns.drop (pl + 1).toNat = c :: ((enc its).map (fun (c : Nat) => (c : Int)) ++ stop) := codeAt_of hp0 hdr
  obtain ⟨hB1, hB2, hB3⟩ : codeAt ns (pl + 1) = c ∧ pl + 1 < ns.length ∧ ns.drop (pl + 1 + 1).toNat = (enc its).map (fun (c : Nat) => (c : Int)) ++ stop := codeAt_of (j := pl + 1) (by omega) hA3
  replace hB3 : ns.drop (pl + 2).toNat = (enc its).map (fun (c : Nat) => (c : Int)) ++ stop := by rw [show pl + 2 = pl + 1 + 1 by omega]; exact hB3
  clear hA1 hA3 hdr
  rcases hc with ⟨rfl, rfl⟩ | ⟨rfl, rfl⟩ | ⟨rfl, rfl⟩
  · tb_start
    refine unhold ?_
    with_reducible rename Fr g' _ _ _ => F7
    with_reducible rename News g' _ _ _ => N7
    have N8 := news_tail (news_tail N7)
    refine Dict_lits_int (D := radTab) ?hD ?hs ?hn ?hall ?hl ?h0 ?hlen ?_
    case hD => exact rfl
    case hs => exact rfl
    case hn => decide
    case hall => exact rfl
    case hl => exact rfl
    case h0 => exact List.cons_ne_nil _ _
    case hlen => exact Nat.le_of_ble_eq_true rfl
    intro a8 o8 h8 tk8 le8 g8 t8 k8
    have F8 : Fr g' L' h8 _ := F7.keeps k8
    have N9 : News g' L' h8 _ := fun q hq => ⟨k8 _ _ (N8 q hq).1, (N8 q hq).2⟩
    have lo8 : (a8 == sysModules) = false := by
      have := modules_low (T'.nolimit.keeps F7.keep)
      exact beq_eq_false_iff_ne.mpr (Nat.ne_of_gt (Nat.lt_of_lt_of_le this le8))
    clear F7 N7 N8
    walk1
    walk1
    obtain ⟨kvs, hd8, hf8⟩ := t8
    refine item_intTab (D := radTab) (dv := .int 2) (TabAt.ofObj lo8 g8 hd8 hf8) (show PySem.Spec.lookup (.int 98) radTab = some _ from rfl) ?_
    intro v8 hv8
    obtain ⟨t8, rfl⟩ := PyProof.V.Flat.int_inv hv8
    tb_start
    · with_reducible rename Fr h₀ _ _ _ => kF
      with_reducible rename News h₀ _ _ _ => kN
      with_reducible rename (vIn _ _ = some _) => hv
      with_reducible rename (∀ q ∈ _, q ∈ _) => s9
      exact hret _ _ _ _ kF kN ⟨_, _, ⟨_, _, _, _, rfl, List.mem_cons_self .., _, rfl⟩, hv, ⟨by decide, by decide⟩, fun q h => List.mem_cons_of_mem _ (s9 q h)⟩
    · refine unhold fun e8 g8 h8 tk8 F8 U8 R8 m8 => ?_
      refine leave_onSN B' F8 R8 U8 fun h9 R9 _ U9 => ?_
      refine hexc _ _ _ _ FG' U9 R9 ?_
      exact fun _ => m8
  · tb_start
    refine unhold ?_
    with_reducible rename Fr g' _ _ _ => F7
    with_reducible rename News g' _ _ _ => N7
    have N8 := news_tail (news_tail N7)
    refine Dict_lits_int (D := radTab) ?hD ?hs ?hn ?hall ?hl ?h0 ?hlen ?_
    case hD => exact rfl
    case hs => exact rfl
    case hn => decide
    case hall => exact rfl
    case hl => exact rfl
    case h0 => exact List.cons_ne_nil _ _
    case hlen => exact Nat.le_of_ble_eq_true rfl
    intro a8 o8 h8 tk8 le8 g8 t8 k8
    have F8 : Fr g' L' h8 _ := F7.keeps k8
    have N9 : News g' L' h8 _ := fun q hq => ⟨k8 _ _ (N8 q hq).1, (N8 q hq).2⟩
    have lo8 : (a8 == sysModules) = false := by
      have := modules_low (T'.nolimit.keeps F7.keep)
      exact beq_eq_false_iff_ne.mpr (Nat.ne_of_gt (Nat.lt_of_lt_of_le this le8))
    clear F7 N7 N8
    walk1
    walk1
    obtain ⟨kvs, hd8, hf8⟩ := t8
    refine item_intTab (D := radTab) (dv := .int 8) (TabAt.ofObj lo8 g8 hd8 hf8) (show PySem.Spec.lookup (.int 111) radTab = some _ from rfl) ?_
    intro v8 hv8
    obtain ⟨t8, rfl⟩ := PyProof.V.Flat.int_inv hv8
    tb_start
    · with_reducible rename Fr h₀ _ _ _ => kF
      with_reducible rename News h₀ _ _ _ => kN
      with_reducible rename (vIn _ _ = some _) => hv
      with_reducible rename (∀ q ∈ _, q ∈ _) => s9
      exact hret _ _ _ _ kF kN ⟨_, _, ⟨_, _, _, _, rfl, List.mem_cons_self .., _, rfl⟩, hv, ⟨by decide, by decide⟩, fun q h => List.mem_cons_of_mem _ (s9 q h)⟩
    · refine unhold fun e8 g8 h8 tk8 F8 U8 R8 m8 => ?_
      refine leave_onSN B' F8 R8 U8 fun h9 R9 _ U9 => ?_
      refine hexc _ _ _ _ FG' U9 R9 ?_
      exact fun _ => m8
  · tb_start
    refine unhold ?_
    with_reducible rename Fr g' _ _ _ => F7
    with_reducible rename News g' _ _ _ => N7
    have N8 := news_tail (news_tail N7)
    refine Dict_lits_int (D := radTab) ?hD ?hs ?hn ?hall ?hl ?h0 ?hlen ?_
    case hD => exact rfl
    case hs => exact rfl
    case hn => decide
    case hall => exact rfl
    case hl => exact rfl
    case h0 => exact List.cons_ne_nil _ _
    case hlen => exact Nat.le_of_ble_eq_true rfl
    intro a8 o8 h8 tk8 le8 g8 t8 k8
    have F8 : Fr g' L' h8 _ := F7.keeps k8
    have N9 : News g' L' h8 _ := fun q hq => ⟨k8 _ _ (N8 q hq).1, (N8 q hq).2⟩
    have lo8 : (a8 == sysModules) = false := by
      have := modules_low (T'.nolimit.keeps F7.keep)
      exact beq_eq_false_iff_ne.mpr (Nat.ne_of_gt (Nat.lt_of_lt_of_le this le8))
    clear F7 N7 N8
    walk1
    walk1
    obtain ⟨kvs, hd8, hf8⟩ := t8
    refine item_intTab (D := radTab) (dv := .int 16) (TabAt.ofObj lo8 g8 hd8 hf8) (show PySem.Spec.lookup (.int 88) radTab = some _ from rfl) ?_
    intro v8 hv8
    obtain ⟨t8, rfl⟩ := PyProof.V.Flat.int_inv hv8
    tb_start
    · with_reducible rename Fr h₀ _ _ _ => kF
      with_reducible rename News h₀ _ _ _ => kN
      with_reducible rename (vIn _ _ = some _) => hv
      with_reducible rename (∀ q ∈ _, q ∈ _) => s9
      exact hret _ _ _ _ kF kN ⟨_, _, ⟨_, _, _, _, rfl, List.mem_cons_self .., _, rfl⟩, hv, ⟨by decide, by decide⟩, fun q h => List.mem_cons_of_mem _ (s9 q h)⟩
    · refine unhold fun e8 g8 h8 tk8 F8 U8 R8 m8 => ?_
      refine leave_onSN B' F8 R8 U8 fun h9 R9 _ U9 => ?_
      refine hexc _ _ _ _ FG' U9 R9 ?_
      exact fun _ => m8

end Mine
local macro_rules | `(tactic| walk_at "call ref") => `(tactic| (k_here; k_dflt (refine' Mine.code1_go ?k1 ?_; (case k1 => keq_rows); rotate_right 1; intro h9 tk9 F9 r9 t9 c9 N9; (try (have k9 := c9.trans (by with_reducible assumption); subst k9)))))
local macro_rules | `(tactic| walk_at "call ref") => `(tactic| (k_here; k_dflt (refine' Mine.numbered_go ?k1 (Mine.hold ?_) ?_; (case k1 => keq_rows); rotate_right 1; intros)))
namespace Mine
set_option maxRecDepth 100000
set_option maxHeartbeats 0

theorem any_no {l : List Int} {c : Int} (h : ∀ x ∈ l, x ≠ c) : (l.any fun x => x == c) = false := by
  rw [List.any_eq_false]; intro x hx; simpa using h x hx
local macro_rules | `(tactic| walk_at "truthy bool") => `(tactic| (refine truthy_lit (b := false) (any_no (by simp only [List.forall_mem_cons, List.not_mem_nil, false_implies, implies_true, and_true]; omega)) ?_))
local macro_rules | `(tactic| walk_at "ite") => `(tactic| first | with_reducible refine ite_tt ?_ | with_reducible refine ite_ff ?_)
theorem disp_num (w : World) (p : Program) (loose : List Str) (mean : ExcName → Option Value) (mg mb : Str → Option Value) (rest : List (Addr × Obj)) (k1 k2 : Tok) (l x dx : Addr) (pl : Int) (tp : Tok) (cv : List Value) (cc : Nat) (ns : List Int)
    (hI : IntsAre cv ns) (hl : ns.length ≤ 200) (hp0 : 0 ≤ pl) (hp1 : pl ≤ ns.length) (hn : ∀ c ∈ ns, 0 ≤ c) (o1 : @LT.lt Nat _ l dx) (o2 : @LT.lt Nat _ dx x) (hr : ∀ q ∈ rest, q.1 ≠ dx)
    (its : List (Bool × Nat)) (stop : List Int) (hits : ∀ i ∈ its, ItOk i) (hstop : ∀ c r, stop = c :: r → isBreak c = true) (hil : its.length ≤ 20) (hq : its.any (·.1) = false) (tst : Tok)
    (c : Int) (ds : List Int) (hds : ∀ y ∈ c :: ds, 48 ≤ y ∧ y ≤ 57) (hnum : numAcc 0 (c :: ds) ≤ 99) (hdr : ns.drop pl.toNat = 35 :: ((c :: ds) ++ 114 :: ((enc its).map (fun (c : Nat) => (c : Int)) ++ stop))) :

   ConX w p loose mean mg mb 289 [.ref x, .int pl tst] (tokL w.params k1 k2 l pl tp x dx cv cc rest) 9
     (fun v news' => ∃ (n : Int) (tp' : Tok), TokAt v news' pl (Str.ofString "integer", .int n) ∧ vIn (its.map (·.2)) (numAcc 0 (c :: ds)) = some n ∧ (2 ≤ numAcc 0 (c :: ds) ∧ numAcc 0 (c :: ds) ≤ 36) ∧ ∀ q ∈ tokL w.params k1 k2 l (pl + 1 + (c :: ds).length + 1 + (enc its).length) tp' x dx cv cc rest, q ∈ news')
     (2 ≤ numAcc 0 (c :: ds) ∧ numAcc 0 (c :: ds) ≤ 36 → vIn (its.map (·.2)) (numAcc 0 (c :: ds)) = none) rest := by
  unfold ConX
  k_fill
  intro dp un gd cn cs a ccd cl outer A₀ base h₀ L m s Q E B F X N T hk hd hu hret hexc
  have hd' : dp < recursionLimit := dep_lim (by assumption)
  refine wpAny_call ?_
  k_dflt ktr_enter
  rename_i g' L' h' FG' F' N' B' X' T'

  replace F' : Fr g' L' h' (fun z => List.lookup z [(Str.ofString "start", .int pl tst), (Str.ofString "self", .ref x)]) := F'
  generalize s.toks + List.length _ = tk0
  obtain ⟨hA1, hA2, hA3⟩ : codeAt ns pl = 35 ∧ pl < ns.length ∧ ns.drop (pl + 1).toNat = (c :: ds) ++ 114 :: ((enc its).map (fun (c : Nat) => (c : Int)) ++ stop) := codeAt_of hp0 hdr
  obtain ⟨hB1, hB2, hB3⟩ : codeAt ns (pl + 1) = c ∧ pl + 1 < ns.length ∧ ns.drop (pl + 1 + 1).toNat = ds ++ 114 :: ((enc its).map (fun (c : Nat) => (c : Int)) ++ stop) := codeAt_of (j := pl + 1) (by omega) hA3
  obtain ⟨hc1, hc2⟩ := hds c (List.mem_cons_self ..)
  clear hA1 hB3 hdr
  tb_start
  · exfalso; omega
  · exfalso; omega
  · with_reducible rename Fr h₀ _ _ _ => kF
    with_reducible rename News h₀ _ _ _ => kN
    with_reducible rename TokAt _ _ _ _ => ta
    with_reducible rename (vIn _ _ = some _) => hv
    with_reducible rename (2 ≤ _ ∧ _) => hz
    with_reducible rename (∀ q ∈ _, q ∈ _) => s9
    exact hret _ _ _ _ kF kN ⟨_, _, ta, hv, hz, s9⟩
  · refine unhold fun e8 g8 h8 tk8 F8 U8 R8 m8 => ?_
    refine leave_onSN B' F8 R8 U8 fun h9 R9 _ U9 => ?_
    refine hexc _ _ _ _ FG' U9 R9 ?_
    exact m8

end Mine
namespace Mine
set_option maxRecDepth 100000
set_option maxHeartbeats 0

inductive RadHead : List Int → Int → Prop
  | letter {c r : Int} (h : (c = 98 ∧ r = 2) ∨ (c = 111 ∧ r = 8) ∨ (c = 88 ∧ r = 16)) : RadHead [35, c] r
  | num {c : Int} {ds : List Int} (hds : ∀ y ∈ c :: ds, 48 ≤ y ∧ y ≤ 57) (hnum : numAcc 0 (c :: ds) ≤ 99) : RadHead (35 :: ((c :: ds) ++ [114])) (numAcc 0 (c :: ds))
theorem disp_con (w : World) (p : Program) (loose : List Str) (mean : ExcName → Option Value) (mg mb : Str → Option Value) (rest : List (Addr × Obj)) (k1 k2 : Tok) (l x dx : Addr) (pl : Int) (tp : Tok) (cv : List Value) (cc : Nat) (ns : List Int)
    (hI : IntsAre cv ns) (hl : ns.length ≤ 200) (hp0 : 0 ≤ pl) (hp1 : pl ≤ ns.length) (hn : ∀ c ∈ ns, 0 ≤ c) (o1 : @LT.lt Nat _ l dx) (o2 : @LT.lt Nat _ dx x) (hr : ∀ q ∈ rest, q.1 ≠ dx)
    (its : List (Bool × Nat)) (stop : List Int) (hits : ∀ i ∈ its, ItOk i) (hstop : ∀ c r, stop = c :: r → isBreak c = true) (hil : its.length ≤ 20) (hq : its.any (·.1) = false) (tst : Tok)
    (hd : List Int) (r : Int) (H : RadHead hd r) (hdr : ns.drop pl.toNat = hd ++ ((enc its).map (fun (c : Nat) => (c : Int)) ++ stop)) :

   ConX w p loose mean mg mb 289 [.ref x, .int pl tst] (tokL w.params k1 k2 l pl tp x dx cv cc rest) 9
     (fun v news' => ∃ (n : Int) (tp' : Tok), TokAt v news' pl (Str.ofString "integer", .int n) ∧ vIn (its.map (·.2)) (r) = some n ∧ (2 ≤ r ∧ r ≤ 36) ∧ ∀ q ∈ tokL w.params k1 k2 l (pl + hd.length + (enc its).length) tp' x dx cv cc rest, q ∈ news')
     (2 ≤ r ∧ r ≤ 36 → vIn (its.map (·.2)) (r) = none) rest := by
  cases H with
  | letter h => exact disp_letter w p loose mean mg mb rest k1 k2 l x dx pl tp cv cc ns hI hl hp0 hp1 hn o1 o2 hr its stop hits hstop hil hq tst _ _ h hdr
  | @num c ds hds hnum =>
    have e : pl + ((35 :: ((c :: ds) ++ [114]) : List Int).length : Int) = pl + 1 + (c :: ds).length + 1 := by
      simp only [List.length_cons, List.length_append, List.length_nil]; omega
    rw [e]
    exact disp_num w p loose mean mg mb rest k1 k2 l x dx pl tp cv cc ns hI hl hp0 hp1 hn o1 o2 hr its stop hits hstop hil hq tst c ds hds hnum (by rw [hdr]; simp)
theorem skips_det {ns : List Int} {i a b : Nat} (h1 : Skips ns i a) (h2 : Skips ns i b) : a = b := by
  induction h1 with
  | stop h =>
    cases h2 with
    | stop _ => rfl
    | line e h' _ => exact absurd h' (h _ _ e).1
    | blank e _ h' _ => exact absurd h' (h _ _ e).2
  | line e h _ ih =>
    cases h2 with
    | stop h' => exact absurd h (h' _ _ e).1
    | line e' _ k => rw [e] at e'; cases e'; exact ih k
    | blank e' h' _ _ => rw [e] at e'; cases e'; exact absurd h h'
  | blank e h h2' _ ih =>
    cases h2 with
    | stop h' => exact absurd h2' (h' _ _ e).2
    | line e' h' _ => rw [e] at e'; cases e'; exact absurd h' h
    | blank e' _ _ k => rw [e] at e'; cases e'; exact ih k
noncomputable def SkipTo (ns : List Int) (i j : Int) : Prop := Skips ns i.toNat j.toNat ∧ 0 ≤ j
theorem skips_int {ns : List Int} {i j k : Int} (h : SkipTo ns i j) (h2 : Skips ns i.toNat k.toNat) (h0 : 0 ≤ k) : k = j := by
  have := skips_det h.1 h2
  have := h.2
  omega
theorem disp_go {dp un : Nat} {gd : Option (List Code)} {cn : Str} {cs : Scope} {a : Addr} {ccd : Value} {cl : List (Str × Addr)} {outer : List Env} {A₀ : Around} {base h₀ : Heap} {L : Addr} {m : Str → Option Value} {s : Shared} {Q E : Value → Shared → Prop} {w : World} {p : Program} {loose : List Str} {mean : ExcName → Option Value} {mg : Str → Option Value} {mb : Str → Option Value} {rest : List (Addr × Obj)} {k1 : Tok} {k2 : Tok} {l : Addr} {x : Addr} {dx : Addr} {pl : Int} {tp : Tok} {cv : List Value} {cc : Nat} {ns : List Int} {its : List (Bool × Nat)} {stop : List Int} {tst : Tok} {hd : List Int} {r : Int} (P : (Below A₀ base outer h₀) ∧ (Fr h₀ L s.heap m) ∧ ((Mine.ka.heap_1 w.params).In h₀) ∧ (News h₀ L s.heap ((tokL w.params k1 k2 l pl tp x dx cv cc rest))) ∧ (Top p loose mean mg mb h₀) ∧ (cs.kind = .function) ∧ (dp + 9 < 900) ∧ (un + 8 * 9 < 9000) ∧ (IntsAre cv ns) ∧ (ns.length ≤ 200) ∧ (0 ≤ pl) ∧ (pl ≤ ns.length) ∧ (∀ c ∈ ns, 0 ≤ c) ∧ (@LT.lt Nat _ l dx) ∧ (@LT.lt Nat _ dx x) ∧ (∀ q ∈ rest, q.1 ≠ dx) ∧ (∀ i ∈ its, ItOk i) ∧ (∀ c r, stop = c :: r → isBreak c = true) ∧ (its.length ≤ 20) ∧ (its.any (·.1) = false) ∧ (RadHead hd r) ∧ (ns.drop pl.toNat = hd ++ ((enc its).map (fun (c : Nat) => (c : Int)) ++ stop)) ∧ True)  (hE : ∀ (e : Addr) (g h' : Heap) (tk' : Nat), Fr h₀ L g m → g.UpToSlots h' → RaisedSN base g (envX cn cs L a ccd cl :: outer) e (.ref 79) (rest) h' → (2 ≤ r ∧ r ≤ 36 → vIn (its.map (·.2)) (r) = none) → E (.ref e) { s with heap := h', toks := tk' }) (h : ∀ (h' : Heap) (tk' : Nat), Fr h₀ L h' m → ∀ (v : Value) (n : List (Addr × Obj)), (∃ (n0 : Int) (tp' : Tok), TokAt v n pl (Str.ofString "integer", .int n0) ∧ vIn (its.map (·.2)) (r) = some n0 ∧ (2 ≤ r ∧ r ≤ 36) ∧ ∀ q ∈ tokL w.params k1 k2 l (pl + hd.length + (enc its).length) tp' x dx cv cc rest, q ∈ n) → News h₀ L h' (n) → Q (v) { s with heap := h', toks := tk' }) :
    wpAny (model PySem.Challenge.rw_ok0058_01.row.prog w) (ktrTop dp un gd cn cs L a ccd cl outer) (call (.ref 289) [.ref x, .int pl tst]) Q E s :=
  by
  exact conx_use (disp_con w p loose mean mg mb rest k1 k2 l x dx pl tp cv cc ns P.2.2.2.2.2.2.2.2.1 P.2.2.2.2.2.2.2.2.2.1 P.2.2.2.2.2.2.2.2.2.2.1 P.2.2.2.2.2.2.2.2.2.2.2.1 P.2.2.2.2.2.2.2.2.2.2.2.2.1 P.2.2.2.2.2.2.2.2.2.2.2.2.2.1 P.2.2.2.2.2.2.2.2.2.2.2.2.2.2.1 P.2.2.2.2.2.2.2.2.2.2.2.2.2.2.2.1 its stop P.2.2.2.2.2.2.2.2.2.2.2.2.2.2.2.2.1 P.2.2.2.2.2.2.2.2.2.2.2.2.2.2.2.2.2.1 P.2.2.2.2.2.2.2.2.2.2.2.2.2.2.2.2.2.2.1 P.2.2.2.2.2.2.2.2.2.2.2.2.2.2.2.2.2.2.2.1 tst hd r P.2.2.2.2.2.2.2.2.2.2.2.2.2.2.2.2.2.2.2.2.1 P.2.2.2.2.2.2.2.2.2.2.2.2.2.2.2.2.2.2.2.2.2.1) P.1 P.2.1 P.2.2.1 P.2.2.2.1 P.2.2.2.2.1 P.2.2.2.2.2.1 P.2.2.2.2.2.2.1 P.2.2.2.2.2.2.2.1 hE (fun v h' tk' n' F' N' r => by exact h _ _ F' _ _ r N')
end Mine
namespace Mine
set_option maxRecDepth 100000
set_option maxHeartbeats 0
local macro_rules | `(tactic| walk_at "call ref") => `(tactic| (k_here; k_dflt (refine' word_go ?k1 (hold ?_) ?_; (case k1 => keq_rows); rotate_right 1; intros)))
local macro_rules | `(tactic| walk_at "call ref") => `(tactic| (k_here; k_dflt (refine' disp_go ?k1 (hold ?_) ?_; (case k1 => keq_rows); rotate_right 1; intros)))
local macro_rules | `(tactic| walk_at "call ref") => `(tactic| (k_here; k_dflt (refine' skip_blanks_go ?k1 ?_; (case k1 => keq_rows); rotate_right 1; intro h9 tk9 F9 pl9 tp9 sk9 p9 q9 N9; (have j9 := skips_int (by with_reducible assumption) sk9 p9); subst j9)))

theorem token_word (w : World) (p : Program) (loose : List Str) (mean : ExcName → Option Value) (mg mb : Str → Option Value) (rest : List (Addr × Obj)) (k1 k2 : Tok) (l x dx : Addr) (pl : Int) (tp : Tok) (cv : List Value) (cc : Nat) (ns : List Int)
    (hI : IntsAre cv ns) (hl : ns.length ≤ 200) (hp0 : 0 ≤ pl) (hp1 : pl ≤ ns.length) (hn : ∀ c ∈ ns, 0 ≤ c) (o1 : @LT.lt Nat _ l dx) (o2 : @LT.lt Nat _ dx x) (hr : ∀ q ∈ rest, q.1 ≠ dx)
    (j : Int) (hsk : SkipTo ns pl j) (hj1 : j ≤ ns.length)
    (its : List (Bool × Nat)) (stop : List Int) (hits : ∀ i ∈ its, ItOk i) (hdr : ns.drop j.toNat = (enc its).map (fun (c : Nat) => (c : Int)) ++ stop) (hstop : ∀ c r, stop = c :: r → isBreak c = true) (hil : its.length ≤ 20)
    (c : Int) (hc : codeAt ns j = c) (hc0 : 32 < c) (hc1 : ∀ y ∈ ([34, 39, 40, 41, 91, 93, 35, 96, 44, 63] : List Int), c ≠ y) :
   ConX w p loose mean mg mb 254 [.ref x] (tokL w.params k1 k2 l pl tp x dx cv cc rest) 12
     (fun v news' => ∃ (nm : Str) (d : Str × DV) (tp' : Tok), nm.cps.toList = its.map (·.2) ∧ tokDue (its.map (·.2)) nm (its.any (·.1)) = some d ∧ TokAt v news' j d ∧ ∀ q ∈ tokL w.params k1 k2 l (j + (enc its).length) tp' x dx cv cc rest, q ∈ news')
     (∀ nm, tokDue (its.map (·.2)) nm (its.any (·.1)) = none) rest := by
  unfold ConX
  k_fill
  intro dp un gd cn cs a ccd cl outer A₀ base h₀ L m s Q E B F X N T hk hd hu hret hexc
  have hd' : dp < recursionLimit := dep_lim (by assumption)
  refine wpAny_call ?_
  k_dflt ktr_enter
  rename_i g' L' h' FG' F' N' B' X' T'

  replace F' : Fr g' L' h' (fun z => List.lookup z [(Str.ofString "self", .ref x)]) := F'
  generalize s.toks + List.length _ = tk0
  simp only [List.forall_mem_cons, List.not_mem_nil, false_implies, implies_true, and_true] at hc1
  obtain ⟨n34, n39, n40, n41, n91, n93, n35, n96, n44, n63⟩ := hc1
  tb_start
  iterate 6 (rotate_left 1)
  · with_reducible rename Fr h₀ _ _ _ => kF
    with_reducible rename News h₀ _ _ _ => kN
    with_reducible rename Exists _ => r9
    exact hret _ _ _ _ kF kN r9
  · refine unhold fun e8 g8 h8 tk8 F8 U8 R8 m8 => ?_
    refine leave_onSN B' F8 R8 U8 fun h9 R9 _ U9 => ?_
    refine hexc _ _ _ _ FG' U9 R9 ?_
    exact m8

  all_goals (exfalso; omega)
end Mine
local macro_rules | `(tactic| walk_at "call ref") => `(tactic| (k_here; k_dflt (refine' Mine.word_go ?k1 (Mine.hold ?_) ?_; (case k1 => keq_rows); rotate_right 1; intros)))
local macro_rules | `(tactic| walk_at "call ref") => `(tactic| (k_here; k_dflt (refine' Mine.disp_go ?k1 (Mine.hold ?_) ?_; (case k1 => keq_rows); rotate_right 1; intros)))
local macro_rules | `(tactic| walk_at "call ref") => `(tactic| (k_here; k_dflt (refine' Mine.skip_blanks_go ?k1 ?_; (case k1 => keq_rows); rotate_right 1; intro h9 tk9 F9 pl9 tp9 sk9 p9 q9 N9; (have j9 := Mine.skips_int (by with_reducible assumption) sk9 p9); subst j9)))
namespace Mine
set_option maxRecDepth 100000
set_option maxHeartbeats 0
local macro_rules | `(tactic| walk_at "truthy bool") => `(tactic| (first | with_reducible refine truthy_lit (b := true) (by decide) ?_ | with_reducible refine truthy_lit (b := false) (by decide) ?_))
local macro_rules | `(tactic| walk_at "ite") => `(tactic| first | with_reducible refine ite_tt ?_ | with_reducible refine ite_ff ?_)

theorem token_radix (w : World) (p : Program) (loose : List Str) (mean : ExcName → Option Value) (mg mb : Str → Option Value) (rest : List (Addr × Obj)) (k1 k2 : Tok) (l x dx : Addr) (pl : Int) (tp : Tok) (cv : List Value) (cc : Nat) (ns : List Int)
    (hI : IntsAre cv ns) (hl : ns.length ≤ 200) (hp0 : 0 ≤ pl) (hp1 : pl ≤ ns.length) (hn : ∀ c ∈ ns, 0 ≤ c) (o1 : @LT.lt Nat _ l dx) (o2 : @LT.lt Nat _ dx x) (hr : ∀ q ∈ rest, q.1 ≠ dx)
    (j : Int) (hsk : SkipTo ns pl j) (hj1 : j ≤ ns.length)
    (its : List (Bool × Nat)) (stop : List Int) (hits : ∀ i ∈ its, ItOk i) (hstop : ∀ c r, stop = c :: r → isBreak c = true) (hil : its.length ≤ 20) (hq : its.any (·.1) = false)
    (hd : List Int) (r : Int) (H : RadHead hd r) (hdr : ns.drop j.toNat = hd ++ ((enc its).map (fun (c : Nat) => (c : Int)) ++ stop)) :
   ConX w p loose mean mg mb 254 [.ref x] (tokL w.params k1 k2 l pl tp x dx cv cc rest) 12
     (fun v news' => ∃ (n : Int) (tp' : Tok), TokAt v news' j (Str.ofString "integer", .int n) ∧ vIn (its.map (·.2)) r = some n ∧ (2 ≤ r ∧ r ≤ 36) ∧ ∀ q ∈ tokL w.params k1 k2 l (j + hd.length + (enc its).length) tp' x dx cv cc rest, q ∈ news')
     (2 ≤ r ∧ r ≤ 36 → vIn (its.map (·.2)) r = none) rest := by
  unfold ConX
  k_fill
  intro dp un gd cn cs a ccd cl outer A₀ base h₀ L m s Q E B F X N T hk hd hu hret hexc
  have hd' : dp < recursionLimit := dep_lim (by assumption)
  refine wpAny_call ?_
  k_dflt ktr_enter
  rename_i g' L' h' FG' F' N' B' X' T'

  replace F' : Fr g' L' h' (fun z => List.lookup z [(Str.ofString "self", .ref x)]) := F'
  generalize s.toks + List.length _ = tk0
  have hc : codeAt ns j = 35 := by
    cases H with
    | letter h => exact (codeAt_of (hsk.2) hdr).1
    | num h h2 => exact (codeAt_of (hsk.2) hdr).1
  tb_start
  · with_reducible rename Fr h₀ _ _ _ => kF
    with_reducible rename News h₀ _ _ _ => kN
    with_reducible rename Exists _ => r9
    exact hret _ _ _ _ kF kN r9
  · refine unhold fun e8 g8 h8 tk8 F8 U8 R8 m8 => ?_
    refine leave_onSN B' F8 R8 U8 fun h9 R9 _ U9 => ?_
    refine hexc _ _ _ _ FG' U9 R9 ?_
    exact m8

end Mine
section ST
local macro_rules | `(tactic| walk_at "truthy bool") => `(tactic| (first | with_reducible refine Mine.truthy_lit (b := true) (by decide) ?_ | with_reducible refine Mine.truthy_lit (b := false) (by decide) ?_))
local macro_rules | `(tactic| walk_at "ite") => `(tactic| first | with_reducible refine ite_tt ?_ | with_reducible refine ite_ff ?_)
namespace Mine
set_option maxRecDepth 100000
set_option maxHeartbeats 0

local macro_rules | `(tactic| walk_at "pad 2") => `(tactic| skip)
theorem token_plain (w : World) (p : Program) (loose : List Str) (mean : ExcName → Option Value) (mg mb : Str → Option Value) (rest : List (Addr × Obj)) (k1 k2 : Tok) (l x dx : Addr) (pl : Int) (tp : Tok) (cv : List Value) (cc : Nat) (ns : List Int)
    (hI : IntsAre cv ns) (hl : ns.length ≤ 200) (hp0 : 0 ≤ pl) (hp1 : pl ≤ ns.length) (hn : ∀ c ∈ ns, 0 ≤ c) (o1 : @LT.lt Nat _ l dx) (o2 : @LT.lt Nat _ dx x) (hr : ∀ q ∈ rest, q.1 ≠ dx)
    (j : Int) (hsk : SkipTo ns pl j) (hj1 : j ≤ ns.length) (c : Int) (wd : Str) (hcw : (c = 40 ∧ wd = Str.ofString "(") ∨ (c = 41 ∧ wd = Str.ofString ")") ∨ (c = 39 ∧ wd = Str.ofString "'")) (hc : codeAt ns j = c) :
   ConX w p loose mean mg mb 254 [.ref x] (tokL w.params k1 k2 l pl tp x dx cv cc rest) 12
     (fun v news' => ∃ (tp' : Tok), TokAt v news' j (wd, .none) ∧ ∀ q ∈ tokL w.params k1 k2 l (j + 1) tp' x dx cv cc rest, q ∈ news')
     False rest := by
  unfold ConX
  k_fill
  intro dp un gd cn cs a ccd cl outer A₀ base h₀ L m s Q E B F X N T hk hd hu hret hexc
  have hd' : dp < recursionLimit := dep_lim (by assumption)
  refine wpAny_call ?_
  k_dflt ktr_enter
  rename_i g' L' h' FG' F' N' B' X' T'

  replace F' : Fr g' L' h' (fun z => List.lookup z [(Str.ofString "self", .ref x)]) := F'
  generalize s.toks + List.length _ = tk0
  rcases hcw with ⟨rfl, rfl⟩ | ⟨rfl, rfl⟩ | ⟨rfl, rfl⟩
  all_goals
    tb_start
    with_reducible rename Fr h₀ _ _ _ => kF
    with_reducible rename News h₀ _ _ _ => kN
    exact hret _ _ _ _ kF kN ⟨_, ⟨_, _, _, _, rfl, List.mem_cons_self .., rfl⟩, fun q h => List.mem_cons_of_mem _ h⟩
end Mine
end ST
namespace Mine
set_option maxRecDepth 100000
set_option maxHeartbeats 0

local macro_rules | `(tactic| walk_at "call ref") => `(tactic| (k_here; k_dflt (refine' conx_go ?k1 (hold ?_) ?_; (case k1 => keq_rows); rotate_right 1; intro v9 h9 tk9 n9 F9 N9 r9)))
theorem told_con {w : World} {p : Program} {loose : List Str} {mean : ExcName → Option Value} {mg mb : Str → Option Value} {rest : List (Addr × Obj)} {k1 k2 : Tok} {l x dx : Addr} {pl : Int} {tp : Tok} {cv : List Value} {cc : Nat} {Ret : Value → List (Addr × Obj) → Prop} {may : Prop} {kept : List (Addr × Obj)}
    (C : ConX w p loose mean mg mb 254 [.ref x] (tokL w.params k1 k2 l pl tp x dx cv cc rest) 12 Ret may kept)
    :
    ∀ (dp un : Nat) (gd : Option (List Code)) (cn : Str) (cs : Scope) (a : Addr) (ccd : Value) (A₀ : Around) (base h₀ : Heap) (L : Addr) (m : Str → Option Value) (s : Shared) (Q E : Value → Shared → Prop),
    Below A₀ base [] h₀ → Fr h₀ L s.heap m → (Mine.ka.heap_1 w.params).In h₀ → (Mine.ka.heap_1 w.params).In base → Top p loose mean mg mb base → News h₀ L s.heap (tokL w.params k1 k2 l pl tp x dx cv cc rest) → Top p loose mean mg mb h₀ → cs.kind = .function →
    dp + 13 < 900 → un + 8 * 13 < 9000 →
    (∀ (v : Value) (h' : Heap) (tk' : Nat) (news' : List (Addr × Obj)), Fr h₀ L h' m → News h₀ L h' news' → (Ret v news' ∨ (v = .none ∧ may ∧ news' = kept)) → Q v { s with heap := h', toks := tk' }) →
    wpAny (model PySem.Challenge.rw_ok0058_01.row.prog w) (ktrTop dp un gd cn cs L a ccd [] []) (call (.ref 359) [.ref x]) Q E s := by
  k_fill
  intro dp un gd cn cs a ccd A₀ base h₀ L m s Q E B F X XB TB N T hk hdp hu hret
  have hd' : dp < recursionLimit := dep_lim (by assumption)
  refine wpAny_call ?_
  k_dflt (refine' code_defS0 ?k1 ?k2 ?k3 ?k4 ?k5 ?kA ?k6 ?k7 ?k8 ?k9 ?kB ?_ ?cK ?c2 ?c3 ?c4 ?c5; (case kA => exact rfl); (case k2 => k_asm); (case k1 => k_asm); (case k3 => k_asm); (case k4 => k_asm); (case k5 => k_asm); (case k6 => k_is); (case k7 => k_is); (case k8 => ktr_room); (case k9 => exact BindsTo.of_eq rfl); (case kB => exact locs rfl); (case cK => assumption); (case c2 => exact rfl); (case c3 => exact rfl); (case c4 => exact rfl); (case c5 => decide); k_whole; intro g' L' h' FG' F' N' B' X' T' D'; (try dsimp only); (try k_fold))
  replace F' : Fr g' L' h' (fun z => List.lookup z [(Str.ofString "tokens", .ref x)]) := F'
  generalize s.toks + List.length _ = tk0
  tb_start
  · with_reducible rename Fr h₀ _ _ _ => kF
    with_reducible rename News h₀ _ _ _ => kN
    with_reducible rename Ret _ _ => r9
    exact hret _ _ _ _ kF kN (.inl r9)
  · refine unhold fun e8 g8 h8 tk8 F8 U8 R8 m8 => ?_
    refine kts_lookSN R8 F8 B' U8 D' fun h9 R9 U9 => ?_
    refine hit_SN0 R9 F8 B' U9 XB TB D' KtsTurn.refl (test_name (c := .ref 79) (Or.inl (by k_is)) (by kernel_rfl) rfl rfl (by decide)) ?_
    intro h7 g7 T7 F7 N7 K7 X7 P7 D7
    tb_start
    with_reducible rename Fr h₀ _ _ _ => kF
    with_reducible rename News h₀ _ _ _ => kN
    exact hret _ _ _ _ kF kN (.inr ⟨rfl, m8, rfl⟩)
end Mine
namespace Mine
set_option maxRecDepth 100000
set_option maxHeartbeats 0

theorem tokens_con (w : World) (p : Program) (loose : List Str) (mean : ExcName → Option Value) (mg mb : Str → Option Value) (rest : List (Addr × Obj)) (l : Addr) (pl : Int) (t u : Tok) (cv : List Value) (cc : Nat) :
   Con w p loose mean mg mb 306 [.ref l, .int pl u] ((l, listOf cv.toArray cc) :: rest) 2 (fun v news' => ∃ (x dx : Addr) (k1 k2 : Tok), v = .ref x ∧ news' = tokL w.params k1 k2 l pl u x dx cv cc rest ∧ @LT.lt Nat _ l dx ∧ @LT.lt Nat _ dx x ∧ ∀ q ∈ rest, q.1 ≠ dx) := by
  unfold Con
  k_fill
  intro dp un gd cn cs a ccd cl outer A₀ base h₀ L m s Q E B F X N T hk hd hu hret
  have hd' : dp < recursionLimit := dep_lim (by assumption)
  k_dflt (refine' call_cls ?k1 ?k2 ?k3 ?k4 ?k5 ?k6 ?_; (case k1 => exact F); (case k2 => exact X); (case k3 => exact N); (case k4 => k_is); (case k5 => k_is); (case k6 => k_is))
  intro x dx h' F1 N1 l1 l2
  have hoff : ∀ q ∈ rest, q.1 ≠ dx := fun q hq z => Nat.lt_irrefl _ (z ▸ l1 q (List.mem_cons_of_mem _ hq) : @LT.lt Nat _ dx dx)
  have hl1 : @LT.lt Nat _ l dx := l1 _ (List.mem_cons_self ..)
  have hl2 : @LT.lt Nat _ dx x := l2
  have hll : l ≠ dx := Nat.ne_of_lt hl1
  clear F N
  k_dflt ktr_enter
  rename_i g' L' h2 FG' F' N' B' X' T'
  generalize s.toks + List.length _ = tk0
  tb_start
  with_reducible rename Fr h₀ _ _ _ => kF
  with_reducible rename News h₀ _ _ _ => kN
  exact hret _ _ _ _ kF (news_pull1 kN) ⟨x, dx, _, _, rfl, rfl, hl1, hl2, hoff⟩
theorem tokens_go {dp un : Nat} {gd : Option (List Code)} {cn : Str} {cs : Scope} {a : Addr} {ccd : Value} {cl : List (Str × Addr)} {outer : List Env} {A₀ : Around} {base h₀ : Heap} {L : Addr} {m : Str → Option Value} {s : Shared} {Q E : Value → Shared → Prop} {w : World} {p : Program} {loose : List Str} {mean : ExcName → Option Value} {mg : Str → Option Value} {mb : Str → Option Value} {rest : List (Addr × Obj)} {l : Addr} {pl : Int} {u : Tok} {cv : List Value} {cc : Nat} (P : (Below A₀ base outer h₀) ∧ (Fr h₀ L s.heap m) ∧ ((Mine.ka.heap_1 w.params).In h₀) ∧ (News h₀ L s.heap (((l, listOf cv.toArray cc) :: rest))) ∧ (Top p loose mean mg mb h₀) ∧ (cs.kind = .function) ∧ (dp + 2 < 900) ∧ (un + 8 * 2 < 9000) ∧ True)  (h : ∀ (h' : Heap) (tk' : Nat), Fr h₀ L h' m → ∀ (x dx : Addr) (k1 k2 : Tok), (@LT.lt Nat _ l dx) → (@LT.lt Nat _ dx x) → (∀ q ∈ rest, q.1 ≠ dx) → News h₀ L h' (tokL w.params k1 k2 l pl u x dx cv cc rest) → Q (.ref x) { s with heap := h', toks := tk' }) :
    wpAny (model PySem.Challenge.rw_ok0058_01.row.prog w) (ktrTop dp un gd cn cs L a ccd cl outer) (call (.ref 306) [.ref l, .int pl u]) Q E s :=
  by
  exact con_use (tokens_con w p loose mean mg mb rest l pl default u cv cc) P.1 P.2.1 P.2.2.1 P.2.2.2.1 P.2.2.2.2.1 P.2.2.2.2.2.1 P.2.2.2.2.2.2.1 P.2.2.2.2.2.2.2.1 (fun v h' tk' n' F' N' r => by obtain ⟨x, dx, k1, k2, e, q, f1, f2, f3⟩ := r; subst e; subst q; exact h _ _ F' _ _ _ _ f1 f2 f3 N')
end Mine
namespace Mine
set_option maxRecDepth 100000
set_option maxHeartbeats 0
noncomputable def OrdOf (v r : Value) : Prop := ∃ (c : Nat) (t u : Tok), v = Value.str ⟨#[c]⟩ u ∧ r = Value.int (c : Int) t
theorem ints_of_pairs : ∀ {vs ys : List Value}, Paired OrdOf vs ys → ∀ {l : List Nat}, vs.length = l.length → (∀ (j : Nat) v, vs[j]? = some v → ∃ c u, l[j]? = some c ∧ v = Value.str ⟨#[c]⟩ u) → IntsAre ys (l.map fun (c : Nat) => (c : Int))
  | _, _, .nil, [], _, _ => .nil
  | _, _, .nil, _ :: _, h, _ => by cases h
  | _, _, .cons _ _, [], h, _ => by cases h
  | _, _, .cons (a := v) hv t, c :: l, h, hg => by
    obtain ⟨c1, t1, u1, e1, rfl⟩ := hv
    obtain ⟨c2, u2, hc, e2⟩ := hg 0 v rfl
    simp only [List.getElem?_cons_zero, Option.some.injEq] at hc
    subst hc
    rw [e1] at e2
    have : c1 = c := by
      have := congrArg (fun (v : Value) => match v with | .str x _ => x.cps.toList | _ => []) e2
      simpa using this
    subst this
    exact .cons _ _ (ints_of_pairs t (by simpa using h) fun j w hw => by simpa using hg (j + 1) w (by simpa using hw))
section
variable {prog : Program} {w : World} {A : Around} {E : Value → Shared → Prop} {s : Shared} {h₀ : Heap} {L a : Addr} {m mg mb : Str → Option Value} {news : List (Addr × Obj)} {p : Program} {loose : List Str} {mean : ExcName → Option Value} {cn : Str} {cs : Scope} {ccd : Value}
theorem comp_ord {iter : Expr} {px pe pn po pos : Pos} {scope : Scope} {Q : Value → Shared → Prop} (_F : Fr h₀ L s.heap m) (_N : News h₀ L s.heap news) (hh : A.handled = none) (T : Top p loose mean mg mb h₀) (hmiss : mg (Str.ofString "ord") = none)
    (hfree : ∀ y ∈ scope.names, y.2 ≠ .free) (hcell : ∀ y ∈ scope.names, y.2 ≠ .cell) (hkind : scope.kind = .function)
    (hnames : ∀ y ∈ scope.names, y.2 = .local → scope.names.lookup y.1 = some .local) (hx : scope.names.lookup (Str.ofString "sign") = some .local) (ho : scope.names.lookup (Str.ofString "ord") = some .globalImplicit)
    (h : wpAny (model prog w) A (eval iter (envOf cn cs L a ccd)) (fun xv s₁ => Hold (∃ (y : Str) (t : Tok), xv = .str y t ∧ y.length ≤ sizeLine ∧ Fr h₀ L s₁.heap m ∧ News h₀ L s₁.heap news ∧
      ∀ (D : Addr) (ys : List Value) (n : Nat) (h' : Heap) (tk : Nat), Fr h₀ L h' m → News h₀ L h' ((D, listOf ys.toArray n) :: news) → (∀ q ∈ news, q.1 ≠ D) → IntsAre ys (y.cps.toList.map fun (c : Nat) => (c : Int)) → Q (.ref D) { s₁ with heap := h', toks := tk })) E s)
    (hs : ∀ x, foldedSetIterable iter (envOf cn cs L a ccd) x = pure x) :
    wpAny (model prog w) A (eval (.ListComp (.Call (.Name (Str.ofString "ord") pn) [.Name (Str.ofString "sign") po] [] pe) [⟨.Name (Str.ofString "sign") px, iter, [], 0⟩] scope pos) (envOf cn cs L a ccd)) Q E s := by
  refine wpAny_ListComp_walk (fun _ => true) OrdOf hfree hcell hkind hnames hx (wpAny_mono h (fun xv s₁ h₁ => ?_) fun _ _ e => e) hs
  obtain ⟨y, t, rfl, hsz, F, N, hQ⟩ := h₁
  refine wpAny_pyIter_str fun o St W hst => ?_
  have up : ∀ (h' : Heap), (∀ b o', b ∉ [s₁.heap.objs.size] → (s₁.heap.push o).get? b = some o' → h'.get? b = some o') → ∀ b o', s₁.heap.get? b = some o' → h'.get? b = some o' :=
    fun h' hk b o' e => hk b o' (old_not_new e) (Heap.get?_push_of_some _ e)
  refine ⟨s₁.heap.objs.size, [s₁.heap.objs.size], [s₁.heap.objs.size], y.cps.size, SignAt y, St, rfl, W A hh, hsz, hst, ?_, ⟨?_, ?_⟩, ?_⟩
  · intro b hb
    show b < (s₁.heap.push o).objs.size
    rw [Heap.size_push, List.mem_singleton.mp hb]
    exact Nat.lt_succ_self _
  · intro C i v s₃ m₃ E' hP hn hm _ _
    exact wpAny_pure ⟨rfl, s₃.heap, s₃.toks, rfl, fun _ _ e => e⟩
  · intro C i v s₃ m₃ E' hP hp hn hm hk _
    obtain ⟨c, u, _, rfl⟩ := hP
    have F₃ := F.keeps (up s₃.heap hk)
    refine cut_any (fun y s₄ => Hold (OrdOf (.str ⟨#[c]⟩ u) y ∧ Keeps s₃ s₄)) ?_ (fun _ _ z => z)
    refine Call_ ?_
    refine Calls.Name_function_global (env := compEnv scope C (envOf cn cs L a ccd)) hkind ho (Calls.loadGlobal_builtin (env := compEnv scope C (envOf cn cs L a ccd)) (T.g.keeps F₃.keep) hmiss (T.b.keeps F₃.keep) ((T.builtins _ (by decide)).trans boot_ord) ?_) (by decide)
    k_steps
    refine wpAny_Name (wpAny_loadName_local (env := compEnv scope C (envOf cn cs L a ccd)) hkind hx hn hm ?_) (by decide)
    k_steps
    exact unhold ⟨⟨c, _, u, rfl, rfl⟩, _, _, rfl, fun _ _ e => e⟩
  · intro D h' tk ys vs hnew hlD hplD hlen hP hF hk
    obtain ⟨n, hD⟩ := hplD
    have hold : ∀ b o', s₁.heap.get? b = some o' → b ≠ D := fun b o' e z => by rw [z] at e; rw [Heap.get?_push_of_some _ e] at hnew; cases hnew
    have F' := F.keeps (up h' hk)
    refine hQ D ys.toList n h' tk F' (fun q hq => ?_) (fun q hq => hold _ _ (N q hq).1) (ints_of_pairs (vs := vs) ?_ hlen fun j v hv => ?_)
    · rcases List.mem_cons.mp hq with rfl | hq
      · refine ⟨hD, ?_, ?_⟩
        · obtain ⟨o', es, ep, ho', _⟩ := F.ns
          exact fun z => hold _ _ ho' z.symm
        · cases z : h₀.get? D with
          | none => rfl
          | some o' => exact absurd rfl (hold _ _ (F.keep _ _ z))
      · exact ⟨up h' hk _ _ (N q hq).1, (N q hq).2⟩
    · have := hF; rwa [List.filter_eq_self.mpr (by simp)] at this
    · obtain ⟨c, u, hc, e⟩ := hP j v hv
      exact ⟨c, u, by simpa using hc, e⟩
end
end Mine
namespace Mine
/-! what the code reads is what the law reads -/
theorem intOf_fig (l : List Nat) : intOf l = vIn (figPart l) 10 := rfl
theorem unsign_fig : ∀ l : List Nat, unsign (figPart l) = figPart (unsign l)
  | [] => rfl
  | [a] => by
    by_cases h : a = 43 ∨ a = 45
    · have h46 : a ≠ 46 := by omega
      simp [figPart, unsign, h, h46]
    · by_cases h46 : a = 46
      · subst h46; simp [figPart, unsign]
      · simp [figPart, unsign, h, h46]
  | a :: b :: r => by
    have hd : (a :: b :: r).dropLast = a :: (b :: r).dropLast := rfl
    have hg : (a :: b :: r).getLast? = (b :: r).getLast? := by simp [List.getLast?_cons_cons]
    by_cases h : a = 43 ∨ a = 45
    · have e : unsign (a :: b :: r) = b :: r := by rw [unsign, if_pos h]
      rw [e]
      unfold figPart
      rw [hg, hd]
      split
      · rw [unsign, if_pos h]
      · rw [unsign, if_pos h]
    · have e : unsign (a :: b :: r) = a :: b :: r := by rw [unsign, if_neg h]
      rw [e]
      unfold figPart
      rw [hg, hd]
      split
      · rw [unsign, if_neg h]
      · rw [unsign, if_neg h]
theorem head_fig (l : List Nat) : (figPart l).head? = some 45 ↔ l.head? = some 45 := by
  unfold figPart
  split
  · rename_i h
    cases l with
    | nil => simp
    | cons a r =>
      cases r with
      | nil =>
        have : a = 46 := by simpa using h
        subst this; simp
      | cons b r => show (a :: (b :: r).dropLast).head? = _ ↔ _; simp
  · exact Iff.rfl
theorem figZ_fig {c : Nat} (h : 48 ≤ c ∧ c ≤ 57) : lowC c = c ∧ figZ c = (c : Int) - 48 := by
  refine ⟨?_, ?_⟩
  · unfold lowC; rw [if_neg (by omega)]
  · unfold figZ; rw [if_pos h]
theorem figZ_no {c : Nat} (h : ¬ (48 ≤ c ∧ c ≤ 57)) : figZ (lowC c) < 0 ∨ figZ (lowC c) ≥ 10 := by
  unfold figZ lowC
  split <;> (split <;> (try split)) <;> omega
theorem digVal_figs : ∀ (l : List Nat) (f : Int), digVal 10 (l.map lowC) f = if figs l = l.length then some (decV l f) else none
  | [], f => rfl
  | c :: r, f => by
    by_cases h : 48 ≤ c ∧ c ≤ 57
    · obtain ⟨h1, h2⟩ := figZ_fig h
      rw [List.map_cons, h1, digVal_yes (by omega), digVal_figs r, figs_yes h]
      have e : decV (c :: r) f = decV r (f * 10 + figZ c) := by
        show decV r (10 * f + ((c : Int) - 48)) = _
        rw [h2, Int.mul_comm]
      rw [← e]
      simp only [List.length_cons, Nat.add_right_cancel_iff]
    · rw [List.map_cons, digVal_no (figZ_no h), figs_no h, if_neg (by simp)]
theorem intOf_is (l : List Nat) : intOf l = if figPart (unsign l) ≠ [] ∧ figs (figPart (unsign l)) = (figPart (unsign l)).length then some (if l.head? = some 45 then 0 - decV (figPart (unsign l)) 0 else decV (figPart (unsign l)) 0) else none := by
  rw [intOf_fig, vIn, unsign_fig]
  by_cases h : figPart (unsign l) = []
  · rw [if_pos h, if_neg (fun q => q.1 h)]
  · rw [if_neg h, digVal_figs]
    by_cases h2 : figs (figPart (unsign l)) = (figPart (unsign l)).length
    · rw [if_pos h2, if_pos ⟨h, h2⟩]
      simp only [Option.map_some, head_fig]
    · rw [if_neg h2, if_neg (fun q => h2 q.2)]; rfl
end Mine
namespace Mine
theorem fig_low {c : Nat} (h : isFigC c) : lowC c = c ∧ 0 ≤ figZ c ∧ c ≠ 43 ∧ c ≠ 45 := by
  unfold isFigC at h
  unfold lowC figZ
  refine ⟨if_neg (by omega), ?_, by omega, by omega⟩
  split
  · omega
  · split <;> omega
theorem digVal_rad {r : Int} : ∀ (l : List Nat) (f : Int), (∀ c ∈ l, isFigC c) → digVal r (l.map lowC) f = if ∀ c ∈ l, figZ c < r then some (l.foldl (fun (a : Int) (c : Nat) => a * r + figZ c) f) else none
  | [], f, _ => by rw [if_pos (fun c h => nomatch h)]; rfl
  | c :: l, f, h => by
    obtain ⟨h1, h2, _⟩ := fig_low (h c (List.mem_cons_self ..))
    rw [List.map_cons, h1]
    by_cases hr : figZ c < r
    · rw [digVal_yes (by omega), digVal_rad l _ fun x hx => h x (List.mem_cons_of_mem _ hx)]
      by_cases hl : ∀ x ∈ l, figZ x < r
      · rw [if_pos hl, if_pos (by intro x hx; rcases List.mem_cons.mp hx with rfl | hx; exact hr; exact hl x hx)]; rfl
      · rw [if_neg hl, if_neg (fun q => hl fun x hx => q x (List.mem_cons_of_mem _ hx))]
    · rw [digVal_no (by omega), if_neg (fun q => hr (q c (List.mem_cons_self ..)))]
theorem radix_is {r : Int} {sg fl : List Nat} (hs : sg ∈ ([[], [45], [43]] : List (List Nat))) (hf : ∀ c ∈ fl, isFigC c) :
    radixDue r sg fl = if 2 ≤ r ∧ r ≤ 36 then (vIn (sg ++ fl) r).map fun n => (Str.ofString "integer", DV.int n) else none := by
  have hu : unsign (sg ++ fl) = fl := by
    simp only [List.mem_cons, List.not_mem_nil, or_false] at hs
    rcases hs with rfl | rfl | rfl
    · cases fl with
      | nil => rfl
      | cons c l =>
        have := fig_low (hf c (List.mem_cons_self ..))
        show unsign (c :: l) = _
        rw [unsign, if_neg (by omega)]
    · show unsign (45 :: fl) = fl; rw [unsign, if_pos (by omega)]
    · show unsign (43 :: fl) = fl; rw [unsign, if_pos (by omega)]
  have hh : (sg ++ fl).head? = some 45 ↔ sg = [45] := by
    simp only [List.mem_cons, List.not_mem_nil, or_false] at hs
    rcases hs with rfl | rfl | rfl
    · cases fl with
      | nil => simp
      | cons c l =>
        have := fig_low (hf c (List.mem_cons_self ..))
        simp [this.2.2.2]
    · simp
    · simp
  unfold radixDue
  by_cases h1 : 2 ≤ r ∧ r ≤ 36
  · rw [if_pos h1, vIn, hu]
    by_cases h2 : fl = []
    · rw [if_neg (fun q => q.2.2 h2), if_pos h2]; rfl
    · rw [if_neg h2, digVal_rad fl 0 hf]
      by_cases h3 : ∀ c ∈ fl, figZ c < r
      · rw [if_pos ⟨h1, h3, h2⟩, if_pos h3]
        simp only [Option.map_some, hh]
        rfl
      · rw [if_neg (fun q => h3 q.2.1), if_neg h3]; rfl
  · rw [if_neg (fun q => h1 q.1), if_neg h1]
end Mine
namespace Mine
noncomputable def aheads : List (List Nat) := [[], [32], [59, 49, 10], [9, 59, 32, 40, 97, 10, 32], [160]]
noncomputable def behinds : List (List Nat) := [[32, 122], [40, 122], [39, 122], [59, 10, 122], [41, 122]]
theorem skip_ahead {ah : List Nat} (h : ah ∈ aheads) {tl : List Int} (hstop : ∀ c r, tl = c :: r → ¬ isLine c r ∧ ¬ (c ≤ 32 ∨ c = 160)) : SkipTo (ah.map (fun (c : Nat) => (c : Int)) ++ tl) 0 ah.length := by
  have st : ∀ (l : List Int) (n : Nat), l.drop n = tl → Skips l n n := fun l n e => .stop fun c r e2 => hstop c r (e.symm.trans e2)
  have nl : ∀ (c : Int) (r : List Int), c ≠ 59 → c ≠ 35 → ¬ isLine c r := fun c r h1 h2 q => q.elim h1 fun z => h2 z.1
  refine ⟨?_, by omega⟩
  simp only [aheads, List.mem_cons, List.not_mem_nil, or_false] at h
  rcases h with rfl | rfl | rfl | rfl | rfl
  · exact st _ _ rfl
  · exact .blank (c := 32) rfl (nl _ _ (by decide) (by decide)) (by omega) (st _ _ rfl)
  · refine .line (c := 59) (r := 49 :: 10 :: tl) rfl (.inl rfl) ?_
    have e : (Int.toNat 0) + lineLen ((59 : Int) :: 49 :: 10 :: tl) = 2 := by simp [lineLen]
    rw [e]
    exact .blank (c := 10) rfl (nl _ _ (by decide) (by decide)) (by omega) (st _ _ rfl)
  · refine .blank (c := 9) rfl (nl _ _ (by decide) (by decide)) (by omega) (.line (c := 59) (r := 32 :: 40 :: 97 :: 10 :: 32 :: tl) rfl (.inl rfl) ?_)
    have e : (Int.toNat 0) + 1 + lineLen ((59 : Int) :: 32 :: 40 :: 97 :: 10 :: 32 :: tl) = 5 := by simp [lineLen]
    rw [e]
    exact .blank (c := 10) rfl (nl _ _ (by decide) (by decide)) (by omega) (.blank (c := 32) rfl (nl _ _ (by decide) (by decide)) (by omega) (st _ _ rfl))
  · exact .blank (c := 160) rfl (nl _ _ (by decide) (by decide)) (by omega) (st _ _ rfl)
theorem head_rad {r : Int} (h : r ∈ radii) : RadHead ((headOf r).map fun (c : Nat) => (c : Int)) r := by
  simp only [radii, List.mem_cons, List.not_mem_nil, or_false] at h
  rcases h with rfl | rfl | rfl | rfl | rfl | rfl | rfl | rfl
  · exact .letter (c := 98) (by omega)
  · exact .letter (c := 111) (by omega)
  · exact .letter (c := 88) (by omega)
  · exact .num (c := 51) (ds := []) (by decide) (by decide)
  · exact .num (c := 50) (ds := [52]) (by decide) (by decide)
  · exact .num (c := 51) (ds := [54]) (by decide) (by decide)
  · exact .num (c := 49) (ds := []) (by decide) (by decide)
  · exact .num (c := 51) (ds := [55]) (by decide) (by decide)
end Mine
namespace Mine
noncomputable def isDig (c : Nat) : Prop := 48 ≤ c ∧ c ≤ 57
theorem lowC_dig {c : Nat} : (48 ≤ lowC c ∧ lowC c ≤ 57) ↔ (48 ≤ c ∧ c ≤ 57) := by unfold lowC; split <;> omega
theorem lowC_lit {c k : Nat} (h : k < 65) : lowC c = k ↔ c = k := by unfold lowC; split <;> omega
theorem figs_eq (l : List Nat) : figs l = l.length ↔ ∀ c ∈ l, 48 ≤ c ∧ c ≤ 57 := by
  constructor
  · exact figs_all
  · intro h
    induction l with
    | nil => rfl
    | cons a r ih => rw [figs_yes (h a (List.mem_cons_self ..)), ih fun c hc => h c (List.mem_cons_of_mem _ hc)]; rfl
theorem allFigs_is (l : List Nat) : allFigs l = decide (l ≠ [] ∧ figs l = l.length) := by
  unfold allFigs
  rw [Bool.eq_iff_iff]
  simp only [Bool.and_eq_true, Bool.not_eq_true', List.all_eq_true, decide_eq_true_eq, figs_eq, List.isEmpty_eq_false_iff]
theorem figs_low (l : List Nat) : figs (l.map lowC) = figs l := by
  induction l with
  | nil => rfl
  | cons a r ih =>
    by_cases h : 48 ≤ a ∧ a ≤ 57
    · rw [List.map_cons, figs_yes h, figs_yes (lowC_dig.mpr h), ih]
    · rw [List.map_cons, figs_no h, figs_no (fun q => h (lowC_dig.mp q))]
theorem split_figs (l : List Nat) : ∃ A v, l = A ++ v ∧ (∀ c ∈ A, 48 ≤ c ∧ c ≤ 57) ∧ figs l = A.length ∧ ∀ c r, v = c :: r → ¬ (48 ≤ c ∧ c ≤ 57) := by
  induction l with
  | nil => exact ⟨[], [], rfl, (fun _ h => nomatch h), rfl, fun _ _ h => nomatch h⟩
  | cons a r ih =>
    by_cases h : 48 ≤ a ∧ a ≤ 57
    · obtain ⟨A, v, e, hA, hf, hv⟩ := ih
      refine ⟨a :: A, v, by rw [e]; rfl, fun c hc => ?_, by rw [figs_yes h, hf]; rfl, hv⟩
      rcases List.mem_cons.mp hc with rfl | hc
      · exact h
      · exact hA c hc
    · exact ⟨[], a :: r, rfl, (fun _ h => nomatch h), figs_no h, fun c r' e => by cases e; exact h⟩
theorem cut_pre {c : Nat} : ∀ {A v : List Nat}, (∀ a ∈ A, a ≠ c) → cut c (A ++ v) = (A ++ (cut c v).1, (cut c v).2)
  | [], _, _ => rfl
  | a :: A, v, h => by
    have h1 : ¬ a = c := h a (List.mem_cons_self ..)
    show cut c (a :: (A ++ v)) = _
    rw [cut, if_neg h1, cut_pre fun x hx => h x (List.mem_cons_of_mem _ hx)]; rfl
theorem pow_tail (t : List Nat) : isPow (t.map lowC) = tailFlo t := by
  have key : allFigs (unsign (t.map lowC)) = if t.head? = some 43 ∨ t.head? = some 45 then decide (1 < t.length) && decide (1 + figs (t.drop 1) = t.length) else decide (0 < t.length) && decide (figs t = t.length) := by
    cases t with
    | nil => rfl
    | cons a r =>
      by_cases h : a = 43 ∨ a = 45
      · have e : unsign ((a :: r).map lowC) = r.map lowC := by
          rw [List.map_cons, unsign, if_pos (by rcases h with rfl | rfl <;> decide)]
        rw [e, allFigs_is, figs_low, if_pos (by simpa using h), ← Bool.decide_and]
        apply decide_eq_decide.mpr
        simp only [List.length_map, List.length_cons, List.drop_succ_cons, List.drop_zero, ne_eq, List.map_eq_nil_iff]
        cases r <;> simp <;> omega
      · have e : unsign ((a :: r).map lowC) = (a :: r).map lowC := by
          rw [List.map_cons, unsign, if_neg (by rw [lowC_lit (by decide), lowC_lit (by decide)]; exact h)]
        rw [e, allFigs_is, figs_low, if_neg (by simpa using h), ← Bool.decide_and]
        apply decide_eq_decide.mpr
        simp
  rw [isPow, key, tailFlo]
theorem dig_ne {A : List Nat} (h : ∀ c ∈ A, 48 ≤ c ∧ c ≤ 57) {k : Nat} (hk : k < 48 ∨ 57 < k) : ∀ a ∈ A, a ≠ k := fun a ha e => by have := h a ha; omega
theorem dig_low {A : List Nat} (h : ∀ c ∈ A, 48 ≤ c ∧ c ≤ 57) : A.map lowC = A := by
  induction A with
  | nil => rfl
  | cons a r ih =>
    rw [List.map_cons, (figZ_fig (h a (List.mem_cons_self ..))).1, ih fun c hc => h c (List.mem_cons_of_mem _ hc)]
theorem allFigs_no {A B : List Nat} {c : Nat} (h : ¬ (48 ≤ c ∧ c ≤ 57)) : allFigs (A ++ c :: B) = false := by
  rw [allFigs_is, decide_eq_false_iff_not, figs_eq]
  exact fun q => h (q.2 c (by simp))
theorem allFigs_dig {A : List Nat} (h : ∀ c ∈ A, 48 ≤ c ∧ c ≤ 57) : allFigs A = !A.isEmpty := by
  rw [allFigs_is, Bool.eq_iff_iff, decide_eq_true_eq, figs_eq]
  cases A <;> simp
  exact ⟨h _ (by simp), fun c hc => h c (List.mem_cons_of_mem _ hc)⟩
end Mine
namespace Mine
noncomputable def floU (u : List Nat) : Bool :=
  allFigs ((cut 46 (cut 101 (u.map lowC)).1).1 ++ (cut 46 (cut 101 (u.map lowC)).1).2.2) && (if (cut 101 (u.map lowC)).2.1 then (!(cut 46 (cut 101 (u.map lowC)).1).2.1 || !(cut 46 (cut 101 (u.map lowC)).1).2.2.isEmpty) && isPow (cut 101 (u.map lowC)).2.2 else !(cut 46 (cut 101 (u.map lowC)).1).2.2.isEmpty)
theorem isFlo_u (l : List Nat) : isFlo l = floU (unsign l) := rfl
theorem cut_hit (c : Nat) (r : List Nat) : cut c (c :: r) = ([], true, r) := by rw [cut, if_pos rfl]
theorem cut_miss {c a : Nat} (h : a ≠ c) (r : List Nat) : cut c (a :: r) = (a :: (cut c r).1, (cut c r).2) := by rw [cut, if_neg h]
theorem end_at {A t : List Nat} {c : Nat} {pt : Bool} : lawEnd (A ++ c :: t) pt A.length = if lowC c = 101 then tailFlo t else false := by
  unfold lawEnd
  rw [if_neg (by simp)]
  have e1 : (A ++ c :: t).getD A.length 0 = c := by simp [List.getD]
  have e2 : (A ++ c :: t).drop (A.length + 1) = t := by simp
  rw [e1, e2]
theorem flo_eq (u : List Nat) : floU u = lawFlo u := by
  obtain ⟨A, v, rfl, hA, hf, hv⟩ := split_figs u
  have hdrop : (A ++ v).drop (figs (A ++ v)) = v := by rw [hf]; simp
  unfold floU lawFlo
  rw [hdrop, hf, List.map_append, dig_low hA, cut_pre (dig_ne hA (by decide))]
  cases v with
  | nil =>
    have e : cut 101 (List.map lowC []) = ([], false, []) := rfl
    rw [e]
    dsimp only
    rw [cut_pre (dig_ne hA (by decide))]
    have e2 : cut 46 [] = ([], false, []) := rfl
    rw [e2, if_neg (show ¬ ([] : List Nat).head? = some 46 by simp)]
    simp only [Bool.false_eq_true, if_false, List.isEmpty_nil, Bool.not_true, Bool.and_false]
    by_cases hz : A.length = 0
    · rw [if_pos hz]
    · rw [if_neg hz, lawEnd, if_pos (by simp)]
  | cons c t =>
    have hc := hv c t rfl
    by_cases h46 : c = 46
    · subst h46
      have e : cut 101 (List.map lowC (46 :: t)) = (46 :: (cut 101 (t.map lowC)).1, (cut 101 (t.map lowC)).2) := by
        rw [List.map_cons, show lowC 46 = 46 from rfl, cut_miss (by decide)]
      rw [e]
      dsimp only
      rw [cut_pre (dig_ne hA (by decide)), cut_hit, if_pos (show (46 :: t).head? = some 46 from rfl)]
      obtain ⟨G, t2, rfl, hG, hg, hv2⟩ := split_figs t
      have hd2 : (A ++ 46 :: (G ++ t2)).drop (A.length + 1) = G ++ t2 := by simp
      rw [hd2, hg, List.map_append, dig_low hG, cut_pre (dig_ne hG (by decide))]
      simp only [Bool.not_true, Bool.false_or]
      cases t2 with
      | nil =>
        have e1 : cut 101 (List.map lowC []) = ([], false, []) := rfl
        rw [e1]
        simp only [List.append_nil, Bool.false_eq_true, if_false]
        rw [allFigs_dig (fun c hc => (List.mem_append.mp hc).elim (hA c) (hG c))]
        cases G with
        | nil => simp
        | cons g G =>
          rw [if_neg (by simp), lawEnd, if_pos (by simp; omega)]; simp
      | cons d t3 =>
        have hd := hv2 d t3 rfl
        have hla : lawEnd (A ++ 46 :: (G ++ d :: t3)) true (A.length + 1 + G.length) = if lowC d = 101 then tailFlo t3 else false := by
          have := end_at (A := A ++ 46 :: G) (t := t3) (c := d) (pt := true)
          simp only [List.append_assoc, List.cons_append, List.length_append, List.length_cons] at this
          rw [← this]; congr 1; omega
        by_cases h101 : lowC d = 101
        · rw [List.map_cons, h101, cut_hit]
          simp only [List.append_nil, if_true]
          rw [allFigs_dig (fun c hc => (List.mem_append.mp hc).elim (hA c) (hG c)), pow_tail, hla, if_pos h101]
          cases G with
          | nil => simp
          | cons g G => rw [if_neg (by simp)]; simp
        · rw [List.map_cons, cut_miss h101]
          dsimp only
          rw [← List.append_assoc, allFigs_no (fun q => hd (lowC_dig.mp q)), Bool.false_and, hla, if_neg h101]
          split <;> rfl
    · rw [if_neg (show ¬ (c :: t).head? = some 46 by simpa using h46)]
      by_cases h101 : lowC c = 101
      · rw [List.map_cons, h101, cut_hit]
        dsimp only
        rw [List.append_nil, cut_none (fun h => dig_ne hA (k := 46) (by decide) 46 h rfl)]
        simp only [List.append_nil, Bool.not_false, Bool.true_or, Bool.true_and, if_true]
        rw [allFigs_dig hA, pow_tail, end_at, if_pos h101]
        cases A with
        | nil => simp
        | cons a A => rw [if_neg (by simp)]; simp
      · have hl46 : lowC c ≠ 46 := fun q => h46 ((lowC_lit (by decide)).mp q)
        rw [List.map_cons, cut_miss h101]
        dsimp only
        rw [cut_pre (dig_ne hA (by decide)), cut_miss hl46]
        dsimp only
        rw [List.append_assoc, List.cons_append, allFigs_no (fun q => hc (lowC_dig.mp q)), Bool.false_and, end_at, if_neg h101]
        split <;> rfl
end Mine
namespace Mine
theorem tok_law (x y : Str) (l : List Nat) (hx : x.cps.toList = l) (hy : y.cps.toList = l) (q : Bool) : tokDue l y q = lawDue x q := by
  have hxy : y = x := str_eq.mp (hy.trans hx.symm)
  subst hxy
  subst hx
  unfold tokDue lawDue
  by_cases hq : q = true
  · rw [if_pos hq, if_pos hq]
  rw [if_neg hq, if_neg hq]
  by_cases h1 : y.cps.toList = [46]
  · rw [if_pos h1, if_pos h1]
  rw [if_neg h1, if_neg h1, intOf_is, isFlo_u, flo_eq]
  by_cases h2 : figPart (unsign y.cps.toList) ≠ [] ∧ figs (figPart (unsign y.cps.toList)) = (figPart (unsign y.cps.toList)).length
  · rw [if_pos h2, if_pos h2]
  · rw [if_neg h2, if_neg h2]
end Mine
namespace Mine
noncomputable abbrev zs (l : List Nat) : List Int := l.map fun (c : Nat) => (c : Int)
theorem not_break {c : Int} (h : isBreak c = false) : 32 < c ∧ c ≠ 160 ∧ ∀ y ∈ ([34, 39, 59, 40, 41, 91, 93, 35, 96, 44] : List Int), c ≠ y := by
  unfold isBreak at h
  simp only [Bool.or_eq_false_iff, decide_eq_false_iff_not, List.any_eq_false] at h
  refine ⟨by omega, fun e => ?_, fun y hy e => ?_⟩
  · simp [e] at h
  · have := h.2 y hy
    simp [e] at this
/-- the first sign of a written word -/
theorem first_word {its : List (Bool × Nat)} (hne : its ≠ []) (hok : ∀ i ∈ its, ItOk i) (hq : its.head? ≠ some (false, 63)) (tl : List Int) :
    ∃ c r, zs (enc its) ++ tl = c :: r ∧ 32 < c ∧ c ≠ 160 ∧ c ≠ 59 ∧ ∀ y ∈ ([34, 39, 40, 41, 91, 93, 35, 96, 44, 63] : List Int), c ≠ y := by
  cases its with
  | nil => exact absurd rfl hne
  | cons i its =>
    obtain ⟨b, c⟩ := i
    cases b with
    | true => exact ⟨92, _, rfl, by omega, by omega, by omega, by decide⟩
    | false =>
      obtain ⟨h1, h2⟩ := (hok (false, c) (List.mem_cons_self ..)).2 rfl
      obtain ⟨a1, a2, a3⟩ := not_break h1
      simp only [List.forall_mem_cons, List.not_mem_nil, false_implies, implies_true, and_true] at a3
      have h63 : (c : Int) ≠ 63 := fun e => hq (by have : c = 63 := by omega
                                                   subst this; rfl)
      refine ⟨(c : Int), _, rfl, a1, a2, a3.2.2.1, ?_⟩
      simp only [List.forall_mem_cons, List.not_mem_nil, false_implies, implies_true, and_true]
      exact ⟨a3.1, a3.2.1, a3.2.2.2.1, a3.2.2.2.2.1, a3.2.2.2.2.2.1, a3.2.2.2.2.2.2.1, a3.2.2.2.2.2.2.2.1, a3.2.2.2.2.2.2.2.2.1, a3.2.2.2.2.2.2.2.2.2, h63⟩
theorem behind_break {bh : List Nat} (h : bh ∈ behinds) : ∀ c r, zs bh = c :: r → isBreak c = true := by
  simp only [behinds, List.mem_cons, List.not_mem_nil, or_false] at h
  rcases h with rfl | rfl | rfl | rfl | rfl <;> (intro c r e; cases e; decide)
end Mine
namespace Mine
theorem zs_app (a b : List Nat) : zs (a ++ b) = zs a ++ zs b := List.map_append
theorem word_stand {ah wl bh : List Nat} {its : List (Bool × Nat)} (hah : ah ∈ aheads) (e : wl = enc its) (hne : its ≠ []) (hok : ∀ i ∈ its, ItOk i) (hq : its.head? ≠ some (false, 63)) :
    SkipTo (zs (ah ++ wl ++ bh)) 0 ah.length ∧ (zs (ah ++ wl ++ bh)).drop ((ah.length : Int)).toNat = zs (enc its) ++ zs bh ∧
    ∃ c, codeAt (zs (ah ++ wl ++ bh)) ah.length = c ∧ 32 < c ∧ ∀ y ∈ ([34, 39, 40, 41, 91, 93, 35, 96, 44, 63] : List Int), c ≠ y := by
  subst e
  obtain ⟨c, r, e1, h32, h160, h59, hys⟩ := first_word hne hok hq (zs bh)
  have hd : (zs (ah ++ enc its ++ bh)).drop ((ah.length : Int)).toNat = zs (enc its) ++ zs bh := by
    rw [List.append_assoc, zs_app, zs_app]
    have : ((ah.length : Int)).toNat = (zs ah).length := by simp
    rw [this, List.drop_left]
  refine ⟨?_, hd, c, (codeAt_of (by omega) (hd.trans e1)).1, h32, hys⟩
  rw [List.append_assoc, zs_app, zs_app]
  refine skip_ahead hah fun c2 r2 e2 => ?_
  rw [e1] at e2
  cases e2
  have h35 : c ≠ 35 := hys 35 (by simp)
  exact ⟨fun q => q.elim h59 fun z => h35 z.1, by omega⟩
end Mine
namespace Mine
noncomputable def plainIts (l : List Nat) : List (Bool × Nat) := l.map fun c => (false, c)
theorem enc_plain : ∀ l : List Nat, enc (plainIts l) = l
  | [] => rfl
  | c :: r => by show c :: enc (plainIts r) = _; rw [enc_plain r]
theorem snd_plain (l : List Nat) : (plainIts l).map (·.2) = l := by
  induction l with
  | nil => rfl
  | cons c r ih => show c :: (plainIts r).map (·.2) = _; rw [ih]
theorem any_plain (l : List Nat) : (plainIts l).any (·.1) = false := by unfold plainIts; simp
theorem sign_fig_ok : ∀ c : Nat, c < 128 → (c = 45 ∨ c = 43 ∨ isFigC c) → isBreak (c : Int) = false ∧ c ≠ 92 := by
  unfold isFigC
  decide +kernel
theorem sg_fl_ok {sg fl : List Nat} (hs : sg ∈ ([[], [45], [43]] : List (List Nat))) (hf : ∀ c ∈ fl, isFigC c) : ∀ i ∈ plainIts (sg ++ fl), ItOk i := by
  intro i hi
  obtain ⟨c, hc, rfl⟩ := List.mem_map.mp hi
  have hcc : c = 45 ∨ c = 43 ∨ isFigC c := by
    rcases List.mem_append.mp hc with h | h
    · simp only [List.mem_cons, List.not_mem_nil, or_false] at hs
      rcases hs with rfl | rfl | rfl
      · cases h
      · exact .inl (by simpa using h)
      · exact .inr (.inl (by simpa using h))
    · exact .inr (.inr (hf c h))
  have h128 : c < 128 := by
    rcases hcc with rfl | rfl | h
    · decide
    · decide
    · rcases h with h | h
      · exact Nat.lt_of_le_of_lt h.2 (by decide)
      · exact Nat.lt_of_le_of_lt h.2 (by decide)
  exact ⟨h128, fun _ => sign_fig_ok c h128 hcc⟩
theorem radix_stand {ah sg fl bh : List Nat} {r : Int} (hah : ah ∈ aheads) (hr : r ∈ radii) :
    SkipTo (zs (ah ++ (headOf r ++ sg ++ fl) ++ bh)) 0 ah.length ∧ (zs (ah ++ (headOf r ++ sg ++ fl) ++ bh)).drop ((ah.length : Int)).toNat = zs (headOf r) ++ (zs (enc (plainIts (sg ++ fl))) ++ zs bh) := by
  have hd : (zs (ah ++ (headOf r ++ sg ++ fl) ++ bh)).drop ((ah.length : Int)).toNat = zs (headOf r) ++ (zs (enc (plainIts (sg ++ fl))) ++ zs bh) := by
    rw [enc_plain, List.append_assoc, zs_app]
    have : ((ah.length : Int)).toNat = (zs ah).length := by simp
    rw [this, List.drop_left]
    simp only [zs_app, List.append_assoc]
  refine ⟨?_, hd⟩
  rw [List.append_assoc, zs_app]
  refine skip_ahead hah fun c2 r2 e2 => ?_
  have h2 : ∃ d tl, headOf r = 35 :: d :: tl ∧ d ≠ 33 := by
    simp only [radii, List.mem_cons, List.not_mem_nil, or_false] at hr
    rcases hr with rfl | rfl | rfl | rfl | rfl | rfl | rfl | rfl <;> exact ⟨_, _, rfl, by decide⟩
  obtain ⟨d, tl, e, hne⟩ := h2
  rw [e] at e2
  have e3 : (35 : Int) :: (d : Int) :: zs (tl ++ sg ++ fl ++ bh) = c2 :: r2 := by rw [← e2]; simp [zs]
  cases e3
  refine ⟨fun q => ?_, by omega⟩
  rcases q with q | ⟨_, q⟩
  · omega
  · simp at q; omega
end Mine
namespace Mine
set_option maxRecDepth 100000
set_option maxHeartbeats 0

noncomputable def turnOf : List Stmt → List Stmt
  | _ :: .For _ _ b _ _ :: _ => b
  | _ => []
noncomputable def take4 : List Stmt → List Stmt
  | a :: b :: c :: d :: _ => [a, b, c, d]
  | _ => []
noncomputable def wordOf (bh : Str) : Str := if bh.cps.toList.head? = some 40 then Str.ofString "(" else if bh.cps.toList.head? = some 41 then Str.ofString ")" else if bh.cps.toList.head? = some 39 then Str.ofString "'" else Str.ofString "symbol"
theorem execs_cut_wp {M : Model} {env : Env} (b : List Stmt) : ∀ (a : List Stmt) (Γ : Ctx) (p : Pos) (s : Shared) (Q : Flow → Pos → Shared → Prop) (E : Value → Pos → Shared → Prop),
    Sem.wp M Γ (execs a env) (fun f p' s' => match f with | .next => Sem.wp M Γ (execs b env) Q E p' s' | f => Q f p' s') E p s → Sem.wp M Γ (execs (a ++ b) env) Q E p s
  | [], _, _, _, _, _, h => h
  | st :: a, Γ, p, s, Q, E, h => by
    rw [List.cons_append, execs_cons, Sem.wp_bind']
    rw [execs_cons, Sem.wp_bind'] at h
    refine Sem.wp_mono M Γ _ (fun f p' s' h' => ?_) (fun _ _ _ h' => h') _ _ h
    cases f <;> first | exact execs_cut_wp b a Γ p' s' Q E h' | exact h'
theorem execs_cut {M : Model} {A : Around} {env : Env} {E : Value → Shared → Prop} (R : Shared → Prop) (a b : List Stmt) {Q : Flow → Shared → Prop} {s : Shared}
    (h : wpAny M A (execs a env) (fun f s' => f = .next ∧ R s') E s) (k : ∀ s', R s' → wpAny M A (execs b env) Q E s') : wpAny M A (execs (a ++ b) env) Q E s := fun Γ p hΓ => by
  refine execs_cut_wp b a Γ p s _ _ (Sem.wp_mono M Γ _ (fun f p' s' h' => ?_) (fun _ _ _ h' => h') _ _ (h Γ p hΓ))
  obtain ⟨e, r⟩ := h'
  subst e
  exact k s' r Γ p' hΓ
noncomputable def dvData : DV → PyData
  | .none => .none
  | .int i => .int i
  | .str s => .str s
noncomputable def dvOk : DV → Prop
  | .str s => PyData.strOk s = true
  | _ => True
theorem dv_reads {h : Heap} {v : Value} {d : DV} (i : IsDV v d) : Reads h v (dvData d) [] := by
  cases d with
  | none => have e : v = .none := i; subst e; exact .none
  | int n => obtain ⟨t, e⟩ := i; subst e; exact .int n t
  | str x => obtain ⟨t, e⟩ := i; subst e; exact .str x t
theorem tup_shaped {k : Str} {d : DV} (hk : PyData.strOk k = true) (hd : dvOk d) (i : Int) : SeqAt.shaped (.tuple [.str k, dvData d, .int i]) = true := by
  have h1 : PyData.depth (.tuple [.str k, dvData d, .int i]) ≤ 64 := by cases d <;> simp [PyData.depth, PyData.depthAll, dvData]
  show (PyData.canLay0 (.tuple [.str k, dvData d, .int i]) && decide (PyData.depth (.tuple [.str k, dvData d, .int i]) ≤ 64)) = true
  rw [Bool.and_eq_true]
  refine ⟨?_, decide_eq_true h1⟩
  cases d <;> simp [PyData.canLay0, PyData.canLayAll0, dvData, hk]
  exact hd
theorem tup_noMix (k : Str) (d : DV) (i : Int) : SeqAt.noMix (.tuple [.str k, dvData d, .int i]) (.tuple [.str k, dvData d, .int i]) = true := by
  cases d <;> simp [SeqAt.noMix, SeqAt.noMixAll, dvData]
theorem ne_tup {prog : Program} {w : World} {A : Around} {E : Value → Shared → Prop} {s : Shared} {a b : Addr} {k : Str} {t1 t2 : Tok} {v1 v2 : Value} {d : DV} {i : Int} {u1 u2 : Tok} {h₀ : Heap} {L : Addr} {news : List (Addr × Obj)} {Q : Value → Shared → Prop}
    (N : News h₀ L s.heap news) (ha : (a, tupObj [.str k t1, v1, .int i u1]) ∈ news) (hb : (b, tupObj [.str k t2, v2, .int i u2]) ∈ news) (i1 : IsDV v1 d) (i2 : IsDV v2 d) (hk : PyData.strOk k = true) (hd : dvOk d) (hu : A.units + 64 < cLine) (h : Q (.bool false) s) :
    wpAny (model prog w) A (compareOp .NotEq (.ref a) (.ref b)) Q E s :=
  ne_dataH_same (.tuple (N _ ha).1 rfl rfl (.cons (.str k t1) (.cons (dv_reads i1) (.cons (.int i u1) .nil)))) (.tuple (N _ hb).1 rfl rfl (.cons (.str k t2) (.cons (dv_reads i2) (.cons (.int i u2) .nil))))
    (tup_shaped hk hd i) (tup_shaped hk hd i) hu (tup_noMix k d i) (by rw [PySem.Spec.same_self]; exact h)
theorem conx_weak {w : World} {p : Program} {loose : List Str} {mean : ExcName → Option Value} {mg mb : Str → Option Value} {f : Addr} {vs : List Value} {news : List (Addr × Obj)} {k : Nat}
    {Ret Ret' : Value → List (Addr × Obj) → Prop} {may may' : Prop} {kept : List (Addr × Obj)} (C : ConX w p loose mean mg mb f vs news k Ret may kept) (hr : ∀ v n, Ret v n → Ret' v n) (hm : may → may') :
    ConX w p loose mean mg mb f vs news k Ret' may' kept := by
  unfold ConX at C ⊢
  intro dp un gd cn cs a ccd cl outer A₀ base h₀ L m s Q E B F X N T hk hd hu hret hexc
  exact C dp un gd cn cs a ccd cl outer A₀ base h₀ L m s Q E B F X N T hk hd hu (fun v h' tk' n' F' N' r => hret v h' tk' n' F' N' (hr _ _ r)) (fun e g h' tk' F' U R q => hexc e g h' tk' F' U R (hm q))
end Mine
namespace Mine
theorem zs_nn (l : List Nat) : ∀ y ∈ zs l, 0 ≤ y := fun y hy => by
  obtain ⟨c, _, rfl⟩ := List.mem_map.mp hy; omega
theorem zs_len (l : List Nat) : (zs l).length = l.length := by simp
theorem zs3 {B W H : List Nat} (h1 : B.length ≤ 7) (h2 : W.length ≤ 15) (h3 : H.length ≤ 3) :
    (zs (B ++ W ++ H)).length ≤ 200 ∧ ((0 : Int) ≤ (zs (B ++ W ++ H)).length) ∧ (B.length : Int) ≤ (zs (B ++ W ++ H)).length := by
  rw [zs_len, List.length_append, List.length_append]
  omega
theorem c1_word (w : World) (p : Program) (loose : List Str) (mean : ExcName → Option Value) (mg mb : Str → Option Value) (rest : List (Addr × Obj)) (k1 k2 : Tok) (l x dx : Addr) (tp : Tok) (cv : List Value) (cc : Nat)
    {b wr bh nm : Str} {q : Bool} (hI : IntsAre cv (zs (b.cps.toList ++ wr.cps.toList ++ bh.cps.toList))) (hah : b.cps.toList ∈ aheads) (hbh : bh.cps.toList ∈ behinds)
    (hW : WordOk wr.cps.toList nm.cps.toList q) (hne : wr.cps.toList ≠ []) (hlb : b.length ≤ 7) (hlw : wr.length ≤ 15) (hlh : bh.length ≤ 3) (o1 : @LT.lt Nat _ l dx) (o2 : @LT.lt Nat _ dx x) (hr : ∀ q ∈ rest, q.1 ≠ dx) :
   ConX w p loose mean mg mb 254 [.ref x] (tokL w.params k1 k2 l 0 tp x dx cv cc rest) 12
     (fun v news' => ∃ d tp', lawDue nm q = some d ∧ TokAt v news' b.length d ∧ ∀ q ∈ tokL w.params k1 k2 l (b.length + wr.length) tp' x dx cv cc rest, q ∈ news') (lawDue nm q = none) rest := by
  obtain ⟨its, w1, w2, w3, w4, w5⟩ := hW
  have hits : its ≠ [] := fun z => hne (by rw [w1, z]; rfl)
  obtain ⟨hsk, hdr, c0, hc0, hc1, hc2⟩ := word_stand (bh := bh.cps.toList) hah w1 hits w4 w5
  rw [str_len] at hlb hlw hlh
  have hil : its.length ≤ 20 := by have := enc_len its; rw [← w1] at this; exact Nat.le_trans this (Nat.le_trans hlw (by decide))
  have z3 := zs3 hlb hlw hlh
  refine conx_weak (token_word w p loose mean mg mb rest k1 k2 l x dx 0 tp cv cc _ hI z3.1 (Int.le_refl 0) z3.2.1 (zs_nn _) o1 o2 hr _ hsk z3.2.2 its (zs bh.cps.toList) w4 hdr (behind_break hbh) hil c0 hc0 hc1 hc2) ?_ ?_
  · rintro v n ⟨nm', d, tp', e1, e2, hT, hK⟩
    rw [← w2] at e1
    rw [← w2, ← w3, tok_law nm nm' _ rfl e1] at e2
    refine ⟨d, tp', e2, by rw [str_len]; exact hT, ?_⟩
    rw [str_len, str_len, w1]
    exact hK
  · intro h
    have := h nm
    rw [← w2, ← w3, tok_law nm nm _ rfl rfl] at this
    exact this
theorem c1_radix (w : World) (p : Program) (loose : List Str) (mean : ExcName → Option Value) (mg mb : Str → Option Value) (rest : List (Addr × Obj)) (k1 k2 : Tok) (l x dx : Addr) (tp : Tok) (cv : List Value) (cc : Nat)
    {b wr bh : Str} {r : Int} {sg fl : List Nat} (hI : IntsAre cv (zs (b.cps.toList ++ wr.cps.toList ++ bh.cps.toList))) (hah : b.cps.toList ∈ aheads) (hbh : bh.cps.toList ∈ behinds)
    (hwr : wr.cps.toList = headOf r ++ sg ++ fl) (hrr : r ∈ radii) (hsg : sg ∈ ([[], [45], [43]] : List (List Nat))) (hfl : fl.length ≤ 3) (hff : ∀ c ∈ fl, isFigC c) (hlb : b.length ≤ 7) (hlw : wr.length ≤ 15) (hlh : bh.length ≤ 3) (o1 : @LT.lt Nat _ l dx) (o2 : @LT.lt Nat _ dx x) (hr : ∀ q ∈ rest, q.1 ≠ dx) :
   ConX w p loose mean mg mb 254 [.ref x] (tokL w.params k1 k2 l 0 tp x dx cv cc rest) 12
     (fun v news' => ∃ d tp', radixDue r sg fl = some d ∧ TokAt v news' b.length d ∧ ∀ q ∈ tokL w.params k1 k2 l (b.length + wr.length) tp' x dx cv cc rest, q ∈ news') (radixDue r sg fl = none) rest := by
  obtain ⟨hsk, hdr⟩ := radix_stand (sg := sg) (fl := fl) (bh := bh.cps.toList) hah hrr
  rw [← hwr] at hsk hdr
  rw [str_len] at hlb hlw hlh
  have hs1 : sg.length ≤ 1 := by
    simp only [List.mem_cons, List.not_mem_nil, or_false] at hsg
    rcases hsg with rfl | rfl | rfl <;> simp
  have hil : (plainIts (sg ++ fl)).length ≤ 20 := by unfold plainIts; rw [List.length_map, List.length_append]; omega
  have z3 := zs3 hlb hlw hlh
  refine conx_weak (token_radix w p loose mean mg mb rest k1 k2 l x dx 0 tp cv cc _ hI z3.1 (Int.le_refl 0) z3.2.1 (zs_nn _) o1 o2 hr _ hsk z3.2.2 (plainIts (sg ++ fl)) (zs bh.cps.toList) (sg_fl_ok hsg hff) (behind_break hbh) hil (any_plain _) _ r (head_rad hrr) hdr) ?_ ?_
  · rintro v n ⟨i, tp', hT, hv, h2, hK⟩
    rw [snd_plain] at hv
    refine ⟨_, tp', ?_, by rw [str_len]; exact hT, ?_⟩
    · rw [radix_is hsg hff, if_pos h2, hv]; rfl
    · have e : ((b.length : Int) + (wr.length : Int)) = (b.cps.toList.length : Int) + ((headOf r).map fun (c : Nat) => (c : Int)).length + (enc (plainIts (sg ++ fl))).length := by
        rw [str_len, str_len, hwr, enc_plain]
        simp only [List.length_append, List.length_map]
        omega
      rw [e]
      exact hK
  · intro h
    rw [snd_plain] at h
    rw [radix_is hsg hff]
    by_cases h2 : 2 ≤ r ∧ r ≤ 36
    · rw [if_pos h2, h h2]; rfl
    · rw [if_neg h2]
theorem z_due {nm : Str} {d : Str × DV} (h : tokDue [122] nm false = some d) : d.1 = Str.ofString "symbol" := by
  have h1 : intOf [122] = none := by decide
  have h2 : isFlo [122] = false := by decide
  unfold tokDue at h
  rw [if_neg (by decide), if_neg (by decide), h1] at h
  simp only [h2, Bool.false_eq_true, if_false, Option.some.injEq] at h
  rw [← h]
theorem z_not (h : ∀ nm, tokDue [122] nm false = none) : False := by
  have h1 : intOf [122] = none := by decide
  have h2 : isFlo [122] = false := by decide
  have := h (Str.ofString "z")
  unfold tokDue at this
  rw [if_neg (by decide), if_neg (by decide), h1] at this
  simp [h2] at this
theorem z_con (w : World) (p : Program) (loose : List Str) (mean : ExcName → Option Value) (mg mb : Str → Option Value) (rest : List (Addr × Obj)) (k1 k2 : Tok) (l x dx : Addr) (cv : List Value) (cc : Nat) {ns : List Int} {je j : Int} {wd : Str} (tp : Tok)
    (hI : IntsAre cv ns) (hl : ns.length ≤ 200) (hp0 : 0 ≤ je) (hp1 : je ≤ ns.length) (hn : ∀ c ∈ ns, 0 ≤ c) (o1 : @LT.lt Nat _ l dx) (o2 : @LT.lt Nat _ dx x) (hr : ∀ q ∈ rest, q.1 ≠ dx)
    (hsk : SkipTo ns je j) (hdr : ns.drop j.toNat = [122]) (hw : wd = Str.ofString "symbol") :
   ConX w p loose mean mg mb 254 [.ref x] (tokL w.params k1 k2 l je tp x dx cv cc rest) 12
     (fun v news' => ∃ d j2, TokAt v news' j2 (wd, d) ∧ ∀ q ∈ rest, q ∈ news') False rest := by
  subst hw
  have hc := codeAt_of hsk.2 hdr
  have hc2 : codeAt ns j = 122 := hc.1
  have hc3 := hc.2.1
  refine conx_weak (token_word w p loose mean mg mb rest k1 k2 l x dx je tp cv cc ns hI hl hp0 hp1 hn o1 o2 hr j hsk (by omega) [(false, 122)] [] (by decide) hdr (fun _ _ h => nomatch h) (by decide) 122 hc2 (by decide) (by decide)) ?_ ?_
  · rintro v n ⟨nm', d, tp', e1, e2, hT, hK⟩
    have e3 := z_due e2
    obtain ⟨k, dv⟩ := d
    subst e3
    exact ⟨dv, _, hT, fun q h => hK q (by simp [h])⟩
  · intro h
    exact z_not h
theorem p_con (w : World) (p : Program) (loose : List Str) (mean : ExcName → Option Value) (mg mb : Str → Option Value) (rest : List (Addr × Obj)) (k1 k2 : Tok) (l x dx : Addr) (cv : List Value) (cc : Nat) {ns : List Int} {je : Int} {wd : Str} (tp : Tok)
    (hI : IntsAre cv ns) (hl : ns.length ≤ 200) (hp0 : 0 ≤ je) (hp1 : je ≤ ns.length) (hn : ∀ c ∈ ns, 0 ≤ c) (o1 : @LT.lt Nat _ l dx) (o2 : @LT.lt Nat _ dx x) (hr : ∀ q ∈ rest, q.1 ≠ dx)
    {c : Int} {r : List Int} (hdr : ns.drop je.toNat = c :: r) (hcw : (c = 40 ∧ wd = Str.ofString "(") ∨ (c = 41 ∧ wd = Str.ofString ")") ∨ (c = 39 ∧ wd = Str.ofString "'")) :
   ConX w p loose mean mg mb 254 [.ref x] (tokL w.params k1 k2 l je tp x dx cv cc rest) 12
     (fun v news' => ∃ d j2, TokAt v news' j2 (wd, d) ∧ ∀ q ∈ rest, q ∈ news') False rest := by
  have hsk : SkipTo ns je je := ⟨.stop fun c2 r2 e2 => by
    rw [hdr] at e2
    cases e2
    rcases hcw with ⟨rfl, _⟩ | ⟨rfl, _⟩ | ⟨rfl, _⟩ <;> exact ⟨fun q => q.elim (by decide) fun z => absurd z.1 (by decide), by decide⟩, hp0⟩
  refine conx_weak (token_plain w p loose mean mg mb rest k1 k2 l x dx je tp cv cc ns hI hl hp0 hp1 hn o1 o2 hr je hsk hp1 c wd hcw (codeAt_of hp0 hdr).1) ?_ (fun h => h)
  rintro v n ⟨tp', hT, hK⟩
  exact ⟨_, _, hT, fun q h => hK q (by simp [h])⟩
theorem c2_con (w : World) (p : Program) (loose : List Str) (mean : ExcName → Option Value) (mg mb : Str → Option Value) (rest : List (Addr × Obj)) (k1 k2 : Tok) (l x dx : Addr) (cv : List Value) (cc : Nat)
    {A : List Nat} {bh : Str} {je : Int} (hje : je = A.length) (hA : A.length ≤ 50) (hI : IntsAre cv (zs (A ++ bh.cps.toList))) (hbh : bh.cps.toList ∈ behinds) (o1 : @LT.lt Nat _ l dx) (o2 : @LT.lt Nat _ dx x) (hr : ∀ q ∈ rest, q.1 ≠ dx) (tp : Tok) :
   ConX w p loose mean mg mb 254 [.ref x] (tokL w.params k1 k2 l je tp x dx cv cc rest) 12
     (fun v news' => ∃ d j2, TokAt v news' j2 (wordOf bh, d) ∧ ∀ q ∈ rest, q ∈ news') False rest := by
  unfold wordOf
  generalize bh.cps.toList = bl at hI hbh ⊢
  have hd : ∀ n : Nat, (zs (A ++ bl)).drop (A.length + n) = (zs bl).drop n := fun n => by
    rw [zs_app, ← zs_len A, List.drop_append, List.drop_eq_nil_of_le (by omega), Nat.add_sub_cancel_left]; rfl
  have hd' : ∀ n : Nat, (zs (A ++ bl)).drop (je + (n : Int)).toNat = (zs bl).drop n := fun n => by
    rw [← hd, show (je + (n : Int)).toNat = A.length + n by omega]
  have hd0 : (zs (A ++ bl)).drop je.toNat = zs bl := by
    have := hd 0
    rwa [show A.length + 0 = je.toNat by omega] at this
  have hje0 : 0 ≤ je := by omega
  have hbl : bl.length ≤ 3 := by
    simp only [behinds, List.mem_cons, List.not_mem_nil, or_false] at hbh
    rcases hbh with rfl | rfl | rfl | rfl | rfl <;> decide
  have hlen : (zs (A ++ bl)).length ≤ 200 := by rw [zs_len, List.length_append]; omega
  have hp1 : je ≤ (zs (A ++ bl)).length := by rw [zs_len, List.length_append]; omega
  simp only [behinds, List.mem_cons, List.not_mem_nil, or_false] at hbh
  rcases hbh with rfl | rfl | rfl | rfl | rfl
  · refine z_con w p loose mean mg mb rest k1 k2 l x dx cv cc tp hI hlen hje0 hp1 (zs_nn _) o1 o2 hr (j := je + (1 : Nat)) ⟨?_, by omega⟩ (hd' 1) (by decide)
    refine .blank (c := 32) (r := [122]) hd0 (fun q => q.elim (by decide) fun z => absurd z.1 (by decide)) (.inl (by decide)) ?_
    rw [show (je + ((1 : Nat) : Int)).toNat = je.toNat + 1 by omega]
    refine .stop fun c r e => ?_
    rw [show je.toNat + 1 = A.length + 1 by omega, hd 1] at e
    replace e : [(122 : Int)] = c :: r := e
    cases e
    exact ⟨fun q => q.elim (by decide) fun z => absurd z.1 (by decide), by decide⟩
  · exact p_con w p loose mean mg mb rest k1 k2 l x dx cv cc tp hI hlen hje0 hp1 (zs_nn _) o1 o2 hr hd0 (.inl ⟨rfl, rfl⟩)
  · exact p_con w p loose mean mg mb rest k1 k2 l x dx cv cc tp hI hlen hje0 hp1 (zs_nn _) o1 o2 hr hd0 (.inr (.inr ⟨rfl, rfl⟩))
  · refine z_con w p loose mean mg mb rest k1 k2 l x dx cv cc tp hI hlen hje0 hp1 (zs_nn _) o1 o2 hr (j := je + (2 : Nat)) ⟨?_, by omega⟩ (hd' 2) (by decide)
    refine .line (c := 59) (r := [10, 122]) hd0 (.inl rfl) ?_
    rw [show je.toNat + lineLen ([59, 10, 122] : List Int) = je.toNat + 1 by simp [lineLen]]
    refine .blank (c := 10) (r := [122]) ?_ (fun q => q.elim (by decide) fun z => absurd z.1 (by decide)) (.inl (by decide)) ?_
    · rw [show je.toNat + 1 = A.length + 1 by omega, hd 1]; rfl
    rw [show (je + ((2 : Nat) : Int)).toNat = je.toNat + 1 + 1 by omega]
    refine .stop fun c r e => ?_
    rw [show je.toNat + 1 + 1 = A.length + 2 by omega, hd 2] at e
    replace e : [(122 : Int)] = c :: r := e
    cases e
    exact ⟨fun q => q.elim (by decide) fun z => absurd z.1 (by decide), by decide⟩
  · exact p_con w p loose mean mg mb rest k1 k2 l x dx cv cc tp hI hlen hje0 hp1 (zs_nn _) o1 o2 hr hd0 (.inr (.inl ⟨rfl, rfl⟩))
end Mine
namespace Mine
set_option maxRecDepth 100000
set_option maxHeartbeats 0

local macro_rules | `(tactic| walk_at "pyIter ref") => `(tactic| refine hold ?_)
local macro_rules | `(tactic| walk_at "eval Subscript List") => `(tactic| refine hold ?_)
local macro_rules | `(tactic| walk_at "exec If") => `(tactic| refine hold ?_)
local macro_rules | `(tactic| walk_at "eval ListComp") => `(tactic| refine hold ?_)
local macro_rules | `(tactic| walk_at "call ref") => `(tactic| (k_here; k_dflt (refine' law_word_go ?k1 ?_; (case k1 => keq_rows); rotate_right 1; intros)))
local macro_rules | `(tactic| walk_at "call ref") => `(tactic| (k_here; k_dflt (refine' law_due_go ?k1 (hold ?_) (hold ?_) (hold ?_) ?_; (case k1 => keq_rows); rotate_right 1; intros)))
local macro_rules | `(tactic| walk_at "call ref") => `(tactic| (k_here; k_dflt (refine' law_radix_go ?k1 ?_; (case k1 => keq_rows); rotate_right 1; intros)))
local macro_rules | `(tactic| walk_at "call ref") => `(tactic| (k_here; k_dflt (refine' tokens_go ?k1 ?_; (case k1 => keq_rows); rotate_right 1; intros)))

inductive WrCase : List Nat → Option (Str × DV) → Prop
  | word {wr : List Nat} {nm : Str} {q : Bool} (h : WordOk wr nm.cps.toList q) (ne : wr ≠ []) (hl : wr.length ≤ 15) : WrCase wr (lawDue nm q)
  | radix {r : Int} {sg fl : List Nat} (hr : r ∈ radii) (hs : sg ∈ ([[], [45], [43]] : List (List Nat))) (hl : fl.length ≤ 3) (hf : ∀ c ∈ fl, isFigC c) : WrCase (headOf r ++ sg ++ fl) (radixDue r sg fl)
theorem wordok_pos {wr nm : List Nat} {q : Bool} (h : WordOk wr nm q) (hne : wr ≠ []) : 1 ≤ nm.length := by
  obtain ⟨its, e1, e2, _⟩ := h
  have : its ≠ [] := fun z => hne (by rw [e1, z]; rfl)
  rw [e2, List.length_map]
  cases its with
  | nil => exact absurd rfl this
  | cons _ _ => simp
theorem wordok_ascii {wr nm : List Nat} {q : Bool} (h : WordOk wr nm q) : ∀ c ∈ nm, c < 128 := by
  obtain ⟨its, _, e2, _, e4, _⟩ := h
  intro c hc
  rw [e2] at hc
  obtain ⟨i, hi, rfl⟩ := List.mem_map.mp hc
  exact (e4 i hi).1
theorem ahead_len : ∀ l ∈ aheads, l.length ≤ 7 := by decide +kernel
theorem behind_len : ∀ l ∈ behinds, l.length ≤ 3 := by decide +kernel
theorem wr_len {l : List Nat} {due : Option (Str × DV)} (h : WrCase l due) : l.length ≤ 15 := by
  cases h with
  | word _ _ hl => exact hl
  | radix hr hs hl _ =>
    have := head_len _ hr
    have : ∀ s ∈ ([[], [45], [43]] : List (List Nat)), s.length ≤ 1 := by decide
    have := this _ hs
    simp only [List.length_append]; omega
theorem ord_free (P : Params) : nsIn (Mine.ka.heap_1 P) mainGlobals (Str.ofString "ord") = some none := rfl
theorem keep_of {h₀ h : Heap} {L d : Addr} {n : List (Addr × Obj)} {its : Array Value} {c : Nat} (N : News h₀ L h n) (hdm : (d, listOf its c) ∈ n) :
    ∃ k, News h₀ L h ((d, listOf its c) :: k) ∧ (∀ q ∈ k, q.1 ≠ d) ∧ (∀ v due, DueAt v n due → DueAt v k due) ∧ ∀ q ∈ n, q.1 ≠ d → q ∈ k := by
  refine ⟨n.filter (fun q => decide (q.1 ≠ d)), fun q hq => ?_, fun q hq => ?_, fun v due hv => ?_, fun q hq hne => ?_⟩
  · rcases List.mem_cons.mp hq with z | z
    · rw [z]; exact N _ hdm
    · exact N _ (List.mem_filter.mp z).1
  · exact of_decide_eq_true (List.mem_filter.mp hq).2
  · cases due with
    | none => exact hv
    | some kd =>
      obtain ⟨kk, dd⟩ := kd
      obtain ⟨a, t, v', e, hm, hi⟩ := hv
      refine ⟨a, t, v', e, List.mem_filter.mpr ⟨hm, decide_eq_true fun z => ?_⟩, hi⟩
      have h1 := (N _ hm).1
      have h2 := (N _ hdm).1
      dsimp only at h1 h2
      rw [show a = d from z, h2] at h1
      have h4 := congrArg Obj.cls (Option.some.inj h1)
      injection h4 with h5
      exact absurd h5 (by decide)
  · exact List.mem_filter.mpr ⟨hq, decide_eq_true hne⟩
/-- what stands when the tokens have been made -/
noncomputable def Stood (w : World) (h₀ : Heap) (L : Addr) (s : Shared) (d : Addr) (own : List (Addr × Obj)) (s' : Shared) : Prop :=
  ∃ (b : Str) (tb : Tok) (wr : Str) (tw : Tok) (v2 : Value) (bh : Str) (tbh : Tok) (x dx l : Addr) (k1 k2 tp : Tok) (ys : List Value) (n : Nat) (keep : List (Addr × Obj)) (vs : List Value) (c : Nat) (ns : List Int) (m' : Str → Option Value) (h' : Heap) (tk : Nat) (due : Option (Str × DV)),
    s' = { s with heap := h', toks := tk } ∧ Fr h₀ L h' m' ∧ Has m' [(Str.ofString "deck", .ref d), (Str.ofString "ahead", .str b tb), (Str.ofString "written_here", .str wr tw), (Str.ofString "due", v2), (Str.ofString "behind", .str bh tbh), (Str.ofString "tokens", .ref x)] ∧
    News h₀ L h' (tokL w.params k1 k2 l 0 tp x dx ys n ((d, listOf vs.toArray c) :: keep)) ∧ @LT.lt Nat _ l dx ∧ @LT.lt Nat _ dx x ∧ (∀ q ∈ (d, listOf vs.toArray c) :: keep, q.1 ≠ dx) ∧ (∀ q ∈ own, q ∈ keep) ∧ IntsAre vs ns ∧ ns.length ≤ 60 ∧
    DueAt v2 keep due ∧ WrCase wr.cps.toList due ∧ b.cps.toList ∈ aheads ∧ bh.cps.toList ∈ behinds ∧ IntsAre ys (zs (b.cps.toList ++ wr.cps.toList ++ bh.cps.toList)) ∧ b.length ≤ 7 ∧ wr.length ≤ 15 ∧ bh.length ≤ 3
theorem turn_head (w : World) (p : Program) (loose : List Str) (mean : ExcName → Option Value) (mg mb : Str → Option Value) (body : List Stmt) (sc : Scope) (hb : take4 (turnOf (bodyOf ((Mine.ka.heap_1 w.params).lookup 364))) = body) (hs : scopeOf ((Mine.ka.heap_1 w.params).lookup 364) = sc) :
    ∀ (dp un : Nat) (gd : Option (List Code)) (fa : Addr) (ccd : Value) (A₀ : Around) (h₀ : Heap) (L : Addr) (m : Str → Option Value) (s : Shared) (d : Addr) (vs : List Value) (c : Nat) (ns : List Int) (own : List (Addr × Obj)) (E : Value → Shared → Prop),
    Below A₀ h₀ [] h₀ → Fr h₀ L s.heap m → Has m [(Str.ofString "deck", .ref d)] → (Mine.ka.heap_1 w.params).In h₀ → News h₀ L s.heap ((d, listOf vs.toArray c) :: own) → Top p loose mean mg mb h₀ → IntsAre vs ns → ns.length ≤ 60 → (∀ q ∈ own, q.1 ≠ d) → dp ≤ 400 → un ≤ 100 →
    wpAny (model PySem.Challenge.rw_ok0058_01.row.prog w) (ktrTop dp un gd (Str.ofString "law") sc L fa ccd [] []) (execs body (envOf (Str.ofString "law") sc L fa ccd)) (fun f s' => f = .next ∧ Hold (Stood w h₀ L s d own s')) E s := by
  conv at hb => lhs; whnf
  conv at hs => lhs; whnf
  subst hb hs
  k_fill
  intro dp un gd fa ccd A₀ h₀ L m s d vs c ns own E B F hm X N T hI hl hr hdp hun
  rw [hm.see] at F
  clear hm
  tb_start
  refine unhold ?_
  with_reducible refine cut_eval (fun (v : Value) (s' : Shared) => Hold (∃ (b : Str) (tb : Tok) (h' : Heap) (tk : Nat) (vs2 : List Value) (c2 : Nat) (ns2 : List Int) (m2 : Str → Option Value), v = Value.str b tb ∧ s' = { s with heap := h', toks := tk } ∧ Fr h₀ L h' m2 ∧ Has m2 [(Str.ofString "deck", .ref d)] ∧ News h₀ L h' ((d, listOf vs2.toArray c2) :: own) ∧ IntsAre vs2 ns2 ∧ ns2.length ≤ 60 ∧ b.cps.toList ∈ aheads)) ?_ ?_
  · refine Subscript_ ?_
    tb_start
    with_reducible rename (_ < (5 : Int)) => h5
    with_reducible rename Fr h₀ _ _ _ => F5
    with_reducible rename News h₀ _ _ _ => N5
    with_reducible rename IntsAre _ _ => hI5
    with_reducible rename (List.length _ ≤ List.length ns) => hl5
    with_reducible rename (0 ≤ _) => h0
    rename Int => r9
    rcases (by omega : r9 = 0 ∨ r9 = 1 ∨ r9 = 2 ∨ r9 = 3 ∨ r9 = 4) with rfl | rfl | rfl | rfl | rfl
    all_goals
      tb_start
      with_reducible rename Fr h₀ _ _ _ => F6
      with_reducible rename News h₀ _ _ _ => N6
      exact unhold ⟨_, _, _, _, _, _, _, _, rfl, rfl, F6, .cons rfl .nil, news_drop2 N6, hI5, by omega, by decide +kernel⟩
  rintro v s' ⟨b, tb, h2, tk2, vs2, c2, ns2, m2, rfl, rfl, F3, hm2, N3, hI2, hl2, hb⟩
  rw [hm2.see] at F3
  clear F N
  tb_start
  refine unhold ?_
  with_reducible rename Fr h₀ _ _ _ => F4
  with_reducible rename News h₀ _ _ _ => N4
  with_reducible refine cut_exec (fun (s' : Shared) => Hold (∃ (wr : Str) (tw : Tok) (v2 : Value) (h' : Heap) (tk : Nat) (vs3 : List Value) (c3 : Nat) (ns3 : List Int) (m3 : Str → Option Value) (keep : List (Addr × Obj)) (due : Option (Str × DV)), s' = { s with heap := h', toks := tk } ∧ Fr h₀ L h' m3 ∧ Has m3 [(Str.ofString "deck", .ref d), (Str.ofString "ahead", .str b tb), (Str.ofString "written_here", .str wr tw), (Str.ofString "due", v2)] ∧ News h₀ L h' ((d, listOf vs3.toArray c3) :: keep) ∧ (∀ q ∈ own, q ∈ keep) ∧ (∀ q ∈ keep, q.1 ≠ d) ∧ IntsAre vs3 ns3 ∧ ns3.length ≤ 60 ∧ DueAt v2 keep due ∧ WrCase wr.cps.toList due)) ?_ ?_
  · refine wpAny_If ?_
    tb_start
    · with_reducible rename Fr h₀ _ _ _ => F6
      with_reducible rename News h₀ _ _ _ => N6
      with_reducible rename DueAt _ _ _ => q6
      with_reducible rename ((d, W.listOf _ _) ∈ _) => m6
      with_reducible rename (own ⊆ _) => s6
      with_reducible rename (_ = headOf _ ++ _ ++ _) => x6
      with_reducible rename (_ ∈ radii) => y6
      with_reducible rename (_ ∈ ([[], [45], [43]] : List (List Nat))) => z6
      with_reducible rename (List.length _ ≤ 3) => u6
      with_reducible rename (∀ c ∈ _, isFigC c) => f6
      with_reducible rename IntsAre _ _ => hI6
      obtain ⟨k, Nk, hk1, hk2, hk3⟩ := keep_of N6 m6
      exact unhold ⟨_, _, _, _, _, _, _, _, _, k, _, rfl, F6, .cons rfl (.cons rfl (.cons rfl (.cons rfl .nil))), Nk, fun q h => hk3 q (s6 h) (hr q h), hk1, hI6, by omega, hk2 _ _ q6, by rw [x6]; exact .radix y6 z6 u6 f6⟩
    · with_reducible rename Fr h₀ _ _ _ => F6
      with_reducible rename News h₀ _ _ _ => N6
      with_reducible rename DueAt _ _ _ => q6
      with_reducible rename (∀ p ∈ _, p ∈ _) => s6
      with_reducible rename WordOk _ _ _ => z6
      with_reducible rename (_ ≠ ([] : List Nat)) => y6
      with_reducible rename IntsAre _ _ => hI6
      revert q6
      with_reducible rename (Str.length _ ≤ 15) => u6
      revert u6
      with_reducible rename (Str.length _ ≤ 15) => x6
      intro u6 q6
      have m6 := s6 (d, W.listOf _ _) (List.mem_cons_of_mem _ (List.mem_cons_self ..))
      obtain ⟨k, Nk, hk1, hk2, hk3⟩ := keep_of N6 m6
      exact unhold ⟨_, _, _, _, _, _, _, _, _, k, _, rfl, F6, .cons rfl (.cons rfl (.cons rfl (.cons rfl .nil))), Nk, fun q h => hk3 q (s6 q (by simp [h])) (hr q h), hk1, hI6, by omega, hk2 _ _ q6, .word z6 y6 (by rw [← str_len]; exact x6)⟩
    · exact unhold (by omega)
    · with_reducible rename WordOk _ _ _ => z6
      with_reducible rename (_ ≠ ([] : List Nat)) => y6
      exact unhold (by rw [str_len]; exact wordok_pos z6 y6)
    · with_reducible rename WordOk _ _ _ => z6
      exact unhold (wordok_ascii z6)
  rintro s' ⟨wr, tw, v2, h3, tk3, vs3, c3, ns3, m3, keep, due, rfl, F5, hm3, N5, hown, hkd, hI3, hl3, hdue, hcase⟩
  rw [hm3.see] at F5
  clear F4 N4
  tb_start
  refine unhold ?_
  with_reducible rename Fr h₀ _ _ _ => F6
  with_reducible rename News h₀ _ _ _ => N6
  with_reducible refine cut_eval (fun (v : Value) (s' : Shared) => Hold (∃ (bh : Str) (tbh : Tok) (h' : Heap) (tk : Nat) (vs4 : List Value) (c4 : Nat) (ns4 : List Int) (m4 : Str → Option Value), v = Value.str bh tbh ∧ s' = { s with heap := h', toks := tk } ∧ Fr h₀ L h' m4 ∧ Has m4 [(Str.ofString "deck", .ref d), (Str.ofString "ahead", .str b tb), (Str.ofString "written_here", .str wr tw), (Str.ofString "due", v2)] ∧ News h₀ L h' ((d, listOf vs4.toArray c4) :: keep) ∧ IntsAre vs4 ns4 ∧ ns4.length ≤ 60 ∧ bh.cps.toList ∈ behinds)) ?_ ?_
  · refine Subscript_ ?_
    tb_start
    with_reducible rename (_ < (5 : Int)) => h5
    with_reducible rename Fr h₀ _ _ _ => F7
    with_reducible rename News h₀ _ _ _ => N7
    with_reducible rename IntsAre _ _ => hI5
    with_reducible rename (List.length _ ≤ List.length ns3) => hl5
    with_reducible rename (0 ≤ _) => h0
    rename Int => r9
    rcases (by omega : r9 = 0 ∨ r9 = 1 ∨ r9 = 2 ∨ r9 = 3 ∨ r9 = 4) with rfl | rfl | rfl | rfl | rfl
    all_goals
      tb_start
      with_reducible rename Fr h₀ _ _ _ => F8
      with_reducible rename News h₀ _ _ _ => N8
      exact unhold ⟨_, _, _, _, _, _, _, _, rfl, rfl, F8, .cons rfl (.cons rfl (.cons rfl (.cons rfl .nil))), news_drop2 N8, hI5, by omega, by decide +kernel⟩
  rintro v s' ⟨bh, tbh, h4, tk4, vs4, c4, ns4, m4, rfl, rfl, F7, hm4, N7, hI4, hl4, hbh⟩
  rw [hm4.see] at F7
  clear F6 N6 hm3 hm2
  tb_start
  refine unhold ?_
  have hlb : b.length ≤ 7 := by rw [str_len]; exact ahead_len _ hb
  have hlh : bh.length ≤ 3 := by rw [str_len]; exact behind_len _ hbh
  have hlw : wr.length ≤ 15 := by rw [str_len]; exact wr_len hcase
  with_reducible rename Fr h₀ _ _ _ => F8
  with_reducible rename News h₀ _ _ _ => N8
  refine comp_ord F8 N8 rfl T (mg_none_of X T.g (ord_free w.params)) (by decide) (by decide) rfl (by decide) rfl rfl ?_ (fun _ => rfl)
  tb_start
  with_reducible rename Fr h₀ _ _ _ => F9
  with_reducible rename News h₀ _ _ _ => N9
  refine unhold ⟨_, _, rfl, ?_, F9, N9, ?_⟩
  · rw [Str.length_append, Str.length_append, sizeLine_eq]; omega
  intro D ys n h5 tk5 F10 N10 hD hys
  rw [app_list, app_list] at hys
  clear F9 N9
  tb_start
  refine unhold ?_
  with_reducible rename Fr h₀ _ _ _ => F11
  with_reducible rename News h₀ _ _ _ => N11
  with_reducible rename Fr h₀ _ _ _ => F12
  with_reducible rename News h₀ _ _ _ => N12
  refine unhold ⟨b, tb, wr, tw, v2, bh, tbh, _, _, _, _, _, _, ys, n, keep, vs4, c4, ns4, _, _, _, due, rfl, F12, ?_, N12, by assumption, by assumption, by assumption, hown, hI4, hl4, hdue, hcase, hb, hbh, hys, hlb, hlw, hlh⟩
  exact .cons rfl (.cons rfl (.cons rfl (.cons rfl (.cons rfl (.cons rfl .nil)))))
  all_goals exact default
end Mine
namespace Mine
set_option maxRecDepth 100000
set_option maxHeartbeats 0

local macro_rules | `(tactic| walk_at "call ref") => `(tactic| refine hold ?_)
local macro_rules | `(tactic| walk_at "eval Dict") => `(tactic| refine hold ?_)
local macro_rules | `(tactic| walk_at "call builtin:dict.get") => `(tactic| refine hold ?_)
noncomputable def wordTab : List (PyData × PyData) := [(.str (Str.ofString "("), .str (Str.ofString "(")), (.str (Str.ofString "'"), .str (Str.ofString "'")), (.str (Str.ofString ")"), .str (Str.ofString ")"))]
local macro_rules | `(tactic| walk_at "compareOp NotEq ref ref") => `(tactic| refine hold ?_)
local macro_rules | `(tactic| walk_at "exec Assign") => `(tactic| ((with_reducible show wpAny _ _ (exec (Stmt.Assign [Expr.Name (Str.ofString "word") _] _ _) _) _ _ _); refine hold ?_))
theorem behind_two : ∀ l ∈ behinds, 2 ≤ l.length := by decide +kernel
theorem word_get {bh : Str} (h : bh.cps.toList ∈ behinds) : (PySem.Spec.lookup (.str (Txt.item bh 0)) wordTab).getD (.str (Str.ofString "symbol")) = .str (wordOf bh) := by
  simp only [behinds, List.mem_cons, List.not_mem_nil, or_false] at h
  rcases h with h | h | h | h | h
  · have e : bh = Str.ofString " z" := str_eq.mp (h.trans (by decide +kernel))
    subst e; rfl
  · have e : bh = Str.ofString "(z" := str_eq.mp (h.trans (by decide +kernel))
    subst e; rfl
  · have e : bh = Str.ofString "'z" := str_eq.mp (h.trans (by decide +kernel))
    subst e; rfl
  · have e : bh = Str.ofString ";
z" := str_eq.mp (h.trans (by decide +kernel))
    subst e; rfl
  · have e : bh = Str.ofString ")z" := str_eq.mp (h.trans (by decide +kernel))
    subst e; rfl
theorem turn_rest (w : World) (p : Program) (loose : List Str) (mean : ExcName → Option Value) (mg mb : Str → Option Value) (body : List Stmt) (sc : Scope)
    (hb : drop4 (turnOf (bodyOf ((Mine.ka.heap_1 w.params).lookup 364))) = body) (hs : scopeOf ((Mine.ka.heap_1 w.params).lookup 364) = sc)
    (rest : List (Addr × Obj)) (k1 k2 : Tok) (l x dx : Addr) (tp : Tok) (cv : List Value) (cc : Nat) (due : Option (Str × DV)) (b wr bh : Str) (tb tw tbh : Tok) (v2 : Value)
    (hdue : DueAt v2 rest due) (hok : ∀ k d, due = some (k, d) → PyData.strOk k = true ∧ dvOk d) (hlb : b.length ≤ 7) (hlw : wr.length ≤ 15) (hbh : bh.cps.toList ∈ behinds)
    (C1 : ConX w p loose mean mg mb 254 [.ref x] (tokL w.params k1 k2 l 0 tp x dx cv cc rest) 12 (fun v news' => ∃ d tp', due = some d ∧ TokAt v news' b.length d ∧ ∀ q ∈ tokL w.params k1 k2 l (b.length + wr.length) tp' x dx cv cc rest, q ∈ news') (due = none) rest)
    (C2 : ∀ tp', ConX w p loose mean mg mb 254 [.ref x] (tokL w.params k1 k2 l (b.length + wr.length) tp' x dx cv cc rest) 12 (fun v news' => ∃ d j2, TokAt v news' j2 (wordOf bh, d) ∧ ∀ q ∈ rest, q ∈ news') False rest) :
    ∀ (dp un : Nat) (gd : Option (List Code)) (fa : Addr) (ccd : Value) (A₀ : Around) (h₀ : Heap) (L : Addr) (m : Str → Option Value) (s : Shared) (d : Addr) (Q : Flow → Shared → Prop) (E : Value → Shared → Prop),
    Below A₀ h₀ [] h₀ → Fr h₀ L s.heap m → Has m [(Str.ofString "deck", .ref d), (Str.ofString "ahead", .str b tb), (Str.ofString "written_here", .str wr tw), (Str.ofString "due", v2), (Str.ofString "behind", .str bh tbh), (Str.ofString "tokens", .ref x)] →
    (Mine.ka.heap_1 w.params).In h₀ → News h₀ L s.heap (tokL w.params k1 k2 l 0 tp x dx cv cc rest) → Top p loose mean mg mb h₀ → dp ≤ 400 → un ≤ 100 →
    (∀ m' h' tk', Fr h₀ L h' m' → Has m' [(Str.ofString "deck", .ref d)] → News h₀ L h' rest → Q .next { s with heap := h', toks := tk' }) →
    wpAny (model PySem.Challenge.rw_ok0058_01.row.prog w) (ktrTop dp un gd (Str.ofString "law") sc L fa ccd [] []) (execs body (envOf (Str.ofString "law") sc L fa ccd)) Q E s := by
  conv at hb => lhs; whnf
  conv at hs => lhs; whnf
  subst hb hs
  k_fill
  intro dp un gd fa ccd A₀ h₀ L m s d Q E B F hm X N T hdp hun hQ
  rw [hm.see] at F
  clear hm
  tb_start
  refine unhold ?_
  refine told_con C1 _ _ _ _ _ _ _ _ h₀ _ _ _ _ _ _ B (by assumption) X X T (by assumption) T rfl (by omega) (by omega) ?_
  intro v9 h9 tk9 n9 F9 N9 r9
  rcases r9 with r9 | r9
  · obtain ⟨⟨kd, dv⟩, tp', e1, ⟨a1, t1, v1, t1', e2, m1, i1⟩, hK⟩ := r9
    subst e1
    obtain ⟨a2, t2, v2', e3, m2, i2⟩ := hdue
    subst e2
    subst e3
    dsimp only at m1 i1
    obtain ⟨hok1, hok2⟩ := hok _ _ rfl
    have N10 : News h₀ L h9 ((a1, tupObj [.str kd t1, v1, .int b.length t1']) :: (a2, tupObj [.str kd t2, v2']) :: tokL w.params k1 k2 l (b.length + wr.length) tp' x dx cv cc rest) := news_sub N9 fun q hq => by
      rcases List.mem_cons.mp hq with z | hq
      · rw [z]; exact m1
      rcases List.mem_cons.mp hq with z | hq
      · rw [z]; exact hK _ (by simp [m2])
      · exact hK _ hq
    clear N9 hK m1 m2
    have C3 := C2 tp'
    clear C1 C2
    have hap : ((b ++ wr).length : Int) = b.length + wr.length := by rw [Str.length_append]; omega
    tb_start
    refine unhold ?_
    with_reducible rename News h₀ _ _ _ => N11
    refine ne_tup (d := dv) N11 (List.mem_cons_of_mem _ (List.mem_cons_self ..)) (List.mem_cons_self ..) i1 i2 hok1 hok2 (by units_room) ?_
    have N12 : News h₀ L _ (tokL w.params k1 k2 l (b.length + wr.length) tp' x dx cv cc rest) := news_tail (news_tail (news_tail N11))
    clear N11 i1 i2 hok1 hok2 hok
    tb_start
    · exfalso; omega
    refine unhold ?_
    with_reducible rename Fr h₀ _ _ _ => F11
    clear hap
    with_reducible refine cut_exec (fun (s' : Shared) => Hold (∃ (h' : Heap) (tk : Nat) (m' : Str → Option Value) (t : Tok), s' = { s with heap := h', toks := tk } ∧ Fr h₀ L h' m' ∧ Has m' [(Str.ofString "deck", .ref d), (Str.ofString "tokens", .ref x), (Str.ofString "word", .str (wordOf bh) t)] ∧ News h₀ L h' (tokL w.params k1 k2 l (b.length + wr.length) tp' x dx cv cc rest))) ?_ ?_
    · have hbl : 2 ≤ bh.length := by rw [str_len]; exact behind_two _ hbh
      refine wpAny_Assign_Name ?_
      clear C3 hQ hdp hun
      tb_start
      refine unhold ?_
      with_reducible rename News h₀ _ _ _ => N12
      refine Dict_lits_str (D := wordTab) ?hD ?hs ?hn ?hall ?hl ?h0 ?hlen ?_
      case hD => exact rfl
      case hs => exact rfl
      case hn => decide +kernel
      case hall => exact rfl
      case hl => exact rfl
      case h0 => exact List.cons_ne_nil _ _
      case hlen => exact Nat.le_of_ble_eq_true rfl
      intro a8 o8 h8 tk8 le8 g8 t8 k8
      have F8 : Fr h₀ L h8 _ := F11.keeps k8
      have N9 : News h₀ L h8 _ := fun q hq => ⟨k8 _ _ (N12 q hq).1, (N12 q hq).2⟩
      have lo8 : (a8 == sysModules) = false := by
        have := modules_low (T.nolimit.keeps F11.keep)
        exact beq_eq_false_iff_ne.mpr (Nat.ne_of_gt (Nat.lt_of_lt_of_le this le8))
      clear F11 N12
      obtain ⟨kvs, hd8, hf8⟩ := t8
      have T8 := TabAt.ofObj lo8 g8 hd8 hf8
      tb_start
      refine unhold ?_
      refine call_get2_strTab T8 (.str _ _) ?_
      intro v8 hv8
      rw [word_get hbh] at hv8
      obtain ⟨t8, rfl⟩ := PyProof.V.Flat.str_inv hv8
      clear T8 hv8
      tb_start
      · trivial
      with_reducible rename Fr h₀ _ _ _ => kF
      with_reducible rename News h₀ _ _ _ => kN
      exact unhold ⟨_, _, _, _, rfl, kF, .cons rfl (.cons rfl (.cons rfl .nil)), kN⟩
    rintro s' ⟨h5, tk5, m5, t5, rfl, F5, hm5, N5⟩
    rw [hm5.see] at F5
    clear F11 N12 hbh
    generalize wordOf bh = wd at *
    tb_start
    refine unhold ?_
    refine conx_use C3 B (by assumption) X (by assumption) T rfl (by omega) (by omega) (fun _ _ _ _ _ _ _ z => z.elim) ?_
    rintro v h7 tk7 n7 F7 N7 ⟨d7, j7, ⟨a7, t7, v7, u7, e7, m7, i7⟩, k7⟩
    subst e7
    have N8 : News h₀ L h7 ((a7, tupObj [.str wd t7, v7, .int j7 u7]) :: rest) := news_sub N7 fun q hq => by
      rcases List.mem_cons.mp hq with z | hq
      · rw [z]; exact m7
      · exact k7 _ hq
    clear N7 k7 m7
    tb_start
    · with_reducible rename (_ != _) = true => hw
      simp at hw
    · exact hQ _ _ _ F7 (.cons rfl .nil) (news_tail N8)
  · obtain ⟨e9, d9, k9⟩ := r9
    subst e9 k9
    clear hok
    rw [d9] at hdue
    subst hdue
    tb_start
    all_goals
      with_reducible rename Fr h₀ _ _ _ => kF
      with_reducible rename News h₀ _ _ _ => kN
      exact hQ _ _ _ kF (.cons rfl .nil) kN
end Mine
namespace Mine
set_option maxRecDepth 100000
set_option maxHeartbeats 0

theorem take_drop4 {l : List Stmt} (h : take4 l ≠ []) : take4 l ++ drop4 l = l := by
  rcases l with _ | ⟨a, _ | ⟨b, _ | ⟨c, _ | ⟨d, r⟩⟩⟩⟩ <;> first | exact absurd rfl h | rfl
theorem str_ok {x : Str} (h : ∀ c ∈ x.cps.toList, c < 128) : PyData.strOk x = true := by
  unfold PyData.strOk
  rw [Array.all_eq_true']
  intro c hc
  have := h c (by simpa using hc)
  simp only [decide_eq_true_eq]; omega
theorem due_ok {wl : List Nat} {due : Option (Str × DV)} (h : WrCase wl due) : ∀ k d, due = some (k, d) → PyData.strOk k = true ∧ dvOk d := by
  have l1 : PyData.strOk (Str.ofString "symbol") = true := str_ok (by decide +kernel)
  have l2 : PyData.strOk (Str.ofString ".") = true := str_ok (by decide +kernel)
  have l3 : PyData.strOk (Str.ofString "integer") = true := str_ok (by decide +kernel)
  intro k d e
  cases h with
  | word hW _ _ =>
    have hn := str_ok (wordok_ascii hW)
    unfold lawDue at e
    dsimp only at e
    split at e
    · cases e; exact ⟨l1, hn⟩
    split at e
    · cases e; exact ⟨l2, trivial⟩
    split at e
    · cases e; exact ⟨l3, trivial⟩
    split at e
    · cases e
    · cases e; exact ⟨l1, hn⟩
  | radix _ _ _ _ =>
    unfold radixDue at e
    split at e
    · cases e; exact ⟨l3, trivial⟩
    · cases e
theorem due_mono {v : Value} {n n' : List (Addr × Obj)} {due : Option (Str × DV)} (h : DueAt v n due) (hs : ∀ q ∈ n, q ∈ n') : DueAt v n' due := by
  cases due with
  | none => exact h
  | some kd =>
    obtain ⟨a, t, v', e, hm, hi⟩ := h
    exact ⟨a, t, v', e, hs _ hm, hi⟩
theorem turn_ok (w : World) (p : Program) (loose : List Str) (mean : ExcName → Option Value) (mg mb : Str → Option Value) (body : List Stmt) (sc : Scope) (hb : turnOf (bodyOf ((Mine.ka.heap_1 w.params).lookup 364)) = body) (hs : scopeOf ((Mine.ka.heap_1 w.params).lookup 364) = sc) (hne : take4 body ≠ []) :
    ∀ (dp un : Nat) (gd : Option (List Code)) (fa : Addr) (ccd : Value) (A₀ : Around) (h₀ : Heap) (L : Addr) (m : Str → Option Value) (s : Shared) (d : Addr) (vs : List Value) (c : Nat) (ns : List Int) (own : List (Addr × Obj)) (Q : Flow → Shared → Prop) (E : Value → Shared → Prop),
    Below A₀ h₀ [] h₀ → Fr h₀ L s.heap m → Has m [(Str.ofString "deck", .ref d)] → (Mine.ka.heap_1 w.params).In h₀ → News h₀ L s.heap ((d, listOf vs.toArray c) :: own) → Top p loose mean mg mb h₀ → IntsAre vs ns → ns.length ≤ 60 → (∀ q ∈ own, q.1 ≠ d) → dp ≤ 400 → un ≤ 100 →
    (∀ vs' c' ns' m' h' tk' new, Fr h₀ L h' m' → Has m' [(Str.ofString "deck", .ref d)] → News h₀ L h' ((d, listOf vs'.toArray c') :: new) → (∀ q ∈ own, q ∈ new) → IntsAre vs' ns' → ns'.length ≤ 60 → Q .next { s with heap := h', toks := tk' }) →
    wpAny (model PySem.Challenge.rw_ok0058_01.row.prog w) (ktrTop dp un gd (Str.ofString "law") sc L fa ccd [] []) (execs body (envOf (Str.ofString "law") sc L fa ccd)) Q E s := by
  intro dp un gd fa ccd A₀ h₀ L m s d vs c ns own Q E B F hm X N T hI hl hr hdp hun hQ
  rw [← take_drop4 hne]
  refine execs_cut (fun s' => Hold (Stood w h₀ L s d own s')) _ _ (turn_head w p loose mean mg mb _ sc (by rw [hb]) hs dp un gd fa ccd A₀ h₀ L m s d vs c ns own E B F hm X N T hI hl hr hdp hun) ?_
  intro s' hS
  unfold Hold Stood at hS
  obtain ⟨b, tb, wr, tw, v2, bh, tbh, x, dx, l, k1, k2, tp, ys, n, keep, vs', c', ns', m', h', tk, due, rfl, F', hm', N', o1, o2, off, hown, hI', hl', hdue, hcase, hah, hbh, hys, hlb, hlw, hlh⟩ := hS
  refine turn_rest w p loose mean mg mb _ sc (by rw [hb]) hs ((d, listOf vs'.toArray c') :: keep) k1 k2 l x dx tp ys n due b wr bh tb tw tbh v2 (due_mono hdue fun q h => List.mem_cons_of_mem _ h) (due_ok hcase) hlb hlw hbh ?_ ?_ dp un gd fa ccd A₀ h₀ L m' _ d Q E B F' hm' X N' T hdp hun ?_
  · generalize hwe : wr.cps.toList = wl at hcase
    cases hcase with
    | word hW hne' hwl =>
      rw [← hwe] at hW hne'
      exact c1_word w p loose mean mg mb _ k1 k2 l x dx tp ys n hys hah hbh hW hne' hlb hlw hlh o1 o2 off
    | radix hrr hsg hfl hff =>
      exact c1_radix w p loose mean mg mb _ k1 k2 l x dx tp ys n hys hah hbh hwe hrr hsg hfl hff hlb hlw hlh o1 o2 off
  · intro tp'
    refine c2_con w p loose mean mg mb _ k1 k2 l x dx ys n (A := b.cps.toList ++ wr.cps.toList) ?_ ?_ hys hbh o1 o2 off tp'
    · rw [List.length_append, str_len, str_len]; omega
    · rw [str_len] at hlb hlw; rw [List.length_append]; omega
  · intro m2 h2 tk2 F2 hm2 N2
    exact hQ vs' c' ns' m2 h2 tk2 keep F2 hm2 N2 hown hI' hl'
end Mine
namespace Mine
set_option maxRecDepth 100000
set_option maxHeartbeats 0
theorem turn_top (w : World) (p : Program) (loose : List Str) (mean : ExcName → Option Value) (mg mb : Str → Option Value) (body : List Stmt) (sc : Scope) (hb : turnOf (bodyOf ((Mine.ka.heap_1 w.params).lookup 364)) = body) (hs : scopeOf ((Mine.ka.heap_1 w.params).lookup 364) = sc)
    (fa : Addr) (ccd : Value) (h₀ : Heap) (L : Addr) (m : Str → Option Value) (own : List (Addr × Obj)) (d : Addr) (vs : List Value) (c : Nat) (ns : List Int) (i : Nat) (t1 : Tok) (s1 : Shared) (h1 : Heap) (tk1 : Nat) (Q : Flow → Shared → Prop) (E : Value → Shared → Prop)
    (B : Below callerA h₀ [] h₀) (F : Fr h₀ L h1 (fun y => if y = Str.ofString "turn" then some (Value.int (i : Nat) t1) else m y)) (hm : Has m [(Str.ofString "deck", .ref d)]) (X : (Mine.ka.heap_1 w.params).In h₀) (N : News h₀ L h1 ((d, listOf vs.toArray c) :: own)) (T : Top p loose mean mg mb h₀)
    (hI : IntsAre vs ns) (hl : ns.length ≤ 60) (hr : ∀ q ∈ own, q.1 ≠ d)
    (hQ : ∀ vs' c' ns' m' h' tk' new, Fr h₀ L h' m' → Has m' [(Str.ofString "deck", .ref d)] → News h₀ L h' ((d, listOf vs'.toArray c') :: new) → (∀ q ∈ own, q ∈ new) → IntsAre vs' ns' → ns'.length ≤ 60 → Q .next { s1 with heap := h', toks := tk' }) :
    wpAny (model PySem.Challenge.rw_ok0058_01.row.prog w) (callerA.deeper (envOf (Str.ofString "law") sc L fa ccd)) (execs body (envOf (Str.ofString "law") sc L fa ccd)) Q E { s1 with heap := h1, toks := tk1 } := by
  have hm2 : Has (fun y => if y = Str.ofString "turn" then some (Value.int (i : Nat) t1) else m y) [(Str.ofString "deck", .ref d)] := .cons ((if_neg (by decide)).trans (hm _ (List.mem_cons_self ..))) .nil
  have e : callerA.deeper (envOf (Str.ofString "law") sc L fa ccd) = ktrTop (1 + claimMargin + 1) 7 (some []) (Str.ofString "law") sc L fa ccd [] [] := rfl
  have hne : take4 body ≠ [] := by rw [← hb]; exact List.cons_ne_nil _ _
  rw [e]
  exact turn_ok w p loose mean mg mb body sc hb hs hne _ _ _ fa ccd callerA h₀ L _ _ d vs c ns own Q E B F hm2 X N T hI hl hr (by decide) (by decide) hQ
end Mine
namespace Mine
set_option maxRecDepth 100000
set_option maxHeartbeats 0

local macro_rules | `(tactic| walk_at "pyIter ref") => `(tactic| refine hold ?_)
local macro_rules | `(tactic| walk_at "eval Subscript List") => `(tactic| refine hold ?_)

theorem range_n (n : Nat) : ∃ k : Nat, (1 + (if 7 < Int.fdiv (n : Int) 5 then 7 else Int.fdiv (n : Int) 5)) = (k : Int) ∧ k < 2 ^ 20 := by
  have h := Int.fdiv_nonneg (a := (n : Int)) (b := 5) (by omega) (by omega)
  refine ⟨(1 + (if 7 < Int.fdiv (n : Int) 5 then 7 else Int.fdiv (n : Int) 5)).toNat, ?_, ?_⟩ <;> split <;> omega
noncomputable def goal0.tw14944532100314117126 : Unit := ()
noncomputable def goal0.tw11390529636603833705 : Unit := ()
noncomputable def goal0.tw1296593761667393928 : Unit := ()
noncomputable def goal0.tw6024797998871914 : Unit := ()
noncomputable def goal0.tw298036554055056666 : Unit := ()
noncomputable def goal0.tw646684126731054715 : Unit := ()
noncomputable def goal0.tw5476694479454500712 : Unit := ()
noncomputable def goal0.tw12631257551475694862 : Unit := ()
noncomputable def goal0.tw13102274423310224129 : Unit := ()
noncomputable def goal0.tw4787817358568580352 : Unit := ()
noncomputable def goal0.tw1693687560130071754 : Unit := ()
noncomputable def goal0.tw3026154555349772770 : Unit := ()
noncomputable def goal0.tw2928159310368379528 : Unit := ()
noncomputable def goal0.tw18025439655102610401 : Unit := ()
noncomputable def goal0.tw9676099949062035757 : Unit := ()
noncomputable def goal0.tw10344329064635548750 : Unit := ()
noncomputable def goal0.tw6746784801792877922 : Unit := ()
noncomputable def goal0.tw5216240043744723469 : Unit := ()
noncomputable def goal0.tw13865474858122415031 : Unit := ()
noncomputable def goal0.tw14177497658349743766 : Unit := ()
noncomputable def goal0.tw12130550510831137808 : Unit := ()
noncomputable def goal0.tw12349446269828386258 : Unit := ()
noncomputable def goal0.tw6875675484520106796 : Unit := ()
noncomputable def goal0.tw6001623714428009206 : Unit := ()
noncomputable def goal0.tw6595586936774080436 : Unit := ()
noncomputable def goal0.tw14178947734450597973 : Unit := ()
noncomputable def goal0.tw7043264474033797981 : Unit := ()
noncomputable def goal0.tw11750044198393218712 : Unit := ()
noncomputable def goal0.tw9470032286621320264 : Unit := ()
noncomputable def goal0.tw8735211160971287357 : Unit := ()
noncomputable def goal0.tw1894640178794831149 : Unit := ()
noncomputable def goal0.tw7754326740714285553 : Unit := ()
noncomputable def goal0.tw1366594845939996394 : Unit := ()
noncomputable def goal0.tw14885219520410525070 : Unit := ()
noncomputable def goal0.tw7147584205784671656 : Unit := ()
noncomputable def goal0.tw5807898413444281396 : Unit := ()
noncomputable def goal0.tw10091953887608951921 : Unit := ()
noncomputable def goal0.tw15286003156624766833 : Unit := ()
noncomputable def goal0.tw10907304483813280197 : Unit := ()
noncomputable def goal0.tw9055561935455965417 : Unit := ()
noncomputable def goal0.tw627631578705217009 : Unit := ()
noncomputable def goal0.tw16707373665915472674 : Unit := ()
noncomputable def goal0.tw9219749942975279214 : Unit := ()
noncomputable def goal0.tw9868370308760233752 : Unit := ()
noncomputable def goal0.tw13898253801895298540 : Unit := ()
noncomputable def goal0.tw17145976037292200411 : Unit := ()
noncomputable def goal0.tw6976882040544042818 : Unit := ()
noncomputable def goal0.tw10829838137516399484 : Unit := ()
noncomputable def goal0.tw9078129034181975868 : Unit := ()
noncomputable def goal0.tw3391487653868053834 : Unit := ()
noncomputable def goal0.tw12585671516587523228 : Unit := ()
noncomputable def goal0.tw10377856000720823869 : Unit := ()
noncomputable def goal0.tw16824900297863029350 : Unit := ()
noncomputable def goal0.tw4741442547157600506 : Unit := ()
noncomputable def goal0.tw12540660353458413442 : Unit := ()
noncomputable def goal0.tw7772270871627781172 : Unit := ()
noncomputable def goal0.tw1106117292153610427 : Unit := ()
noncomputable def goal0.tw2013534351528620800 : Unit := ()
noncomputable def goal0.tw6444201371489064533 : Unit := ()
noncomputable def goal0.tw10153031479878389672 : Unit := ()
noncomputable def goal0.tw11932059585631552430 : Unit := ()
noncomputable def goal0.tw4716196463383582428 : Unit := ()
noncomputable def goal0.tw11963267922589055359 : Unit := ()
noncomputable def goal0.tw5721515822427002425 : Unit := ()
noncomputable def goal0.tw17536469328389624515 : Unit := ()
noncomputable def goal0.tw7661951328379885481 : Unit := ()
noncomputable def goal0.tw7593133772642876468 : Unit := ()
noncomputable def goal0.tw4586651928460781999 : Unit := ()
noncomputable def goal0.tw4122183297359603103 : Unit := ()
noncomputable def goal0.tw132836393928730078 : Unit := ()
noncomputable def goal0.tw17602500265430688273 : Unit := ()
noncomputable def goal0.tw6814302595022426265 : Unit := ()
noncomputable def goal0.tw11945801722717462673 : Unit := ()
noncomputable def goal0.tw3259696572911868561 : Unit := ()
noncomputable def goal0.tw10120408338451982494 : Unit := ()
noncomputable def goal0.tw10725642789820256156 : Unit := ()
noncomputable def goal0.tw781762938474643570 : Unit := ()
noncomputable def goal0.tw1777587453472810353 : Unit := ()
noncomputable def goal0.tw10498364462605015726 : Unit := ()
noncomputable def goal0.tw8548348417246362702 : Unit := ()
noncomputable def goal0.tw3314364423695806091 : Unit := ()
noncomputable def goal0.tw8949430867303816014 : Unit := ()
noncomputable def goal0.tw9315405356009310699 : Unit := ()
noncomputable def goal0.tw9244940757262074585 : Unit := ()
noncomputable def goal0.tw10828146239322292112 : Unit := ()
noncomputable def goal0.tw8888185356833574198 : Unit := ()
noncomputable def goal0.tw7678889745791519228 : Unit := ()
noncomputable def goal0.tw9013769275095915052 : Unit := ()
noncomputable def goal0.tw11559433269943258598 : Unit := ()
noncomputable def goal0.tw11153434150930198014 : Unit := ()
noncomputable def goal0.tw16902282435829881804 : Unit := ()
noncomputable def goal0.tw16759357671100420071 : Unit := ()
noncomputable def goal0.tw15484483110213125677 : Unit := ()
noncomputable def goal0.tw3990510749539578180 : Unit := ()
noncomputable def goal0.tw15592191112943479901 : Unit := ()
noncomputable def goal0.tw1558387688202686345 : Unit := ()
noncomputable def goal0.tw8902140398700369328 : Unit := ()
noncomputable def goal0.tw1173620349305334677 : Unit := ()
noncomputable def goal0.tw2700523147485292670 : Unit := ()
noncomputable def goal0.tw17191245573245107407 : Unit := ()
noncomputable def goal0.tw10556543513332354816 : Unit := ()
noncomputable def goal0.tw325716741497071051 : Unit := ()
noncomputable def goal0.tw12095269558793533659 : Unit := ()
noncomputable def goal0.tw15354087550521908276 : Unit := ()
noncomputable def goal0.tw5725551505420554825 : Unit := ()
noncomputable def goal0.tw6852725494566951577 : Unit := ()
noncomputable def goal0.tw9349567997605678962 : Unit := ()
noncomputable def goal0.tw2730185558276506408 : Unit := ()
noncomputable def goal0.tw2278091671120707692 : Unit := ()
noncomputable def goal0.tw16554653665240031594 : Unit := ()
noncomputable def goal0.tw16742834887332666118 : Unit := ()
noncomputable def goal0.tw3091022576291851375 : Unit := ()
noncomputable def goal0.tw439452933220129313 : Unit := ()
noncomputable def goal0.tw6278871345459520489 : Unit := ()
noncomputable def goal0.tw18033261819420337394 : Unit := ()
noncomputable def goal0.tw7525886372506723362 : Unit := ()
noncomputable def goal0.tw1972099710174406829 : Unit := ()
noncomputable def goal0.tw16185972101709349694 : Unit := ()
noncomputable def goal0.tw303203362097094267 : Unit := ()
noncomputable def goal0.tw5954550502987137138 : Unit := ()
noncomputable def goal0.tw16917257443140093682 : Unit := ()
noncomputable def goal0.tw3922486509103233443 : Unit := ()
noncomputable def goal0.tw2905922384350068164 : Unit := ()
noncomputable def goal0.tw6895872686605832310 : Unit := ()
noncomputable def goal0.tw13132148762989527931 : Unit := ()
noncomputable def goal0.tw14168614235142201642 : Unit := ()
noncomputable def goal0.tw8324749169938658591 : Unit := ()
noncomputable def goal0.tw16841462308173026323 : Unit := ()
noncomputable def goal0.tw1835594570120572483 : Unit := ()
noncomputable def goal0.tw6464917914383138060 : Unit := ()
noncomputable def goal0.tw7178424188505044142 : Unit := ()
noncomputable def goal0.tw17511923148422275559 : Unit := ()
noncomputable def goal0.tw7895464333484541411 : Unit := ()
noncomputable def goal0.tw9051436499952944115 : Unit := ()
noncomputable def goal0.tw109597105271302447 : Unit := ()
noncomputable def goal0.tw11799060475717879794 : Unit := ()
noncomputable def goal0.tw14934565957177805254 : Unit := ()
noncomputable def goal0.tw16649139643532222369 : Unit := ()
noncomputable def goal0.tw12709309591058817218 : Unit := ()
noncomputable def goal0.tw5769532927722694709 : Unit := ()
noncomputable def goal0.tw9820669987899645433 : Unit := ()
noncomputable def goal0.tw3164243032991323786 : Unit := ()
noncomputable def goal0.tw11966721972249463816 : Unit := ()
noncomputable def goal0.tw5883117045723456404 : Unit := ()
noncomputable def goal0.tw10664596524886918085 : Unit := ()
noncomputable def goal0.tw13339500117613664673 : Unit := ()
noncomputable def goal0.tw6200033835061390850 : Unit := ()
noncomputable def goal0.tw1602543062816442782 : Unit := ()
noncomputable def goal0.tw5002684225951831649 : Unit := ()
noncomputable def goal0.tw9267954851927276011 : Unit := ()
noncomputable def goal0.tw1470922510976590932 : Unit := ()
noncomputable def goal0.tw12659505639976561900 : Unit := ()
noncomputable def goal0.tw12784386875872594104 : Unit := ()
noncomputable def goal0.tw16364342263194444846 : Unit := ()
noncomputable def goal0.tw5693977088118475580 : Unit := ()
noncomputable def goal0.tw4361800385241907363 : Unit := ()
noncomputable def goal0.tw9640468863998458804 : Unit := ()
noncomputable def goal0.tw3635297577568065112 : Unit := ()
noncomputable def goal0.tw17487153432963017051 : Unit := ()
noncomputable def goal0.tw7686145990307020391 : Unit := ()
noncomputable def goal0.tw15526366528916927148 : Unit := ()
noncomputable def goal0.tw3530720166859960461 : Unit := ()
noncomputable def goal0.tw5749325803689850632 : Unit := ()
noncomputable def goal0.tw14463580259860405032 : Unit := ()
noncomputable def goal0.tw2446413028337941370 : Unit := ()
noncomputable def goal0.tw2199114232962026951 : Unit := ()
noncomputable def goal0.tw13519062652985033110 : Unit := ()
noncomputable def goal0.tw2830427562399252968 : Unit := ()
noncomputable def goal0.tw13974112066634602044 : Unit := ()
noncomputable def goal0.tw14457338883448862914 : Unit := ()
noncomputable def goal0.tw9414247931079442781 : Unit := ()
noncomputable def goal0.tw6667547678650989727 : Unit := ()
noncomputable def goal0.tw17564731126234493682 : Unit := ()
noncomputable def goal0.tw16662185269316227585 : Unit := ()
noncomputable def goal0.tw17610132943172163681 : Unit := ()
noncomputable def goal0.tw15512187427342884349 : Unit := ()
noncomputable def goal0.tw9438573584535398438 : Unit := ()
noncomputable def goal0.tw12202920800750712712 : Unit := ()
noncomputable def goal0.tw1545922592723689072 : Unit := ()
noncomputable def goal0.tw8939770010997950419 : Unit := ()
noncomputable def goal0.tw2786733153236696328 : Unit := ()
noncomputable def goal0.tw14975623744175400565 : Unit := ()
noncomputable def goal0.tw14829181641322999574 : Unit := ()
noncomputable def goal0.tw5127073422487396627 : Unit := ()
noncomputable def goal0.tw18434593273525550246 : Unit := ()
noncomputable def goal0.tw1798252981322010064 : Unit := ()
noncomputable def goal0.tw594236722980282056 : Unit := ()
noncomputable def goal0.tw2115857162941253873 : Unit := ()
noncomputable def goal0.tw11682936826693074533 : Unit := ()
noncomputable def goal0.tw1318476637856524241 : Unit := ()
noncomputable def goal0.tw3491452135774038170 : Unit := ()
noncomputable def goal0.tw6967072391124864780 : Unit := ()
noncomputable def goal0.tw7845000455500354492 : Unit := ()
noncomputable def goal0.tw16688182198890249879 : Unit := ()
noncomputable def goal0.tw6951472910212686435 : Unit := ()
noncomputable def goal0.tw11790240026925572323 : Unit := ()
noncomputable def goal0.tw7759178448440596646 : Unit := ()
noncomputable def goal0.tw3386457089255833020 : Unit := ()
noncomputable def goal0.tw3594471119705583548 : Unit := ()
noncomputable def goal0.tw8287026884456815910 : Unit := ()
noncomputable def goal0.tw17858776563426706432 : Unit := ()
noncomputable def goal0.tw4571509336269316182 : Unit := ()
noncomputable def goal0.tw2516786390097632409 : Unit := ()
noncomputable def goal0.tw4436148175804671511 : Unit := ()
noncomputable def goal0.tw12494517994044217203 : Unit := ()
noncomputable def goal0.tw16493695068002193065 : Unit := ()
noncomputable def goal0.tw8877045987480773980 : Unit := ()
noncomputable def goal0.tw11067456295415655228 : Unit := ()
noncomputable def goal0.tw2208451150213760508 : Unit := ()
noncomputable def goal0.tw5216283091394010463 : Unit := ()
noncomputable def goal0.tw16945850229565834200 : Unit := ()
noncomputable def goal0.tw7046678300993133129 : Unit := ()
noncomputable def goal0.tw3155414086157032652 : Unit := ()
noncomputable def goal0.tw3353808851528475134 : Unit := ()
noncomputable def goal0.tw2336120660519026360 : Unit := ()
noncomputable def goal0.tw5682143318202335808 : Unit := ()
noncomputable def goal0.tw11636134352758979271 : Unit := ()
noncomputable def goal0.tw17994051824142286489 : Unit := ()
noncomputable def goal0.tw12628368024873451438 : Unit := ()
noncomputable def goal0.tw4900984885067771303 : Unit := ()
noncomputable def goal0.tw16644771910512710016 : Unit := ()
noncomputable def goal0.tw13396277875310886048 : Unit := ()
noncomputable def goal0.tw16736529453663530717 : Unit := ()
noncomputable def goal0.tw2718943853828127397 : Unit := ()
noncomputable def goal0.tw17931883171063022936 : Unit := ()
noncomputable def goal0.tw13616991024226896278 : Unit := ()
noncomputable def goal0.tw5143987156578658422 : Unit := ()
noncomputable def goal0.tw436823413584597404 : Unit := ()
noncomputable def goal0.tw11578988989788779675 : Unit := ()
noncomputable def goal0.tw13967549079621602350 : Unit := ()
noncomputable def goal0.tw7921193276079625125 : Unit := ()
noncomputable def goal0.tw429046000804272439 : Unit := ()
noncomputable def goal0.tw18074222834485900673 : Unit := ()
noncomputable def goal0.tw10460098225662600102 : Unit := ()
noncomputable def goal0.tw8324997843301710176 : Unit := ()
noncomputable def goal0.tw3874898628681354111 : Unit := ()
noncomputable def goal0.tw2876877021590483495 : Unit := ()
noncomputable def goal0.tw8814851908850380501 : Unit := ()
noncomputable def goal0.tw9249518439043895460 : Unit := ()
noncomputable def goal0.tw17329314692197240333 : Unit := ()
noncomputable def goal0.tw12534684860812673930 : Unit := ()
noncomputable def goal0.tw13106855915348428765 : Unit := ()
noncomputable def goal0.tw16819572488241337893 : Unit := ()
noncomputable def goal0.tw1058251164126292714 : Unit := ()
noncomputable def goal0.tw10281183717300617927 : Unit := ()
noncomputable def goal0.tw15318677490142991384 : Unit := ()
noncomputable def goal0.tw15673586388974744855 : Unit := ()
noncomputable def goal0.tw15771782451164095099 : Unit := ()
noncomputable def goal0.tw13408812536976611482 : Unit := ()
noncomputable def goal0.tw9787120534191842553 : Unit := ()
noncomputable def goal0.tw7910771366759729692 : Unit := ()
noncomputable def goal0.tw3374993603178538576 : Unit := ()
noncomputable def goal0.tw13461374554171187333 : Unit := ()
noncomputable def goal0.tw4779879461439853428 : Unit := ()
noncomputable def goal0.tw17745087913782113819 : Unit := ()
noncomputable def goal0.tw12488459705254880376 : Unit := ()
noncomputable def goal0.tw18266720712632160640 : Unit := ()
noncomputable def goal0.tw6916351065396014682 : Unit := ()
noncomputable def goal0.tw1156271877923262783 : Unit := ()
noncomputable def goal0.tw11695748334181203763 : Unit := ()
noncomputable def goal0.tw2081054829059552448 : Unit := ()
noncomputable def goal0.tw13137326410148159243 : Unit := ()
noncomputable def goal0.tw12859212643630578365 : Unit := ()
noncomputable def goal0.tw8768896269013216924 : Unit := ()
noncomputable def goal0.tw151648930046127767 : Unit := ()
noncomputable def goal0.tw1452049193059095739 : Unit := ()
noncomputable def goal0.tw4307744681934548541 : Unit := ()
noncomputable def goal0.tw8500612038029880594 : Unit := ()
noncomputable def goal0.tw10347235184507608255 : Unit := ()
noncomputable def goal0.tw15114297153395540664 : Unit := ()
noncomputable def goal0.tw5891513699683390599 : Unit := ()
noncomputable def goal0.tw7477973868922184917 : Unit := ()
noncomputable def goal0.tw1835789558599038115 : Unit := ()
noncomputable def goal0.tw13499845081564335800 : Unit := ()
noncomputable def goal0.tw215949156798670441 : Unit := ()
noncomputable def goal0.tw15422430414373284930 : Unit := ()
noncomputable def goal0.tw2277150566703336575 : Unit := ()
noncomputable def goal0.tw10728051152281915978 : Unit := ()
noncomputable def goal0.tw13757037378996532941 : Unit := ()
noncomputable def goal0.tw14075758136573350866 : Unit := ()
noncomputable def goal0.tw10525557184536893143 : Unit := ()
noncomputable def goal0.tw7764018395628949379 : Unit := ()
noncomputable def goal0.tw3853133262242034618 : Unit := ()
noncomputable def goal0.tw10157373074607633737 : Unit := ()
noncomputable def goal0.tw10174644256240434346 : Unit := ()
noncomputable def goal0.tw3642770065714083003 : Unit := ()
noncomputable def goal0.tw9373042550775745172 : Unit := ()
noncomputable def goal0.tw609184492429172022 : Unit := ()
noncomputable def goal0.tw7273272695985489596 : Unit := ()
noncomputable def goal0.tw5503888025849843700 : Unit := ()
noncomputable def goal0.tw362410238036323367 : Unit := ()
noncomputable def goal0.tw13755230715482711478 : Unit := ()
noncomputable def goal0.tw11035110535480343502 : Unit := ()
noncomputable def goal0.tw17888196337302239562 : Unit := ()
noncomputable def goal0.tw145160330953602198 : Unit := ()
noncomputable def goal0.tw10841109267254266923 : Unit := ()
noncomputable def goal0.tw5765771889595297010 : Unit := ()
noncomputable def goal0.tw7460694355539654375 : Unit := ()
noncomputable def goal0.tw8468491250764407058 : Unit := ()
noncomputable def goal0.tw13285890261729574437 : Unit := ()
noncomputable def goal0.tw9240392730381775145 : Unit := ()
noncomputable def goal0.tw14738142120920534942 : Unit := ()
noncomputable def goal0.tw3528176903745862594 : Unit := ()
noncomputable def goal0.tw11259021623413338396 : Unit := ()
noncomputable def goal0.tw16383906132245689294 : Unit := ()
noncomputable def goal0.tw17382062644204585669 : Unit := ()
noncomputable def goal0.tw5343178477195109140 : Unit := ()
noncomputable def goal0.tw11182913537992867949 : Unit := ()
noncomputable def goal0.tw588116709470052255 : Unit := ()
noncomputable def goal0.tw9269728762983877819 : Unit := ()
noncomputable def goal0.tw10012006520757621291 : Unit := ()
noncomputable def goal0.tw7598951466536794634 : Unit := ()
noncomputable def goal0.tw10874851564576615720 : Unit := ()
noncomputable def goal0.tw9541725911140844113 : Unit := ()
noncomputable def goal0.tw13618578047280504801 : Unit := ()
noncomputable def goal0.tw6570927321004688888 : Unit := ()
noncomputable def goal0.tw3043168882120954097 : Unit := ()
noncomputable def goal0.tw16719380691946280237 : Unit := ()
noncomputable def goal0.tw10395253999384471375 : Unit := ()
noncomputable def goal0.tw1995460721489692637 : Unit := ()
noncomputable def goal0.tw9044028578218541872 : Unit := ()
noncomputable def goal0.tw5856928698992901178 : Unit := ()
noncomputable def goal0.tw8219303069610802755 : Unit := ()
noncomputable def goal0.tw5457509823022620198 : Unit := ()
noncomputable def goal0.tw1888449982688553748 : Unit := ()
noncomputable def goal0.tw17882664503464408303 : Unit := ()
noncomputable def goal0.tw3935866911855093311 : Unit := ()
noncomputable def goal0.tw14713957134149727221 : Unit := ()
noncomputable def goal0.tw3916105166027630915 : Unit := ()
noncomputable def goal0.tw5334703397703819976 : Unit := ()
noncomputable def goal0.tw5907650660345485785 : Unit := ()
noncomputable def goal0.tw17290987382872964416 : Unit := ()
noncomputable def goal0.tw6719752960765308203 : Unit := ()
noncomputable def goal0.tw12095141552807913591 : Unit := ()
noncomputable def goal0.tw6800634360860458717 : Unit := ()
noncomputable def goal0.tw8099909756088166590 : Unit := ()
noncomputable def goal0.tw5870450784331811248 : Unit := ()
noncomputable def goal0.tw7633749721402386410 : Unit := ()
noncomputable def goal0.tw11755377162824755379 : Unit := ()
noncomputable def goal0.tw3023205015477698593 : Unit := ()
noncomputable def goal0.tw9988737142362434010 : Unit := ()
set_option Elab.async true in
theorem goal0 : PySem.Challenge.rw_ok0058_01.Holds := by
  w_on
  o_law
  o_head (kHook Mine.ka.heap_1 [2, 3, 15, 16, 17, 18, 19, 20, 21, 22, 24, 25, 27, 28, 29, 31, 32, 34, 35, 36, 38, 39, 41, 42, 43, 50, 52, 53, 55, 56, 57, 58, 59, 60, 63, 70, 72, 73, 75, 76, 77, 78, 79, 80, 83, 84, 85, 86, 88, 89, 91, 92, 93, 95, 96, 98, 99, 100, 102, 103, 105, 106, 107, 109, 110, 112, 113, 114, 116, 117, 119, 120, 121, 123, 124, 126, 127, 128, 130, 131, 133, 134, 135, 137, 138, 140, 141, 142, 144, 145, 147, 148, 149, 151, 152, 154, 155, 156, 158, 159, 161, 162, 163, 164, 165, 167, 168, 170, 171, 172, 174, 175, 177, 178, 179, 181, 182, 184, 185, 186, 189, 190, 191, 193, 194, 196, 197, 198, 200, 201, 203, 204, 205, 207, 208, 210, 211, 219, 221, 222, 224, 225, 226, 227, 229, 230, 232, 233, 234, 236, 237, 239, 240, 241, 243, 244, 246, 247, 248, 250, 251, 253, 254, 255, 257, 258, 260, 261, 262, 264, 265, 267, 268, 269, 271, 272, 274, 275, 276, 278, 279, 281, 282, 283, 285, 286, 288, 289, 290, 292, 293, 295, 296, 297, 299, 300, 302, 303, 304, 305, 306, 307, 308, 311, 313, 314, 316, 317, 318, 320, 321, 323, 324, 325, 327, 328, 330, 331, 332, 334, 335, 337, 338, 339, 341, 342, 344, 345, 346, 348, 349, 351, 352, 353, 355, 356, 358, 359, 360, 363, 364] (fun _ => by kernel_rfl))
  (case hw => w_witness2)
  k_go0
  all_goals try k_fold
  tb_start
  refine unhold ?_
  with_reducible rename IsRange _ _ _ _ _ _ _ _ => hR
  with_reducible rename Fr _ _ _ _ => F1
  with_reducible rename News _ _ _ _ => N1
  with_reducible rename IntsAre _ (List.map _ (List.take 60 _)) => hI8
  with_reducible rename Frag.In _ _ => KX
  with_reducible rename Below _ _ _ _ => K0
  refine range_inv _ (fun i m1 news1 => ∃ (d : Addr) (vs : List Value) (c : Nat) (ns : List Int), news1 = [(d, listOf vs.toArray c)] ∧ Has m1 [(Str.ofString "deck", .ref d)] ∧ IntsAre vs ns ∧ ns.length ≤ 60) rfl hR (Classical.choose_spec (range_n _)).1 (Classical.choose_spec (range_n _)).2 F1 (news_drop2 N1) ?_ ?_ ?_
  · refine ⟨_, _, List.length _, _, (rfl : _ = [(_, LCg.lst _)]).symm, .cons rfl .nil, hI8, ?_⟩
    · rw [List.length_map, List.length_take]; omega
  · rintro i m1 news1 h1 tk1 own t1 hi hadr hoff ⟨d, vs, c, ns, rfl, hm, hI, hl⟩ F2 N2
    rw [List.cons_append, List.nil_append] at N2
    have hr : ∀ q ∈ own, q.1 ≠ d := fun q h => hoff.ne (by rw [← hadr]; simp) q h
    with_reducible rename Top _ _ _ _ _ _ => T1
    refine turn_top _ _ _ _ _ _ _ _ (by kernel_rfl) (by kernel_rfl) _ _ _ _ _ own d vs c ns i t1 _ h1 tk1 _ _ K0 F2 hm KX N2 T1 hI hl hr ?_
    intro vs' c' ns' m' h' tk' new F' hm' N' hown hI' hl'
    exact ⟨h', tk', m', _, [(d, listOf vs'.toArray c')], rfl, F', N', fun p hp => by rw [List.mem_singleton.mp hp]; exact List.mem_cons_self .., fun p hp => List.mem_cons_of_mem _ (hown p hp), hadr, ⟨d, vs', c', ns', rfl, hm', hI', hl'⟩⟩
  · rintro m1 news1 h1 tk1 ⟨d, vs, c, ns, rfl, hm, hI, hl⟩ F2 N2
    rw [hm.see] at F2
    k_steps
end Mine
theorem PySem.Challenge.cw_ok0058_01_holds : PySem.Challenge.rw_ok0058_01.Holds :=
  Mine.goal0
