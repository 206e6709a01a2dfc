import PyProof.Rows.All
import Wide.All
import OpenK.AllK
import Wide.FinOn
import KE.KTryMore
import PyProof.InstStoreFacts
import PySem.Challenge.RW_nt0168_01
open PySem PySem.W PyProof.Rows
set_option Elab.async false
set_option genSizeOf false
set_option genInjectivity false
set_option maxRecDepth 100000
set_option maxHeartbeats 0
namespace Mine
/-- a statement of the text, by its place -/
noncomputable def sAt (i : Nat) : Stmt := (PySem.Challenge.pw_nt0168_01.main.body)[i]?.getD (.Pass ⟨0, 0, 0, 0⟩)
noncomputable def view9 : Program := { PySem.Challenge.pw_nt0168_01 with main := { PySem.Challenge.pw_nt0168_01.main with body := [sAt 1, sAt 2, sAt 3, sAt 5, sAt 6, sAt 7, sAt 8, sAt 9, sAt 10, sAt 11, sAt 12, sAt 13, sAt 14, sAt 15, sAt 16, sAt 17, sAt 19, sAt 20, sAt 21, sAt 22, sAt 23, sAt 24, sAt 25, sAt 26, sAt 27, sAt 28, sAt 29, sAt 30, sAt 31, sAt 32, sAt 33, sAt 34, sAt 35, sAt 36, sAt 37, sAt 38, sAt 39, sAt 40, sAt 42, sAt 43, sAt 44, sAt 45, sAt 46, sAt 47, sAt 48, sAt 49, sAt 50, sAt 51] } }
theorem said9 : PySem.Challenge.rw_nt0168_01.wellSaid = true := by kernel_rfl
local macro_rules | `(tactic| o_law) => `(tactic| refine holds_law said9 fun said => ?_)
local macro_rules | `(tactic| o_head $H) => `(tactic| ((refine holds_open (q := view9) (loose := [PySem.Str.ofString "REACH"]) (Xt := fun s => xlAt view9 [(PySem.Str.ofString "REACH", WData.int 65536)] s && recOk (RowW.records (OpenRow.toRowW PySem.Challenge.rw_nt0168_01.row)) s) (XP := XL view9 [(PySem.Str.ofString "REACH", WData.int 65536)]) (Yf := Hook.obs $H) (Ya := Hook.val $H) (YP := Hook.says $H) (N := 4688) ?hl (Hook.of $H) (Hook.keeps $H) (fun s e => xl_of s (Bool.and_eq_true_iff.mp e).1) XL.keeps (by rfl) (by rfl) (by rfl) (fun s e => recFacts_of (Bool.and_eq_true_iff.mp e).2) (by rfl) (by first | assumption | decide +kernel) (by decide +kernel) ⟨rfl, rfl, rfl, rfl, rfl, by decide +kernel⟩ ?hw ?hc); (case hl => (intro w; kernel_rfl)); (all_goals (rename_i x; clear x))))
open_top hd for PySem.Challenge.rw_nt0168_01
theorem fill_ok (h : hd.heap_1 = hd.heap_1 ∧ PySem.Challenge.rw_nt0168_01.Holds) : hd.heap_1 = hd.heap_1 ∧ PySem.Challenge.rw_nt0168_01.Holds := by k_fill; exact h
section
open PySem PySem.W PySem.Spec PySem.Calls PyProof.Rows
set_option Elab.async false
set_option maxRecDepth 100000
set_option maxHeartbeats 0
theorem sub_refl {α : Type} {l : List α} : ∀ p ∈ l, p ∈ l := fun _ h => h
theorem sub_cons {α : Type} {l l' : List α} {a : α} (h : ∀ p ∈ l, p ∈ l') : ∀ p ∈ l, p ∈ a :: l' := fun p hp => List.mem_cons_of_mem a (h p hp)
theorem room2 {d a k j R : Nat} (h : d + a < R) (e : Nat.ble (k + j) a = true) : d + k + j < R := by have := Nat.le_of_ble_eq_true e; omega
theorem room1 {d a k R : Nat} (h : d + a < R) (e : Nat.ble k a = true) : d + k < R := by have := Nat.le_of_ble_eq_true e; omega
theorem room0 {d a R : Nat} (h : d + a < R) : d < R := Nat.lt_of_le_of_lt (Nat.le_add_right d a) h
theorem ev3 {α β γ δ : Type} {F : α → β → γ → δ} {x x' : α} {y y' : β} {z z' : γ} {v : δ} (hx : x = x') (hy : y = y') (hz : z = z') (h : F x' y' z' = v) : F x y z = v := by subst hx hy hz; exact h
theorem ltc {x d : Nat} {P : Prop} (h : x < d ∧ P) {a : Nat} (k : x < d ∧ P → a < d) : a < d := k h
theorem ne_up1 {a n : Nat} (h : a < n) : a ≠ n + 1 := Nat.ne_of_lt (Nat.lt_succ_of_lt h)
theorem ne_up2 {a n : Nat} (h : a < n) : a ≠ n + 1 + 1 := Nat.ne_of_lt (Nat.lt_succ_of_lt (Nat.lt_succ_of_lt h))
theorem pj1 {a1 b : Prop} (h : a1 ∧ b) : a1 := h.1
theorem pj2 {a1 a2 b : Prop} (h : a1 ∧ a2 ∧ b) : a2 := h.2.1
theorem pj3 {a1 a2 a3 b : Prop} (h : a1 ∧ a2 ∧ a3 ∧ b) : a3 := h.2.2.1
theorem pj4 {a1 a2 a3 a4 b : Prop} (h : a1 ∧ a2 ∧ a3 ∧ a4 ∧ b) : a4 := h.2.2.2.1
theorem pj5 {a1 a2 a3 a4 a5 b : Prop} (h : a1 ∧ a2 ∧ a3 ∧ a4 ∧ a5 ∧ b) : a5 := h.2.2.2.2.1
theorem pj6 {a1 a2 a3 a4 a5 a6 b : Prop} (h : a1 ∧ a2 ∧ a3 ∧ a4 ∧ a5 ∧ a6 ∧ b) : a6 := h.2.2.2.2.2.1
theorem pj7 {a1 a2 a3 a4 a5 a6 a7 b : Prop} (h : a1 ∧ a2 ∧ a3 ∧ a4 ∧ a5 ∧ a6 ∧ a7 ∧ b) : a7 := h.2.2.2.2.2.2.1
theorem pj8 {a1 a2 a3 a4 a5 a6 a7 a8 b : Prop} (h : a1 ∧ a2 ∧ a3 ∧ a4 ∧ a5 ∧ a6 ∧ a7 ∧ a8 ∧ b) : a8 := h.2.2.2.2.2.2.2.1
theorem pj9 {a1 a2 a3 a4 a5 a6 a7 a8 a9 b : Prop} (h : a1 ∧ a2 ∧ a3 ∧ a4 ∧ a5 ∧ a6 ∧ a7 ∧ a8 ∧ a9 ∧ b) : a9 := h.2.2.2.2.2.2.2.2.1
theorem pj10 {a1 a2 a3 a4 a5 a6 a7 a8 a9 a10 b : Prop} (h : a1 ∧ a2 ∧ a3 ∧ a4 ∧ a5 ∧ a6 ∧ a7 ∧ a8 ∧ a9 ∧ a10 ∧ b) : a10 := h.2.2.2.2.2.2.2.2.2.1
theorem pj11 {a1 a2 a3 a4 a5 a6 a7 a8 a9 a10 a11 b : Prop} (h : a1 ∧ a2 ∧ a3 ∧ a4 ∧ a5 ∧ a6 ∧ a7 ∧ a8 ∧ a9 ∧ a10 ∧ a11 ∧ b) : a11 := h.2.2.2.2.2.2.2.2.2.2.1
theorem pj12 {a1 a2 a3 a4 a5 a6 a7 a8 a9 a10 a11 a12 b : Prop} (h : a1 ∧ a2 ∧ a3 ∧ a4 ∧ a5 ∧ a6 ∧ a7 ∧ a8 ∧ a9 ∧ a10 ∧ a11 ∧ a12 ∧ b) : a12 := h.2.2.2.2.2.2.2.2.2.2.2.1
theorem pj13 {a1 a2 a3 a4 a5 a6 a7 a8 a9 a10 a11 a12 a13 b : Prop} (h : a1 ∧ a2 ∧ a3 ∧ a4 ∧ a5 ∧ a6 ∧ a7 ∧ a8 ∧ a9 ∧ a10 ∧ a11 ∧ a12 ∧ a13 ∧ b) : a13 := h.2.2.2.2.2.2.2.2.2.2.2.2.1
theorem pj14 {a1 a2 a3 a4 a5 a6 a7 a8 a9 a10 a11 a12 a13 a14 b : Prop} (h : a1 ∧ a2 ∧ a3 ∧ a4 ∧ a5 ∧ a6 ∧ a7 ∧ a8 ∧ a9 ∧ a10 ∧ a11 ∧ a12 ∧ a13 ∧ a14 ∧ b) : a14 := h.2.2.2.2.2.2.2.2.2.2.2.2.2.1
theorem qj1 {a1 b : Prop} (h : a1 ∧ b) : b := h.2
theorem qj2 {a1 a2 b : Prop} (h : a1 ∧ a2 ∧ b) : b := h.2.2
theorem qj3 {a1 a2 a3 b : Prop} (h : a1 ∧ a2 ∧ a3 ∧ b) : b := h.2.2.2
theorem qj4 {a1 a2 a3 a4 b : Prop} (h : a1 ∧ a2 ∧ a3 ∧ a4 ∧ b) : b := h.2.2.2.2
theorem qj5 {a1 a2 a3 a4 a5 b : Prop} (h : a1 ∧ a2 ∧ a3 ∧ a4 ∧ a5 ∧ b) : b := h.2.2.2.2.2
theorem qj6 {a1 a2 a3 a4 a5 a6 b : Prop} (h : a1 ∧ a2 ∧ a3 ∧ a4 ∧ a5 ∧ a6 ∧ b) : b := h.2.2.2.2.2.2
theorem qj7 {a1 a2 a3 a4 a5 a6 a7 b : Prop} (h : a1 ∧ a2 ∧ a3 ∧ a4 ∧ a5 ∧ a6 ∧ a7 ∧ b) : b := h.2.2.2.2.2.2.2
theorem qj8 {a1 a2 a3 a4 a5 a6 a7 a8 b : Prop} (h : a1 ∧ a2 ∧ a3 ∧ a4 ∧ a5 ∧ a6 ∧ a7 ∧ a8 ∧ b) : b := h.2.2.2.2.2.2.2.2
theorem qj9 {a1 a2 a3 a4 a5 a6 a7 a8 a9 b : Prop} (h : a1 ∧ a2 ∧ a3 ∧ a4 ∧ a5 ∧ a6 ∧ a7 ∧ a8 ∧ a9 ∧ b) : b := h.2.2.2.2.2.2.2.2.2
theorem qj10 {a1 a2 a3 a4 a5 a6 a7 a8 a9 a10 b : Prop} (h : a1 ∧ a2 ∧ a3 ∧ a4 ∧ a5 ∧ a6 ∧ a7 ∧ a8 ∧ a9 ∧ a10 ∧ b) : b := h.2.2.2.2.2.2.2.2.2.2
theorem qj11 {a1 a2 a3 a4 a5 a6 a7 a8 a9 a10 a11 b : Prop} (h : a1 ∧ a2 ∧ a3 ∧ a4 ∧ a5 ∧ a6 ∧ a7 ∧ a8 ∧ a9 ∧ a10 ∧ a11 ∧ b) : b := h.2.2.2.2.2.2.2.2.2.2.2
theorem qj12 {a1 a2 a3 a4 a5 a6 a7 a8 a9 a10 a11 a12 b : Prop} (h : a1 ∧ a2 ∧ a3 ∧ a4 ∧ a5 ∧ a6 ∧ a7 ∧ a8 ∧ a9 ∧ a10 ∧ a11 ∧ a12 ∧ b) : b := h.2.2.2.2.2.2.2.2.2.2.2.2
theorem qj13 {a1 a2 a3 a4 a5 a6 a7 a8 a9 a10 a11 a12 a13 b : Prop} (h : a1 ∧ a2 ∧ a3 ∧ a4 ∧ a5 ∧ a6 ∧ a7 ∧ a8 ∧ a9 ∧ a10 ∧ a11 ∧ a12 ∧ a13 ∧ b) : b := h.2.2.2.2.2.2.2.2.2.2.2.2.2
theorem qj14 {a1 a2 a3 a4 a5 a6 a7 a8 a9 a10 a11 a12 a13 a14 b : Prop} (h : a1 ∧ a2 ∧ a3 ∧ a4 ∧ a5 ∧ a6 ∧ a7 ∧ a8 ∧ a9 ∧ a10 ∧ a11 ∧ a12 ∧ a13 ∧ a14 ∧ b) : b := h.2.2.2.2.2.2.2.2.2.2.2.2.2.2
section
variable {prog : Program} {w : World} {M : Model} {A : Around} {E : Value → Shared → Prop} {h : Heap} {g : Array GenState} {d : Drawn} {t : Nat} {os : OsState} {a b : Int} {x y : Tok} {Q : Value → Shared → Prop}
theorem const_intN {i : Int} {k pos} {env : Env} (hq : Q (.int i t) ⟨h, g, d, t + 1, os⟩) : wpAny M A (eval (.Constant (.int i) k pos) env) Q E ⟨h, g, d, t, os⟩ := wpAny_Constant_int hq
theorem add_intN (hq : Q (.int (a + b) t) ⟨h, g, d, t + 1, os⟩) : wpAny (model prog w) A (binaryOp .Add (.int a x) (.int b y)) Q E ⟨h, g, d, t, os⟩ := add_int hq
theorem sub_intN (hq : Q (.int (a - b) t) ⟨h, g, d, t + 1, os⟩) : wpAny (model prog w) A (binaryOp .Sub (.int a x) (.int b y)) Q E ⟨h, g, d, t, os⟩ := sub_int hq
theorem mul_intN (hq : Q (.int (a * b) t) ⟨h, g, d, t + 1, os⟩) (hm : IntMulOk a b := by mul_fits) : wpAny (model prog w) A (binaryOp .Mult (.int a x) (.int b y)) Q E ⟨h, g, d, t, os⟩ := mul_int hq hm
theorem floordiv_intN (hb : b ≠ 0) (hq : Q (.int (a.fdiv b) t) ⟨h, g, d, t + 1, os⟩) (hp : Builtin.divisionGoesByPylong a b = false) : wpAny (model prog w) A (binaryOp .FloorDiv (.int a x) (.int b y)) Q E ⟨h, g, d, t, os⟩ := floordiv_int hb hq (.inl hp)
theorem lshift_intN (hn : 0 ≤ b) (hz : (Builtin.Int.intBits a : Int) + b ≤ 2 ^ 27) (hq : Q (.int (a * 2 ^ b.toNat) t) ⟨h, g, d, t + 1, os⟩) : wpAny (model prog w) A (binaryOp .LShift (.int a x) (.int b y)) Q E ⟨h, g, d, t, os⟩ := lshift_int hn hz hq
variable {h₀ : Heap} {L : Addr} {m : Str → Option Value} {news : List (Addr × Obj)} {vs : List Value}
theorem newTupN (F : Fr h₀ L h m) (N : News h₀ L h news)
    (k : ∀ D h', Fr h₀ L h' m → News h₀ L h' ((D, ({ cls := .type "tuple", data := .seq vs.toArray } : Obj)) :: news) → Q (.ref D) ⟨h', g, d, t, os⟩) (hz : vs.length ≤ sizeLine) : wpAny M A (newTuple vs) Q E ⟨h, g, d, t, os⟩ :=
  kup_newTuple F N (fun D h' F' N' _ => k D h' F' N') hz
theorem newTupL (F : Fr h₀ L h m) (N : News h₀ L h news)
    (k : ∀ D h', Fr h₀ L h' m → News h₀ L h' ((D, ({ cls := .type "tuple", data := .seq vs.toArray } : Obj)) :: news) → (∀ p ∈ news, p.1 < D) → Q (.ref D) ⟨h', g, d, t, os⟩) (hz : vs.length ≤ sizeLine) : wpAny M A (newTuple vs) Q E ⟨h, g, d, t, os⟩ :=
  kup_newTuple F N k hz
end
/-- a size that every step of the model takes -/
noncomputable def smB (x : Int) : Bool := Nat.ble (Builtin.Int.intBits x) 8000
noncomputable abbrev Sm (x : Int) : Prop := smB x = true
theorem Sm.le {x : Int} (h : Sm x) : Builtin.Int.intBits x ≤ 8000 := Nat.le_of_ble_eq_true h
theorem Sm.of {x : Int} (h : Builtin.Int.intBits x ≤ 8000) : Sm x := Nat.ble_eq_true_of_le h
theorem Sm.mul {x y : Int} (hx : Sm x) (hy : Sm y) : IntMulOk x y := mulOk_of_bits hx.le hy.le (by decide)
theorem Sm.py {x y : Int} (hy : Sm y) : Builtin.divisionGoesByPylong x y = false := by
  refine PyProof.noPylong_of_log2 ?_
  have hy := hy.le
  unfold Builtin.Int.intBits at hy
  by_cases h0 : y = 0
  · subst h0; decide +kernel
  · rw [if_neg (by simpa using h0)] at hy; omega
theorem Sm.shl {x n : Int} (hx : Sm x) (hn : n < 10000) : (Builtin.Int.intBits x : Int) + n ≤ 2 ^ 27 := by
  have hx := hx.le; omega
theorem Sm.of_le {x : Int} (h : x.natAbs < 2 ^ 64) : Sm x := Sm.of (Nat.le_trans (intBits_le h) (by decide))
theorem sm_one : Sm 1 := by decide
theorem Sm.pow2 {n : Int} (hn : n < 7000) : Sm (1 * 2 ^ n.toNat) := by
  refine Sm.of ?_
  refine Nat.le_trans (intBits_le (k := n.toNat + 1) ?_) (by omega)
  rw [Int.one_mul, Int.natAbs_pow]
  exact Nat.pow_lt_pow_right (by decide) (Nat.lt_succ_self _)
theorem pow2_pos (n : Nat) : (0 : Int) < 2 ^ n := Int.pow_pos (by decide)

noncomputable def absI (x : Int) : Int := if x < 0 then -x else x
noncomputable def maxI (x y : Int) : Int := if y > x then y else x
noncomputable def minI (x y : Int) : Int := if y < x then y else x

section
variable {prog : Program} {w : World} {A : Around} {E : Value → Shared → Prop} {s : Shared} {h₀ : Heap} {L : Addr} {m : Str → Option Value} {news : List (Addr × Obj)} {l : Addr} {Q : Value → Shared → Prop}

theorem tup_old {h h' : Heap} {l : Addr} (hk : ∀ b o, b ∉ [h.objs.size] → (h.push { cls := .type "tuple_iterator", data := .fields #[.ref l, .int 0 0] }).get? b = some o → h'.get? b = some o) :
    ∀ b o, h.get? b = some o → h'.get? b = some o := fun b o e => by
  refine hk b o (fun hm => ?_) (Heap.get?_push_of_some _ e)
  rcases List.mem_cons.mp hm with e1 | hm
  · exact absurd (e1 ▸ Heap.lt_size e) (Nat.lt_irrefl _)
  · cases hm

theorem max_tup {x y : Int} {t u : Tok} (hh : A.handled = none) (F : Fr h₀ L s.heap m) (N : News h₀ L s.heap news) (ht : IsTup s.heap l #[.int x t, .int y u])
    (h : ∀ h' r tk, Fr h₀ L h' m → News h₀ L h' news → Q (.int (maxI x y) r) { s with heap := h', toks := tk }) :
    wpAny (model prog w) A (call (.builtin "max") [.ref l]) Q E s := by
  have hlt : l < s.heap.objs.size := by obtain ⟨_, e, _⟩ := ht; exact Heap.lt_size e
  refine call_max_walk (iter_tuple ht ?_)
  have hT : (s.heap.push { cls := .type "tuple_iterator", data := .fields #[.ref l, .int 0 0] }).IsTuple l #[.int x t, .int y u] := IsTup.keeps ht fun b o e => Heap.get?_push_of_some _ e
  refine ⟨_, _, _, _, _, _, _, rfl, Walks.tuple (A := A.in1) hh _ l (Nat.ne_of_lt hlt) #[.int x t, .int y u], ⟨⟨_, Heap.get?_push_size _ rfl, rfl, rfl⟩, hT⟩, ?_, Nat.succ_pos _,
    CmpOf.ints_gt (fun i => if i = 0 then x else y) ?_, ?_⟩
  · intro b hb
    show b < (s.heap.push _).objs.size
    rw [Heap.size_push]
    rcases List.mem_cons.mp hb with rfl | hb
    · exact Nat.lt_succ_self _
    · rcases List.mem_cons.mp hb with rfl | hb
      · exact Nat.lt_succ_of_lt hlt
      · cases hb
  · intro i v e
    match i, e with
    | 0, e => exact ⟨t, (Option.some.inj e).symm⟩
    | 1, e => exact ⟨u, (Option.some.inj e).symm⟩
    | i + 2, e => simp at e
  · intro v h' tk hP hk
    have hk' := tup_old hk
    have e : ∃ r, v = .int (maxI x y) r := by
      by_cases hc : y > x
      · simp [argBest, hc] at hP; exact ⟨u, by rw [← hP, maxI, if_pos hc]⟩
      · simp [argBest, hc] at hP; exact ⟨t, by rw [← hP, maxI, if_neg hc]⟩
    obtain ⟨r, rfl⟩ := e
    exact h h' r tk (F.grownK hk') (N.grown hk')

theorem min_tup {x y : Int} {t u : Tok} (hh : A.handled = none) (F : Fr h₀ L s.heap m) (N : News h₀ L s.heap news) (ht : IsTup s.heap l #[.int x t, .int y u])
    (h : ∀ h' r tk, Fr h₀ L h' m → News h₀ L h' news → Q (.int (minI x y) r) { s with heap := h', toks := tk }) :
    wpAny (model prog w) A (call (.builtin "min") [.ref l]) Q E s := by
  have hlt : l < s.heap.objs.size := by obtain ⟨_, e, _⟩ := ht; exact Heap.lt_size e
  refine call_min_walk (iter_tuple ht ?_)
  have hT : (s.heap.push { cls := .type "tuple_iterator", data := .fields #[.ref l, .int 0 0] }).IsTuple l #[.int x t, .int y u] := IsTup.keeps ht fun b o e => Heap.get?_push_of_some _ e
  refine ⟨_, _, _, _, _, _, _, rfl, Walks.tuple (A := A.in1) hh _ l (Nat.ne_of_lt hlt) #[.int x t, .int y u], ⟨⟨_, Heap.get?_push_size _ rfl, rfl, rfl⟩, hT⟩, ?_, Nat.succ_pos _,
    CmpOf.ints_lt (fun i => if i = 0 then x else y) ?_, ?_⟩
  · intro b hb
    show b < (s.heap.push _).objs.size
    rw [Heap.size_push]
    rcases List.mem_cons.mp hb with rfl | hb
    · exact Nat.lt_succ_self _
    · rcases List.mem_cons.mp hb with rfl | hb
      · exact Nat.lt_succ_of_lt hlt
      · cases hb
  · intro i v e
    match i, e with
    | 0, e => exact ⟨t, (Option.some.inj e).symm⟩
    | 1, e => exact ⟨u, (Option.some.inj e).symm⟩
    | i + 2, e => simp at e
  · intro v h' tk hP hk
    have hk' := tup_old hk
    have e : ∃ r, v = .int (minI x y) r := by
      by_cases hc : y < x
      · simp [argBest, hc] at hP; exact ⟨u, by rw [← hP, minI, if_pos hc]⟩
      · simp [argBest, hc] at hP; exact ⟨t, by rw [← hP, minI, if_neg hc]⟩
    obtain ⟨r, rfl⟩ := e
    exact h h' r tk (F.grownK hk') (N.grown hk')

noncomputable abbrev tupO (x : Int) (t : Tok) (y : Int) (u : Tok) : Obj := { cls := .type "tuple", data := .seq #[.int x t, .int y u] }
noncomputable abbrev realO (w : World) (j : Tok) (x : Int) (t : Tok) (k : Tok) (y : Int) (u : Tok) : Obj :=
  dictOf [⟨PyData.keyHash w.params (Str.ofString "mantissa"), .str (Str.ofString "mantissa") j, .int x t⟩, ⟨PyData.keyHash w.params (Str.ofString "exponent"), .str (Str.ofString "exponent") k, .int y u⟩] 2
theorem retI {h' : Heap} {tk' : Nat} {x y : Int} {t : Tok} {news' : List (Addr × Obj)} (hret : ∀ z t h' tk', z = x → Fr h₀ L h' m → News h₀ L h' news → Q (.int z t) { s with heap := h', toks := tk' })
    (F : Fr h₀ L h' m) (N : News h₀ L h' news') (hs : ∀ p ∈ news, p ∈ news') (e : y = x) : Q (.int y t) { s with heap := h', toks := tk' } := hret _ _ _ _ e F fun p hp => N p (hs p hp)
theorem retB {h' : Heap} {tk' : Nat} {x y : Bool} {news' : List (Addr × Obj)} (hret : ∀ h' tk', Fr h₀ L h' m → News h₀ L h' news → Q (.bool x) { s with heap := h', toks := tk' })
    (F : Fr h₀ L h' m) (N : News h₀ L h' news') (hs : ∀ p ∈ news, p ∈ news') (e : y = x) : Q (.bool y) { s with heap := h', toks := tk' } := e ▸ hret _ _ F fun p hp => N p (hs p hp)
theorem retT {h' : Heap} {tk' : Nat} {r : Addr} {v : Int × Int} {y1 y2 : Int} {t1 t2 : Tok} {news' : List (Addr × Obj)} (hret : ∀ r z1 z2 u1 u2 h' tk', z1 = v.1 → z2 = v.2 → Fr h₀ L h' m → News h₀ L h' ((r, tupO z1 u1 z2 u2) :: news) → Q (.ref r) { s with heap := h', toks := tk' })
    (F : Fr h₀ L h' m) (N : News h₀ L h' news') (hm : (r, tupO y1 t1 y2 t2) ∈ news') (hs : ∀ p ∈ news, p ∈ news') (e : (y1, y2) = v) : Q (.ref r) { s with heap := h', toks := tk' } :=
  hret _ _ _ _ _ _ _ (congrArg Prod.fst e) (congrArg Prod.snd e) F fun p hp => N p ((List.mem_cons.mp hp).elim (fun q => q ▸ hm) (hs p))
theorem retOT {h' : Heap} {tk' : Nat} {r : Addr} {v : Option (Int × Int)} {y1 y2 : Int} {t1 t2 : Tok} {news' : List (Addr × Obj)} (hret : ∀ r z1 z2 u1 u2 h' tk', some (z1, z2) = v → Fr h₀ L h' m → News h₀ L h' ((r, tupO z1 u1 z2 u2) :: news) → Q (.ref r) { s with heap := h', toks := tk' })
    (F : Fr h₀ L h' m) (N : News h₀ L h' news') (hm : (r, tupO y1 t1 y2 t2) ∈ news') (hs : ∀ p ∈ news, p ∈ news') (e : some (y1, y2) = v) : Q (.ref r) { s with heap := h', toks := tk' } :=
  hret _ _ _ _ _ _ _ e F fun p hp => N p ((List.mem_cons.mp hp).elim (fun q => q ▸ hm) (hs p))
theorem retOR {w : World} {h' : Heap} {tk' : Nat} {r d : Addr} {v : Option (Int × Int)} {y1 y2 : Int} {j t1 k t2 : Tok} {news' : List (Addr × Obj)} (hret : ∀ r d z1 z2 j u1 k u2 h' tk', some (z1, z2) = v → Fr h₀ L h' m → News h₀ L h' ((r, instObj (nat_lit 89) d) :: (d, realO w j z1 u1 k z2 u2) :: news) → Q (.ref r) { s with heap := h', toks := tk' })
    (F : Fr h₀ L h' m) (N : News h₀ L h' news') (hm : (r, instObj (nat_lit 89) d) ∈ news') (hm2 : (d, realO w j y1 t1 k y2 t2) ∈ news') (hs : ∀ p ∈ news, p ∈ news') (e : some (y1, y2) = v) : Q (.ref r) { s with heap := h', toks := tk' } :=
  hret _ _ _ _ _ _ _ _ _ _ e F fun p hp => N p ((List.mem_cons.mp hp).elim (fun q => q ▸ hm) fun hp => (List.mem_cons.mp hp).elim (fun q => q ▸ hm2) (hs p))
theorem retOI {h' : Heap} {tk' : Nat} {y : Int} {v : Option Int} {t : Tok} {news' : List (Addr × Obj)} (hret : ∀ z t h' tk', some z = v → Fr h₀ L h' m → News h₀ L h' news → Q (.int z t) { s with heap := h', toks := tk' })
    (F : Fr h₀ L h' m) (N : News h₀ L h' news') (hs : ∀ p ∈ news, p ∈ news') (e : some y = v) : Q (.int y t) { s with heap := h', toks := tk' } := hret _ _ _ _ e F fun p hp => N p (hs p hp)
theorem retR {w : World} {h' : Heap} {tk' : Nat} {r d : Addr} {v : Int × Int} {y1 y2 : Int} {j t1 k t2 : Tok} {news' : List (Addr × Obj)} (hret : ∀ r d z1 z2 j u1 k u2 h' tk', z1 = v.1 → z2 = v.2 → Fr h₀ L h' m → News h₀ L h' ((r, instObj (nat_lit 89) d) :: (d, realO w j z1 u1 k z2 u2) :: news) → Q (.ref r) { s with heap := h', toks := tk' })
    (F : Fr h₀ L h' m) (N : News h₀ L h' news') (hm : (r, instObj (nat_lit 89) d) ∈ news') (hm2 : (d, realO w j y1 t1 k y2 t2) ∈ news') (hs : ∀ p ∈ news, p ∈ news') (e : (y1, y2) = v) : Q (.ref r) { s with heap := h', toks := tk' } :=
  hret _ _ _ _ _ _ _ _ _ _ (congrArg Prod.fst e) (congrArg Prod.snd e) F fun p hp => N p ((List.mem_cons.mp hp).elim (fun q => q ▸ hm) fun hp => (List.mem_cons.mp hp).elim (fun q => q ▸ hm2) (hs p))

noncomputable def max4 (a b c d : Int) : Int := maxI (maxI (maxI a b) c) d
noncomputable def min4 (a b c d : Int) : Int := minI (minI (minI a b) c) d
theorem max4_eq {a b c d M : Int} (h : M ∈ [a, b, c, d]) (k : ∀ x, x ∈ [a, b, c, d] → x ≤ M) : M = max4 a b c d := by
  have ka := k a (by simp)
  have kb := k b (by simp)
  have kc := k c (by simp)
  have kd := k d (by simp)
  simp only [List.mem_cons, List.not_mem_nil, or_false] at h
  simp only [max4, maxI]
  repeat' split
  all_goals omega
theorem min4_eq {a b c d M : Int} (h : M ∈ [a, b, c, d]) (k : ∀ x, x ∈ [a, b, c, d] → M ≤ x) : M = min4 a b c d := by
  have ka := k a (by simp)
  have kb := k b (by simp)
  have kc := k c (by simp)
  have kd := k d (by simp)
  simp only [List.mem_cons, List.not_mem_nil, or_false] at h
  simp only [min4, minI]
  repeat' split
  all_goals omega

theorem max_list4 {a b c d : Int} {t u v z : Tok} (hh : A.handled = none) (F : Fr h₀ L s.heap m) (N : News h₀ L s.heap news) (hl : s.heap.IsList l #[.int a t, .int b u, .int c v, .int d z])
    (h : ∀ h' r tk, Fr h₀ L h' m → News h₀ L h' news → Q (.int (max4 a b c d) r) { s with heap := h', toks := tk }) :
    wpAny (model prog w) A (call (.builtin "max") [.ref l]) Q E s := by
  refine max_list_N (vs := [.int a t, .int b u, .int c v, .int d z]) (ns := [a, b, c, d]) hh F N hl (.cons _ _ (.cons _ _ (.cons _ _ (.cons _ _ .nil)))) (Nat.succ_pos _) fun h' M r tk F' N' hM hle => ?_
  rw [max4_eq hM hle]
  exact h h' r tk F' N'
theorem min_list4 {a b c d : Int} {t u v z : Tok} (hh : A.handled = none) (F : Fr h₀ L s.heap m) (N : News h₀ L s.heap news) (hl : s.heap.IsList l #[.int a t, .int b u, .int c v, .int d z])
    (h : ∀ h' r tk, Fr h₀ L h' m → News h₀ L h' news → Q (.int (min4 a b c d) r) { s with heap := h', toks := tk }) :
    wpAny (model prog w) A (call (.builtin "min") [.ref l]) Q E s := by
  refine min_list_N (vs := [.int a t, .int b u, .int c v, .int d z]) (ns := [a, b, c, d]) hh F N hl (.cons _ _ (.cons _ _ (.cons _ _ (.cons _ _ .nil)))) (Nat.succ_pos _) fun h' M r tk F' N' hM hle => ?_
  rw [min4_eq hM hle]
  exact h h' r tk F' N'
end
end
section
open PySem PySem.W PySem.Spec PySem.Calls PyProof.Rows
set_option Elab.async false
structure IS where
  n : Nat
  p : Int
  t : Int
  e : Int
  k : Int
  a : Tok
  b : Tok
  c : Tok
  d : Tok
  f : Tok
structure ES where
  n : Nat
  T1 : Int
  T2 : Int
  D1 : Int
  D2 : Int
  k : Int
  aT : Addr
  aD : Addr
  a : Tok
  b : Tok
  c : Tok
  d : Tok
  f : Tok
structure OS where
  n : Nat
  T1 : Int
  T2 : Int
  D1 : Int
  D2 : Int
  k : Int
  aT : Addr
  aD : Addr
  aQ : Addr
  a : Tok
  b : Tok
  c : Tok
  d : Tok
  e : Tok
  f : Tok
  g : Tok
  h : Tok
/-! what the defs compute, in plain Lean -/
noncomputable def p2 (n : Int) : Int := ((2 ^ n.toNat : Nat) : Int)
theorem p2_eq (n : Int) : p2 n = 2 ^ n.toNat := by unfold p2; rw [Int.natCast_pow]; rfl
noncomputable def szI (x : Int) : Int := ((Builtin.Int.intBits (absI x) : Nat) : Int)
noncomputable def sgn (x : Int) : Int := b2i (decide (0 < x)) - b2i (decide (x < 0))
noncomputable def zerosI (x : Int) : Int := ((Builtin.Int.intBits (Builtin.bitAnd x (0 - x)) : Nat) : Int) - 1
noncomputable def upShift (x p : Int) : Int := 0 - (0 - x).fdiv (p2 p)
noncomputable def upOver (x b : Int) : Int := 0 - (0 - x).fdiv b
noncomputable def fracB (work top bottom : Int) : Int × Int := ((top * p2 work).fdiv bottom, upOver (top * p2 work) bottom)
noncomputable def moreI (a b : Int × Int) : Int × Int := (a.1 + b.1, a.2 + b.2)
noncomputable def lessI (a b : Int × Int) : Int × Int := (a.1 - b.2, a.2 - b.1)
noncomputable def oftenI (a : Int × Int) (t : Int) : Int × Int := (minI (a.1 * t) (a.2 * t), maxI (a.1 * t) (a.2 * t))
noncomputable def prodI (work : Int) (a b : Int × Int) : Int × Int :=
  ((min4 (a.1 * b.1) (a.1 * b.2) (a.2 * b.1) (a.2 * b.2)).fdiv (p2 work), upShift (max4 (a.1 * b.1) (a.1 * b.2) (a.2 * b.1) (a.2 * b.2)) work)
noncomputable def partI (a : Int × Int) (b : Int) : Int × Int := (a.1.fdiv b, upOver a.2 b)
noncomputable def widI (a : Int × Int) (b : Int) : Int × Int := (a.1 - b, a.2 + b)
noncomputable def greatI (a : Int × Int) : Int := maxI (absI a.1) (absI a.2)
/-- lean: no raise, no shift below nought -/
noncomputable def leanF (m e : Int) : Option (Int × Int) :=
  if m = 0 then some (0, 0) else
  if absI (szI m + e) ≤ 65536 ∧ 0 ≤ zerosI m then some (m.fdiv (p2 (zerosI m)), e + zerosI m) else none
noncomputable def nearI (n g : Int) : Int :=
  if Builtin.bitAnd n (1 * p2 g - 1) > 1 * p2 (g - 1) ∨ (Builtin.bitAnd n (1 * p2 g - 1) = 1 * p2 (g - 1) ∧ Builtin.bitAnd (n.fdiv (p2 g)) 1 = 1) then n.fdiv (p2 g) + 1 else n.fdiv (p2 g)
noncomputable def shiftedF (p m e : Int) : Option (Int × Int) :=
  if szI m - p ≤ 0 then leanF m e else
  if szI m - p < 5000 ∧ Sm (nearI (absI m) (szI m - p)) then leanF (sgn m * nearI (absI m) (szI m - p)) (e + (szI m - p)) else none
noncomputable def stickyI (n : Int) (b : Bool) : Int := 2 * n + (if b = true then 1 else 0)
noncomputable def roundF (p top bottom : Int) : Option (Int × Int) :=
  if top = 0 then some (0, 0) else
  let sh := p + 2 + szI bottom - szI top
  if bottom > 0 ∧ Sm top ∧ Sm bottom ∧ sh < 5000 ∧ -5000 < sh then
    if sh ≥ 0 then (if Sm (stickyI ((absI top * p2 sh).fdiv bottom) ((absI top * p2 sh).fmod bottom != 0)) then shiftedF p (sgn top * stickyI ((absI top * p2 sh).fdiv bottom) ((absI top * p2 sh).fmod bottom != 0)) (0 - sh - 1) else none)
    else if Sm (bottom * p2 (0 - sh)) ∧ Sm (stickyI ((absI top).fdiv (bottom * p2 (0 - sh))) ((absI top).fmod (bottom * p2 (0 - sh)) != 0)) then shiftedF p (sgn top * stickyI ((absI top).fdiv (bottom * p2 (0 - sh))) ((absI top).fmod (bottom * p2 (0 - sh)) != 0)) (0 - sh - 1) else none
  else none
noncomputable def placeI (m e : Int) : Int := szI m + e
noncomputable def fracOf (m e : Int) : Int × Int := if e ≥ 0 then (m * p2 e, 1) else (m, 1 * p2 (0 - e))
noncomputable def invF : Nat → Int → Int → Int → Int → Option (Int × Int)
  | 0, _, _, _, _ => none
  | n + 1, power, total, ex, steps =>
    if power > 0 then invF n (power.fdiv 9) (total + power.fdiv ex) (ex + 2) (steps + 1) else some (total, steps)
noncomputable def log2F (work : Int) : Option (Int × Int) :=
  match invF 60 ((p2 work).fdiv 3) 0 1 0 with
  | none => none
  | some (t, k) => some (oftenI (widI (t, t) (2 * k + 4)) 2)
noncomputable def expL : Nat → Int → Int × Int → Int × Int → Int × Int → Int → Option ((Int × Int) × (Int × Int))
  | 0, _, _, _, _, _ => none
  | n + 1, work, rest, total, term, count =>
    if greatI term > 1 then
      if Sm term.1 ∧ Sm term.2 ∧ 0 < count ∧ Sm count then
        let t := partI (prodI work term rest) count
        expL n work rest (moreI total t) t (count + 1)
      else none
    else some (total, term)
noncomputable def expS (work : Int) (rest : Int × Int) : Option (Int × Int) :=
  if Sm rest.1 ∧ Sm rest.2 then
    match expL 60 work rest (1 * p2 work, 1 * p2 work) (1 * p2 work, 1 * p2 work) 1 with
    | none => none
    | some (total, term) => some (widI total (2 * greatI term + 2))
  else none
noncomputable def oddL : Nat → Int → Int × Int → Int × Int → Int × Int → Int → Option ((Int × Int) × (Int × Int))
  | 0, _, _, _, _, _ => none
  | n + 1, work, square, power, total, ex =>
    if greatI power > 1 then
      if Sm power.1 ∧ Sm power.2 ∧ 0 < ex ∧ Sm ex then
        let q := prodI work power square
        oddL n work square q (moreI total (oftenI (partI q (ex + 2)) 1)) (ex + 2)
      else none
    else some (total, power)
noncomputable def oddS (work top bottom : Int) : Option (Int × Int) :=
  let start := fracB work top bottom
  if 0 < bottom ∧ Sm top ∧ Sm bottom ∧ Sm start.1 ∧ Sm start.2 then
    let square := prodI work start start
    if Sm square.1 ∧ Sm square.2 then
      match oddL 60 work square start start 1 with
      | none => none
      | some (total, power) => some (widI total (2 * greatI power + 2))
    else none
  else none
/-- decided, where its first turn ends it -/
noncomputable def decF (p work : Int) (found : Int × Int) : Option (Int × Int) :=
  match roundF p found.1 (1 * p2 work), roundF p found.2 (1 * p2 work) with
  | some one, some other => if one = other then some one else none
  | _, _ => none
noncomputable def redF (work m e : Int) : Option Int :=
  match log2F work with
  | none => none
  | some two =>
    if -1000 ≤ e ∧ e ≤ 1000 ∧ Sm m ∧ 0 < (fracOf m e).2 ∧ Sm (fracOf m e).1 ∧ Sm (fracOf m e).2 ∧ 0 < two.2 ∧ Sm two.1 ∧ Sm two.2 ∧ Sm ((fracB work (fracOf m e).1 (fracOf m e).2).1.fdiv two.2) then
      some ((fracB work (fracOf m e).1 (fracOf m e).2).1.fdiv two.2) else none
noncomputable def bndF (times work m e : Int) : Option (Int × Int) :=
  match log2F work with
  | none => none
  | some two =>
    if -1000 ≤ e ∧ e ≤ 1000 ∧ Sm m ∧ 0 < (fracOf m e).2 ∧ Sm (fracOf m e).1 ∧ Sm (fracOf m e).2 ∧ Sm two.1 ∧ Sm two.2 ∧ Sm times then
      expS work (lessI (fracB work (fracOf m e).1 (fracOf m e).2) (oftenI two times)) else none
noncomputable def expF (bits m e : Int) : Option (Int × Int) :=
  if placeI m e > 17 ∨ placeI m e < 0 - bits - 2 ∨ sgn m = 0 then none else
  match redF (bits + 12 + 17) m e with
  | none => none
  | some times =>
    match bndF times (bits + 12 + 17) m e with
    | none => none
    | some found =>
      match decF bits (bits + 12 + 17) found with
      | none => none
      | some r => leanF r.1 (r.2 + times)
noncomputable def logB (work m e : Int) : Option (Int × Int) :=
  let b := 1 * p2 ((Builtin.Int.intBits m : Nat) : Int)
  let c := 4 * m < 3 * b
  let top := if c then 2 * m else m
  let place := if c then placeI m e - 1 else placeI m e
  match oddS work (top - b) (top + b) with
  | none => none
  | some s =>
    match log2F work with
    | none => none
    | some two => if Sm place ∧ Sm two.1 ∧ Sm two.2 then some (moreI (oftenI two place) (oftenI s 2)) else none
noncomputable def logF (bits m e : Int) : Option (Int × Int) :=
  if sgn m ≤ 0 ∨ 5000 ≤ Builtin.Int.intBits m then none else
  if m = 1 ∧ e = 0 then some (0, 0) else
  match logB (2 * bits + 12) m e with
  | none => none
  | some found => decF bits (2 * bits + 12) found
/-! the law's own words -/
noncomputable def lawOdd : Nat → Int → Int → Option (Int × Int)
  | 0, _, _ => none
  | n + 1, m, e => if m.fmod 2 = 0 then lawOdd n (m.fdiv 2) (e + 1) else some (m, e)
noncomputable def lawPair (bits code : Int) : Option (Int × Int) :=
  let size := p2 bits
  let m := code.fmod size + 1
  let c := code.fdiv size
  lawOdd 10 (if (c.fdiv 3).fmod 2 = 0 then m else 0 - m) (c.fmod 3 - bits)
noncomputable def lawFr (m e : Int) : Int × Int := if e ≥ 0 then (m * p2 e, 1) else (m, p2 (0 - e))
noncomputable def midL : Nat → Int → Int → Int → Option (Int × Int)
  | 0, _, _, _ => none
  | n + 1, bits, m, e => if m < p2 (bits - 1) then midL n bits (m * 2) (e - 1) else some (m, e)
noncomputable def nearV (bits k : Int) : Int := 4 * k - (if k = p2 (bits - 1) then 1 else 2)
noncomputable def midF (bits m e : Int) : Option ((Int × Int) × (Int × Int)) :=
  if (absI m).fmod 2 = 0 ∨ absI m ≥ p2 bits then none else
  match midL 10 bits (absI m) e with
  | none => none
  | some (k, x) =>
    if x < 1000 ∧ -900 < x ∧ Sm (nearV bits k) ∧ Sm (4 * k + 2) ∧ Sm (0 - (4 * k + 2)) ∧ Sm (0 - nearV bits k) then
      if m < 0 then some (lawFr (0 - (4 * k + 2)) (x - 2), lawFr (0 - nearV bits k) (x - 2)) else some (lawFr (nearV bits k) (x - 2), lawFr (4 * k + 2) (x - 2))
    else none
noncomputable def powL : Nat → Int → Int → Int → Int → Int → Int → Int → Int → Option Int
  | 0, _, _, _, _, _, _, _, _ => none
  | n + 1, top, bottom, high, low, term, total, under, count =>
    let c := count + 1
    if Sm term ∧ Sm total ∧ Sm under ∧ Sm c ∧ Sm (total * bottom) ∧ Sm (under * bottom) then
      let term' := term * top
      let total' := total * bottom * c + term * top
      let under' := under * bottom * c
      if Sm total' ∧ Sm under' ∧ Sm (total' + term') then
        if total' * low > high * under' then some 1
        else if c * bottom ≥ 2 * top ∧ (total' + term') * low < high * under' then some (-1)
        else powL n top bottom high low term' total' under' c
      else none
    else none
noncomputable def powF (top bottom high low : Int) : Option Int :=
  if Sm top ∧ Sm bottom ∧ Sm high ∧ Sm low then powL 100 top bottom high low 1 1 1 0 else none
noncomputable def sideF (ex mark : Int × Int) : Option Int :=
  if mark.1 ≤ 0 then some 1 else
  if ex.1 > 0 then powF ex.1 ex.2 mark.1 mark.2 else
  match powF (0 - ex.1) ex.2 mark.2 mark.1 with
  | none => none
  | some v => some (0 - v)
noncomputable def isExp (bits m e : Int) : Bool :=
  match expF bits m e with
  | none => false
  | some r => match midF bits r.1 r.2 with
    | none => false
    | some (a, b) => sideF (lawFr m e) a == some 1 && sideF (lawFr m e) b == some (-1)
noncomputable def isLog (bits m e : Int) : Bool :=
  match logF bits m e with
  | none => false
  | some r => if m = 1 ∧ e = 0 then r.1 == 0 && r.2 == 0 else match midF bits r.1 r.2 with
    | none => false
    | some (a, b) => sideF a (lawFr m e) == some (-1) && sideF b (lawFr m e) == some 1
noncomputable def okPair (bits : Int) (pr : Option (Int × Int)) : Bool := match pr with
  | none => false
  | some (m, e) => isExp bits m e && isLog bits (absI m) e
noncomputable def okCode (bits : Int) (code : Nat) : Bool := okPair bits (lawPair bits code)
/-! their steps -/
theorem invF_step {n : Nat} {p t e k : Int} (h : 0 < p) : invF (n + 1) p t e k = invF n (p.fdiv 9) (t + p.fdiv e) (e + 2) (k + 1) := by simp [invF, h]
theorem invF_stop {n : Nat} {p t e k : Int} (h : ¬ 0 < p) : invF (n + 1) p t e k = some (t, k) := by simp [invF, h]
theorem expL_step {n : Nat} {w k : Int} {r t d : Int × Int} {v : (Int × Int) × (Int × Int)} (h : 1 < greatI d) (e : expL (n + 1) w r t d k = some v) :
    Sm d.1 ∧ Sm d.2 ∧ 0 < k ∧ Sm k ∧ expL n w r (moreI t (partI (prodI w d r) k)) (partI (prodI w d r) k) (k + 1) = some v := by
  unfold expL at e
  rw [if_pos h] at e
  split at e
  · rename_i g
    exact ⟨g.1, g.2.1, g.2.2.1, g.2.2.2, e⟩
  · cases e
theorem expL_stop {n : Nat} {w k : Int} {r t d : Int × Int} (h : ¬ 1 < greatI d) : expL (n + 1) w r t d k = some (t, d) := by
  unfold expL; rw [if_neg h]
theorem expS_parts {w : Int} {r : Int × Int} (h : expS w r ≠ none) : Sm r.1 ∧ Sm r.2 ∧ ∃ v, expL 60 w r (1 * p2 w, 1 * p2 w) (1 * p2 w, 1 * p2 w) 1 = some v ∧ expS w r = some (widI v.1 (2 * greatI v.2 + 2)) := by
  unfold expS at h ⊢
  split at h
  · rename_i g
    cases q : expL 60 w r (1 * p2 w, 1 * p2 w) (1 * p2 w, 1 * p2 w) 1 with
    | none => rw [q] at h; exact absurd rfl h
    | some v => exact ⟨g.1, g.2, v, rfl, by rw [if_pos g]⟩
  · exact absurd rfl h
theorem oddL_step {n : Nat} {w e : Int} {q p t : Int × Int} {v : (Int × Int) × (Int × Int)} (h : 1 < greatI p) (k : oddL (n + 1) w q p t e = some v) :
    Sm p.1 ∧ Sm p.2 ∧ 0 < e ∧ Sm e ∧ oddL n w q (prodI w p q) (moreI t (oftenI (partI (prodI w p q) (e + 2)) 1)) (e + 2) = some v := by
  unfold oddL at k
  rw [if_pos h] at k
  split at k
  · rename_i g
    exact ⟨g.1, g.2.1, g.2.2.1, g.2.2.2, k⟩
  · cases k
theorem oddL_stop {n : Nat} {w e : Int} {q p t : Int × Int} (h : ¬ 1 < greatI p) : oddL (n + 1) w q p t e = some (t, p) := by
  unfold oddL; rw [if_neg h]
theorem oddS_parts {w x b : Int} (h : oddS w x b ≠ none) : 0 < b ∧ Sm x ∧ Sm b ∧ Sm (fracB w x b).1 ∧ Sm (fracB w x b).2 ∧ Sm (prodI w (fracB w x b) (fracB w x b)).1 ∧ Sm (prodI w (fracB w x b) (fracB w x b)).2 ∧
    ∃ v, oddL 60 w (prodI w (fracB w x b) (fracB w x b)) (fracB w x b) (fracB w x b) 1 = some v ∧ oddS w x b = some (widI v.1 (2 * greatI v.2 + 2)) := by
  unfold oddS at h ⊢
  dsimp only at h ⊢
  split at h
  · rename_i g
    split at h
    · rename_i g2
      cases q : oddL 60 w (prodI w (fracB w x b) (fracB w x b)) (fracB w x b) (fracB w x b) 1 with
      | none => rw [q] at h; exact absurd rfl h
      | some v => exact ⟨g.1, g.2.1, g.2.2.1, g.2.2.2.1, g.2.2.2.2, g2.1, g2.2, v, rfl, by rw [if_pos g, if_pos g2]⟩
    · exact absurd rfl h
  · exact absurd rfl h
end
section
open PySem PySem.W PySem.Spec PySem.Calls PyProof.Rows
set_option Elab.async false
theorem leanF_parts {m e : Int} (h : leanF m e ≠ none) (h0 : m ≠ 0) : absI (szI m + e) ≤ 65536 ∧ 0 ≤ zerosI m ∧ leanF m e = some (m.fdiv (p2 (zerosI m)), e + zerosI m) := by
  unfold leanF at h ⊢
  rw [if_neg h0] at h ⊢
  split at h
  · rename_i g; exact ⟨g.1, g.2, if_pos g⟩
  · exact absurd rfl h
theorem log2F_parts {k : Int} {v : Int × Int} (h : log2F k = some v) : ∃ u, invF 60 ((p2 k).fdiv 3) 0 1 0 = some u ∧ v = oftenI (widI (u.1, u.1) (2 * u.2 + 4)) 2 := by
  unfold log2F at h
  split at h
  · cases h
  · rename_i t k q
    cases h
    exact ⟨(t, k), q, rfl⟩
theorem leanF_zero {e : Int} : leanF 0 e = some (0, 0) := by unfold leanF; rw [if_pos rfl]
theorem shiftedF_lean {p m e : Int} (h0 : szI m - p ≤ 0) : shiftedF p m e = leanF m e := by unfold shiftedF; rw [if_pos h0]
theorem shiftedF_parts {p m e : Int} (h : shiftedF p m e ≠ none) (h0 : ¬ szI m - p ≤ 0) : szI m - p < 5000 ∧ Sm (nearI (absI m) (szI m - p)) ∧ shiftedF p m e = leanF (sgn m * nearI (absI m) (szI m - p)) (e + (szI m - p)) := by
  unfold shiftedF at h ⊢
  rw [if_neg h0] at h ⊢
  split at h
  · rename_i g; exact ⟨g.1, g.2, if_pos g⟩
  · exact absurd rfl h
theorem roundF_parts {p x b : Int} (h : roundF p x b ≠ none) (h0 : x ≠ 0) : 0 < b ∧ Sm x ∧ Sm b ∧ p + 2 + szI b - szI x < 5000 ∧ -5000 < p + 2 + szI b - szI x ∧
    ((0 ≤ p + 2 + szI b - szI x ∧ Sm (stickyI ((absI x * p2 (p + 2 + szI b - szI x)).fdiv b) ((absI x * p2 (p + 2 + szI b - szI x)).fmod b != 0)) ∧
        roundF p x b = shiftedF p (sgn x * stickyI ((absI x * p2 (p + 2 + szI b - szI x)).fdiv b) ((absI x * p2 (p + 2 + szI b - szI x)).fmod b != 0)) (0 - (p + 2 + szI b - szI x) - 1)) ∨
     (p + 2 + szI b - szI x < 0 ∧ Sm (b * p2 (0 - (p + 2 + szI b - szI x))) ∧ Sm (stickyI ((absI x).fdiv (b * p2 (0 - (p + 2 + szI b - szI x)))) ((absI x).fmod (b * p2 (0 - (p + 2 + szI b - szI x))) != 0)) ∧
        roundF p x b = shiftedF p (sgn x * stickyI ((absI x).fdiv (b * p2 (0 - (p + 2 + szI b - szI x)))) ((absI x).fmod (b * p2 (0 - (p + 2 + szI b - szI x))) != 0)) (0 - (p + 2 + szI b - szI x) - 1))) := by
  unfold roundF at h ⊢
  rw [if_neg h0] at h ⊢
  dsimp only at h ⊢
  split at h
  · rename_i g
    refine ⟨g.1, g.2.1, g.2.2.1, g.2.2.2.1, g.2.2.2.2, ?_⟩
    rw [if_pos g]
    split at h
    · rename_i g1
      split at h
      · rename_i g2; left; exact ⟨g1, g2, by rw [if_pos g1, if_pos g2]⟩
      · exact absurd rfl h
    · rename_i g1
      split at h
      · rename_i g2; right; exact ⟨by omega, g2.1, g2.2, by rw [if_neg g1, if_pos g2]⟩
      · exact absurd rfl h
  · exact absurd rfl h
theorem roundF_zero {p b : Int} : roundF p 0 b = some (0, 0) := by unfold roundF; rw [if_pos rfl]
theorem sm_sgn {x : Int} : Sm (sgn x) := by
  unfold sgn
  cases decide (0 < x) <;> cases decide (x < 0) <;> decide
theorem Sm.pow2b {n : Int} (hn : n < 7000) : Sm (2 ^ n.toNat) := by have := Sm.pow2 hn; rwa [Int.one_mul] at this
theorem Sm.abs {x : Int} (h : Sm x) : Sm (absI x) := by
  unfold absI
  split
  · refine Sm.of ?_
    have h := h.le
    unfold Builtin.Int.intBits at *; simpa using h
  · exact h
theorem redF_parts {p m e t : Int} (h : redF p m e = some t) : ∃ a b, log2F p = some (a, b) ∧ -1000 ≤ e ∧ e ≤ 1000 ∧ Sm m ∧ 0 < (fracOf m e).2 ∧ Sm (fracOf m e).1 ∧ Sm (fracOf m e).2 ∧ 0 < b ∧ Sm a ∧ Sm b ∧ Sm t ∧
    t = (fracB p (fracOf m e).1 (fracOf m e).2).1.fdiv b := by
  unfold redF at h
  cases q : log2F p with
  | none => rw [q] at h; cases h
  | some two =>
    rw [q] at h
    obtain ⟨a, b⟩ := two
    dsimp only at h
    split at h
    · rename_i g
      cases h
      obtain ⟨g1, g2, g3, g4, g5, g6, g7, g8, g9, g10⟩ := g
      exact ⟨a, b, rfl, g1, g2, g3, g4, g5, g6, g7, g8, g9, g10, rfl⟩
    · cases h
theorem bndF_parts {t p m e : Int} {v : Int × Int} (h : bndF t p m e = some v) : ∃ a b, log2F p = some (a, b) ∧ -1000 ≤ e ∧ e ≤ 1000 ∧ Sm m ∧ 0 < (fracOf m e).2 ∧ Sm (fracOf m e).1 ∧ Sm (fracOf m e).2 ∧ Sm a ∧ Sm b ∧ Sm t ∧
    expS p (lessI (fracB p (fracOf m e).1 (fracOf m e).2) (oftenI (a, b) t)) = some v := by
  unfold bndF at h
  cases q : log2F p with
  | none => rw [q] at h; cases h
  | some two =>
    rw [q] at h
    obtain ⟨a, b⟩ := two
    dsimp only at h
    split at h
    · rename_i g
      obtain ⟨g1, g2, g3, g4, g5, g6, g7, g8, g9⟩ := g
      exact ⟨a, b, rfl, g1, g2, g3, g4, g5, g6, g7, g8, g9, h⟩
    · cases h
theorem decF_parts {p k : Int} {f v : Int × Int} (h : decF p k f = some v) : roundF p f.1 (1 * p2 k) = some v ∧ roundF p f.2 (1 * p2 k) = some v := by
  unfold decF at h
  split at h
  · rename_i a b e1 e2
    split at h
    · rename_i e; cases h; exact ⟨e1, e ▸ e2⟩
    · cases h
  · cases h
theorem expF_parts {p m e : Int} (h : expF p m e ≠ none) : placeI m e ≤ 17 ∧ 0 - p - 2 ≤ placeI m e ∧ sgn m ≠ 0 ∧ ∃ t f r, redF (p + 12 + 17) m e = some t ∧ bndF t (p + 12 + 17) m e = some f ∧ decF p (p + 12 + 17) f = some r ∧ expF p m e = leanF r.1 (r.2 + t) := by
  unfold expF at h ⊢
  split at h
  · exact absurd rfl h
  · rename_i g
    rw [if_neg g]
    simp only [not_or, Int.not_lt, gt_iff_lt] at g
    refine ⟨g.1, g.2.1, g.2.2, ?_⟩
    cases q1 : redF (p + 12 + 17) m e with
    | none => rw [q1] at h; exact absurd rfl h
    | some t =>
      rw [q1] at h
      dsimp only at h ⊢
      cases q2 : bndF t (p + 12 + 17) m e with
      | none => rw [q2] at h; exact absurd rfl h
      | some f =>
        rw [q2] at h
        dsimp only at h ⊢
        cases q3 : decF p (p + 12 + 17) f with
        | none => rw [q3] at h; exact absurd rfl h
        | some r => exact ⟨t, f, r, rfl, q2, q3, rfl⟩
theorem logB_parts {k m e : Int} {v : Int × Int} (h : logB k m e = some v) :
    ∃ s a b, log2F k = some (a, b) ∧ Sm a ∧ Sm b ∧
      ((4 * m < 3 * (1 * p2 ((Builtin.Int.intBits m : Nat) : Int)) ∧ oddS k (2 * m - 1 * p2 ((Builtin.Int.intBits m : Nat) : Int)) (2 * m + 1 * p2 ((Builtin.Int.intBits m : Nat) : Int)) = some s ∧ Sm (placeI m e - 1) ∧ v = moreI (oftenI (a, b) (placeI m e - 1)) (oftenI s 2)) ∨
       (¬ 4 * m < 3 * (1 * p2 ((Builtin.Int.intBits m : Nat) : Int)) ∧ oddS k (m - 1 * p2 ((Builtin.Int.intBits m : Nat) : Int)) (m + 1 * p2 ((Builtin.Int.intBits m : Nat) : Int)) = some s ∧ Sm (placeI m e) ∧ v = moreI (oftenI (a, b) (placeI m e)) (oftenI s 2))) := by
  unfold logB at h
  dsimp only at h
  by_cases c : 4 * m < 3 * (1 * p2 ((Builtin.Int.intBits m : Nat) : Int))
  · simp only [if_pos c] at h
    split at h
    · cases h
    · rename_i s q
      split at h
      · cases h
      · rename_i two q2
        obtain ⟨a, b⟩ := two
        split at h
        · rename_i g
          cases h
          exact ⟨s, a, b, q2, g.2.1, g.2.2, .inl ⟨c, q, g.1, rfl⟩⟩
        · cases h
  · simp only [if_neg c] at h
    split at h
    · cases h
    · rename_i s q
      split at h
      · cases h
      · rename_i two q2
        obtain ⟨a, b⟩ := two
        split at h
        · rename_i g
          cases h
          exact ⟨s, a, b, q2, g.2.1, g.2.2, .inr ⟨c, q, g.1, rfl⟩⟩
        · cases h
theorem sgn_pos {x : Int} (h : 0 < sgn x) : 0 < x := by
  unfold sgn at h
  by_cases c : 0 < x
  · exact c
  · rw [decide_eq_false c] at h
    by_cases d : x < 0
    · rw [decide_eq_true d] at h; exact absurd h (by decide)
    · rw [decide_eq_false d] at h; exact absurd h (by decide)
theorem logF_parts {p m e : Int} (h : logF p m e ≠ none) : 0 < sgn m ∧ Builtin.Int.intBits m < 5000 ∧ ((m = 1 ∧ e = 0 ∧ logF p m e = some (0, 0)) ∨ (¬ (m = 1 ∧ e = 0) ∧ ∃ f, logB (2 * p + 12) m e = some f ∧ logF p m e = decF p (2 * p + 12) f)) := by
  unfold logF at h ⊢
  split at h
  · exact absurd rfl h
  · rename_i g
    rw [if_neg g]
    simp only [not_or, Int.not_le, Nat.not_le] at g
    refine ⟨g.1, g.2, ?_⟩
    split at h
    · rename_i g1; left; exact ⟨g1.1, g1.2, if_pos g1⟩
    · rename_i g1
      right
      refine ⟨g1, ?_⟩
      rw [if_neg g1]
      cases q : logB (2 * p + 12) m e with
      | none => rw [q] at h; exact absurd rfl h
      | some f => exact ⟨f, rfl, rfl⟩
section
variable {prog : Program} {w : World} {A : Around} {E : Value → Shared → Prop} {s : Shared} {h₀ : Heap} {L : Addr} {m : Str → Option Value} {news : List (Addr × Obj)} {l : Addr} {Q : Value → Shared → Prop}
theorem retRed {h' : Heap} {tk' : Nat} {r r2 : Addr} {v y1 : Int} {t1 : Tok} {news' : List (Addr × Obj)} (hret : ∀ r r2 z1 u1 h' tk', z1 = v → Fr h₀ L h' m → News h₀ L h' ((r, ({ cls := .type "tuple", data := .seq #[.int z1 u1, .ref r2] } : Obj)) :: news) → Q (.ref r) { s with heap := h', toks := tk' })
    (F : Fr h₀ L h' m) (N : News h₀ L h' news') (hm : (r, ({ cls := .type "tuple", data := .seq #[.int y1 t1, .ref r2] } : Obj)) ∈ news') (hs : ∀ p ∈ news, p ∈ news') (e : y1 = v) : Q (.ref r) { s with heap := h', toks := tk' } :=
  hret _ _ _ _ _ _ e F fun p hp => N p ((List.mem_cons.mp hp).elim (fun q => q ▸ hm) (hs p))
end
end
section
open PySem PySem.W PySem.Spec PySem.Calls PyProof.Rows
set_option Elab.async false
set_option maxRecDepth 100000
structure LS where
  n : Nat
  p : Int
  t : Int
  a : Tok
  b : Tok
structure PS where
  n : Nat
  te : Int
  to : Int
  un : Int
  co : Int
  a : Tok
  b : Tok
  c : Tok
  d : Tok
structure MS where
  n : Nat
  p : Int
  t : Int
  a : Tok
  b : Tok
  o : Obj
theorem midL_step {n : Nat} {b m e : Int} {v : Int × Int} (h : m < p2 (b - 1)) (k : midL (n + 1) b m e = some v) : midL n b (m * 2) (e - 1) = some v := by
  unfold midL at k; rwa [if_pos h] at k
theorem midL_stop {n : Nat} {b m e : Int} (h : ¬ m < p2 (b - 1)) : midL (n + 1) b m e = some (m, e) := by
  unfold midL; rw [if_neg h]
theorem midF_parts {b m e : Int} {v : (Int × Int) × (Int × Int)} (h : midF b m e = some v) : ¬ (absI m).fmod 2 = 0 ∧ ¬ absI m ≥ p2 b ∧
    ∃ N k x, midL N b (absI m) e = some (k, x) ∧ x < 1000 ∧ -900 < x ∧ Sm (nearV b k) ∧ Sm (4 * k + 2) ∧ Sm (0 - (4 * k + 2)) ∧ Sm (0 - nearV b k) ∧
      ((m < 0 ∧ v = (lawFr (0 - (4 * k + 2)) (x - 2), lawFr (0 - nearV b k) (x - 2))) ∨ (¬ m < 0 ∧ v = (lawFr (nearV b k) (x - 2), lawFr (4 * k + 2) (x - 2)))) := by
  unfold midF at h
  split at h
  · cases h
  · rename_i g
    split at h
    · cases h
    · rename_i k x q
      split at h
      · rename_i g2
        refine ⟨fun h => g (.inl h), fun h => g (.inr h), 10, k, x, q, g2.1, g2.2.1, g2.2.2.1, g2.2.2.2.1, g2.2.2.2.2.1, g2.2.2.2.2.2, ?_⟩
        split at h
        · rename_i c; cases h; exact .inl ⟨c, rfl⟩
        · rename_i c; cases h; exact .inr ⟨c, rfl⟩
      · cases h
theorem lawOdd_step {n : Nat} {m e : Int} {v : Int × Int} (h : m.fmod 2 = 0) (k : lawOdd (n + 1) m e = some v) : lawOdd n (m.fdiv 2) (e + 1) = some v := by
  unfold lawOdd at k; rwa [if_pos h] at k
theorem lawOdd_stop {n : Nat} {m e : Int} (h : ¬ m.fmod 2 = 0) : lawOdd (n + 1) m e = some (m, e) := by
  unfold lawOdd; rw [if_neg h]
theorem lawOdd_zero : ∀ {n : Nat} {e : Int}, lawOdd n 0 e = none
  | 0, _ => rfl
  | n + 1, e => by unfold lawOdd; rw [if_pos (by decide)]; exact lawOdd_zero
theorem lawOdd_ne {n : Nat} {m e : Int} {v : Int × Int} (k : lawOdd n m e = some v) : m ≠ 0 := by
  rintro rfl; rw [lawOdd_zero] at k; cases k
theorem powL_step {n : Nat} {top bottom high low te to un co v : Int} (k : powL (n + 1) top bottom high low te to un co = some v) :
    Sm te ∧ Sm to ∧ Sm un ∧ Sm (co + 1) ∧ Sm (to * bottom) ∧ Sm (un * bottom) ∧ Sm (to * bottom * (co + 1) + te * top) ∧ Sm (un * bottom * (co + 1)) ∧ Sm (to * bottom * (co + 1) + te * top + te * top) ∧
    ((to * bottom * (co + 1) + te * top) * low > high * (un * bottom * (co + 1)) ∧ v = 1 ∨
     ¬ (to * bottom * (co + 1) + te * top) * low > high * (un * bottom * (co + 1)) ∧ (((co + 1) * bottom ≥ 2 * top ∧ (to * bottom * (co + 1) + te * top + te * top) * low < high * (un * bottom * (co + 1))) ∧ v = -1 ∨
       ¬ ((co + 1) * bottom ≥ 2 * top ∧ (to * bottom * (co + 1) + te * top + te * top) * low < high * (un * bottom * (co + 1))) ∧ powL n top bottom high low (te * top) (to * bottom * (co + 1) + te * top) (un * bottom * (co + 1)) (co + 1) = some v)) := by
  unfold powL at k
  dsimp only at k
  split at k
  · rename_i g
    obtain ⟨g1, g2, g3, g4, g5, g6⟩ := g
    split at k
    · rename_i g
      obtain ⟨g7, g8, g9⟩ := g
      refine ⟨g1, g2, g3, g4, g5, g6, g7, g8, g9, ?_⟩
      split at k
      · rename_i c; cases k; exact .inl ⟨c, rfl⟩
      · rename_i c
        split at k
        · rename_i d; cases k; exact .inr ⟨c, .inl ⟨d, rfl⟩⟩
        · rename_i d; exact .inr ⟨c, .inr ⟨d, k⟩⟩
    · cases k
  · cases k
theorem powF_parts {top bottom high low v : Int} (k : powF top bottom high low = some v) : Sm top ∧ Sm bottom ∧ Sm high ∧ Sm low ∧ ∃ N, powL N top bottom high low 1 1 1 0 = some v := by
  unfold powF at k
  split at k
  · rename_i g; exact ⟨g.1, g.2.1, g.2.2.1, g.2.2.2, 100, k⟩
  · cases k
theorem sideF_parts {x m : Int × Int} {v : Int} (k : sideF x m = some v) : (m.1 ≤ 0 ∧ v = 1) ∨ (¬ m.1 ≤ 0 ∧ ((x.1 > 0 ∧ powF x.1 x.2 m.1 m.2 = some v) ∨ (¬ x.1 > 0 ∧ ∃ u, powF (0 - x.1) x.2 m.2 m.1 = some u ∧ v = 0 - u))) := by
  unfold sideF at k
  split at k
  · rename_i c; cases k; exact .inl ⟨c, rfl⟩
  · rename_i c
    refine .inr ⟨c, ?_⟩
    split at k
    · rename_i d; exact .inl ⟨d, k⟩
    · rename_i d
      refine .inr ⟨d, ?_⟩
      split at k
      · cases k
      · rename_i u e; cases k; exact ⟨u, e, rfl⟩
theorem lawPair_parts {b c : Int} {v : Int × Int} (k : lawPair b c = some v) :
    ((((c.fdiv (p2 b)).fdiv 3).fmod 2 = 0 ∧ lawOdd 10 (c.fmod (p2 b) + 1) ((c.fdiv (p2 b)).fmod 3 - b) = some v) ∨
     (¬ ((c.fdiv (p2 b)).fdiv 3).fmod 2 = 0 ∧ lawOdd 10 (0 - (c.fmod (p2 b) + 1)) ((c.fdiv (p2 b)).fmod 3 - b) = some v)) := by
  unfold lawPair at k
  dsimp only at k
  by_cases h : ((c.fdiv (p2 b)).fdiv 3).fmod 2 = 0
  · rw [if_pos h] at k; exact .inl ⟨h, k⟩
  · rw [if_neg h] at k; exact .inr ⟨h, k⟩
/-- a code's table after its nested code was laid -/
noncomputable abbrev tabPs (pos : Pos) (c' : Addr) : Array Value := #[rawInt pos.line, rawInt pos.col, .ref c']
noncomputable def CodeNm (qual : Str) (oc : Obj) : Prop := ∃ vs t, oc.data = .fields vs ∧ vs[1]? = some (.str qual t)
noncomputable abbrev posE : Pos := ⟨140, 4, 143, 95⟩
noncomputable abbrev posL : Pos := ⟨158, 52, 158, 87⟩
noncomputable abbrev qualE : Str := Str.ofString "exp_real" ++ ".<locals>." ++ Str.ofString "bounds_at"
noncomputable abbrev qualL : Str := Str.ofString "log_real" ++ ".<locals>." ++ Str.ofString "<lambda>"
/-- the table is empty, or holds the one code -/
noncomputable def TabOk (pos : Pos) (qual : Str) (ps : Array Value) (c' : Addr) (oc : Obj) : Prop := ps = #[] ∨ (ps = tabPs pos c' ∧ CodeNm qual oc)
/-- what is left of a ledger when the object at one address is about to change -/
inductive Sift (P : Addr) : List (Addr × Obj) → List (Addr × Obj) → Prop
  | nil : Sift P [] []
  | all {l : List (Addr × Obj)} (h : ∀ q ∈ l, q.1 ≠ P) : Sift P l l
  | keep {a : Addr} {o : Obj} {l l' : List (Addr × Obj)} (h : a ≠ P) (k : Sift P l l') : Sift P ((a, o) :: l) ((a, o) :: l')
  | drop {x : Addr × Obj} {l l' : List (Addr × Obj)} (k : Sift P l l') : Sift P (x :: l) l'
theorem Sift.sub {P : Addr} {l l' : List (Addr × Obj)} (S : Sift P l l') : ∀ p ∈ l', p ∈ l := by
  induction S with
  | nil => exact fun _ h => h
  | all => exact fun _ h => h
  | keep _ _ ih => exact fun p hp => (List.mem_cons.mp hp).elim (fun e => e ▸ .head _) fun hp => .tail _ (ih p hp)
  | drop _ ih => exact fun p hp => .tail _ (ih p hp)
theorem Sift.ne {P : Addr} {l l' : List (Addr × Obj)} (S : Sift P l l') : ∀ q ∈ l', q.1 ≠ P := by
  induction S with
  | nil => exact fun _ h => nomatch h
  | all h => exact h
  | keep h _ ih => exact fun q hq => (List.mem_cons.mp hq).elim (fun e => e ▸ h) (ih q)
  | drop _ ih => exact ih
theorem allLt_ne {d c : Nat} : ∀ {l : List (Addr × Obj)}, AllLt d l → d ≤ c → ∀ q ∈ l, q.1 ≠ c
  | [], _, _ => fun _ h => nomatch h
  | _ :: _, h, hc => fun q hq => (List.mem_cons.mp hq).elim (fun e => e ▸ Nat.ne_of_lt (Nat.lt_of_lt_of_le h.1 hc)) (allLt_ne h.2 hc q)
theorem ltAll {P K : Nat} {l : List (Addr × Obj)} (h : ∀ q ∈ l, q.1 < K) (hk : K ≤ P) : ∀ q ∈ l, q.1 ≠ P := fun q hq => Nat.ne_of_lt (Nat.lt_of_lt_of_le (h q hq) hk)
section
variable {M : Model} {A : Around} {E : Value → Shared → Prop} {s : Shared} {h₀ : Heap} {L a c P c1 : Addr} {m mg mb : Str → Option Value} {cn : Str} {cs : Scope} {ccd : Value} {cl : List (Str × Addr)} {led news : List (Addr × Obj)} {o1 : Obj}
  {p : Program} {loose : List Str} {mean : ExcName → Option Value} {name qual : Str} {params : Arguments} {scope : Scope} {ps : Array Value} {pos : Pos} {firstLine : Nat} {clos : List (Str × Addr)}
theorem nest_S {body : List Stmt} {Q : Value → Shared → Prop} (F : Fr h₀ L s.heap m) (N : News h₀ L s.heap led) (T : Top p loose mean mg mb h₀) (C : CodeHd h₀ c P) (hcd : ccd = .ref c) (ok : TabOk pos qual ps c1 o1)
    (hm1 : (P, tabObj ps) ∈ led) (hm2 : (c1, o1) ∈ led) (S : Sift P led news)
    (ht : ∀ c', TriplesOk (tabPs pos c').toList) (hf : ∀ c', codeAmong pos (tabPs pos c').toList = some (.ref c'))
    (hcl : closureFor scope (envX cn cs L a ccd cl) = pure clos)
    (h : ∀ f c' oc doc ctv h' tk, Fr h₀ L h' m →
      News h₀ L h' ((f, fnMade name qual params body scope clos doc ((mg "__name__").getD .none) c' ctv) :: (P, tabObj (tabPs pos c')) :: (c', oc) :: news) →
      CodeNm qual oc → Q (.ref f) { s with heap := h', toks := tk }) :
    wpAny M A (makeFunction name qual params (.stmts body) scope (envX cn cs L a ccd cl) [] [] [] pos firstLine) Q E s := by
  have hs := S.sub
  have hne := S.ne
  rcases ok with rfl | ⟨rfl, vs, t, hd, hv⟩
  · have N2 : News h₀ L s.heap ((P, tabObj #[]) :: news) := fun q hq => N q ((List.mem_cons.mp hq).elim (fun e => e ▸ hm1) (hs q))
    refine nest_K F N2 T C hcd (UpdF.head hne) trivial rfl hcl fun f c' oc vs t ctv doc h' tk F' N' hd hv l1 l2 => ?_
    refine h f c' oc doc ctv h' tk F' (fun q hq => N' q ?_) ⟨vs, t, hd, hv⟩
    rcases List.mem_cons.mp hq with rfl | hq
    · exact .head _
    · rcases List.mem_cons.mp hq with rfl | hq
      · exact .tail _ (.tail _ (.head _))
      · rcases List.mem_cons.mp hq with rfl | hq
        · exact .tail _ (.head _)
        · exact .tail _ (.tail _ (.tail _ hq))
  · refine nestHit_K F N T C hcd hm1 (ht c1) (hf c1) hcl fun f ctv doc h' tk F' N' l1 => ?_
    refine h f c1 o1 doc ctv h' tk F' (fun q hq => N' q ?_) ⟨vs, t, hd, hv⟩
    rcases List.mem_cons.mp hq with rfl | hq
    · exact .head _
    · rcases List.mem_cons.mp hq with rfl | hq
      · exact .tail _ hm1
      · rcases List.mem_cons.mp hq with rfl | hq
        · exact .tail _ hm2
        · exact .tail _ (hs _ hq)
theorem lam_S {body : Expr} {Q : Value → Shared → Prop} (F : Fr h₀ L s.heap m) (N : News h₀ L s.heap led) (T : Top p loose mean mg mb h₀) (C : CodeHd h₀ c P) (hcd : ccd = .ref c) (ok : TabOk pos qual ps c1 o1)
    (hm1 : (P, tabObj ps) ∈ led) (hm2 : (c1, o1) ∈ led) (S : Sift P led news)
    (ht : ∀ c', TriplesOk (tabPs pos c').toList) (hf : ∀ c', codeAmong pos (tabPs pos c').toList = some (.ref c'))
    (hcl : closureFor scope (envX cn cs L a ccd cl) = pure clos)
    (h : ∀ f c' oc ctv h' tk, Fr h₀ L h' m →
      News h₀ L h' ((f, kla_obj name qual params body scope clos ((mg "__name__").getD .none) c' ctv) :: (P, tabObj (tabPs pos c')) :: (c', oc) :: news) →
      CodeNm qual oc → Q (.ref f) { s with heap := h', toks := tk }) :
    wpAny M A (makeFunction name qual params (.expr body) scope (envX cn cs L a ccd cl) [] [] [] pos firstLine) Q E s := by
  have hs := S.sub
  have hne := S.ne
  rcases ok with rfl | ⟨rfl, vs, t, hd, hv⟩
  · have N2 : News h₀ L s.heap ((P, tabObj #[]) :: news) := fun q hq => N q ((List.mem_cons.mp hq).elim (fun e => e ▸ hm1) (hs q))
    refine kla_nest F N2 T C hcd (UpdF.head hne) trivial rfl hcl fun f c' oc vs t ctv h' tk F' N' hd hv l1 l2 => ?_
    refine h f c' oc ctv h' tk F' (fun q hq => N' q ?_) ⟨vs, t, hd, hv⟩
    rcases List.mem_cons.mp hq with rfl | hq
    · exact .head _
    · rcases List.mem_cons.mp hq with rfl | hq
      · exact .tail _ (.tail _ (.head _))
      · rcases List.mem_cons.mp hq with rfl | hq
        · exact .tail _ (.head _)
        · exact .tail _ (.tail _ (.tail _ hq))
  · refine kla_hit F N T C hcd hm1 (ht c1) (hf c1) hcl fun f ctv h' tk F' N' l1 => ?_
    refine h f c1 o1 ctv h' tk F' (fun q hq => N' q ?_) ⟨vs, t, hd, hv⟩
    rcases List.mem_cons.mp hq with rfl | hq
    · exact .head _
    · rcases List.mem_cons.mp hq with rfl | hq
      · exact .tail _ hm1
      · rcases List.mem_cons.mp hq with rfl | hq
        · exact .tail _ hm2
        · exact .tail _ (hs _ hq)
theorem newsNe {h : Heap} {l : List (Addr × Obj)} {a b : Addr} {o o' : Obj} {v : Option Value} (N : News h₀ L h l) (h1 : (a, o) ∈ l) (h2 : (b, o') ∈ l) (hd : o'.data = .cell v) (hne : ∀ v, o.data ≠ .cell v) : a ≠ b := by
  rintro rfl
  have e : o = o' := Option.some.inj ((N _ h1).1.symm.trans (N _ h2).1)
  exact hne v (e ▸ hd)
theorem storeX_S {x : Str} {v : Value} {Q : Unit → Shared → Prop} {o : Obj} {v₀ : Option Value} (F : Fr h₀ L s.heap m) (N : News h₀ L s.heap led) (hc : cl.lookup x = some c) (hm : (c, o) ∈ led) (hd : o.data = .cell v₀) (S : Sift c led news)
    (h : ∀ h' o', Fr h₀ L h' m → News h₀ L h' ((c, o') :: news) → o'.data = .cell (some v) → Q () { s with heap := h' })
    (hk : cs.kind = .function := by rfl) (hx : (envX cn cs L a ccd cl).kindOf x = some .cell := by rfl) : wpAny M A (storeName (envX cn cs L a ccd cl) x v) Q E s :=
  storeX_C F (fun q hq => N q ((List.mem_cons.mp hq).elim (fun e => e ▸ hm) (S.sub q))) hc (UpdF.head S.ne) hd h hk hx
theorem retTR {w : World} {Q : Value → Shared → Prop} {h' : Heap} {tk' : Nat} {r d P c' : Addr} {v : Int × Int} {y1 y2 : Int} {j t1 k t2 : Tok} {ps' : Array Value} {oc' : Obj} {news' : List (Addr × Obj)}
    (hret : ∀ r d z1 z2 j u1 k u2 ps' c' oc' h' tk', z1 = v.1 → z2 = v.2 → TabOk pos qual ps' c' oc' → Fr h₀ L h' m → News h₀ L h' ((r, instObj (nat_lit 89) d) :: (d, realO w j z1 u1 k z2 u2) :: (P, tabObj ps') :: (c', oc') :: news) → Q (.ref r) { s with heap := h', toks := tk' })
    (F : Fr h₀ L h' m) (N : News h₀ L h' news') (hm : (r, instObj (nat_lit 89) d) ∈ news') (hm2 : (d, realO w j y1 t1 k y2 t2) ∈ news') (ok : TabOk pos qual ps' c' oc') (hm3 : (P, tabObj ps') ∈ news') (hm4 : (c', oc') ∈ news') (hs : ∀ p ∈ news, p ∈ news')
    (e : (y1, y2) = v) : Q (.ref r) { s with heap := h', toks := tk' } := by
  refine hret r d y1 y2 j t1 k t2 ps' c' oc' h' tk' (congrArg Prod.fst e) (congrArg Prod.snd e) ok F fun p hp => N p ?_
  rcases List.mem_cons.mp hp with rfl | hp
  · exact hm
  · rcases List.mem_cons.mp hp with rfl | hp
    · exact hm2
    · rcases List.mem_cons.mp hp with rfl | hp
      · exact hm3
      · rcases List.mem_cons.mp hp with rfl | hp
        · exact hm4
        · exact hs p hp
theorem newsTab {h : Heap} {P c1 : Addr} {o1 : Obj} {ps : Array Value} (N : News h₀ L h led) (hm1 : (P, tabObj ps) ∈ led) (hm2 : (c1, o1) ∈ led) (S : Sift P led news) : News h₀ L h ((P, tabObj ps) :: (c1, o1) :: news) := by
  intro p hp
  rcases List.mem_cons.mp hp with rfl | hp
  · exact N _ hm1
  · rcases List.mem_cons.mp hp with rfl | hp
    · exact N _ hm2
    · exact N _ (S.sub p hp)
end
section
variable {prog : Program} {w : World} {A : Around} {E : Value → Shared → Prop} {Q : Flow → Shared → Prop} {s : Shared} {env : Env} {h₀ : Heap} {L : Addr} {m₀ : Str → Option Value} {news : List (Addr × Obj)}
/-- a loop that leaves in its first turn -/
noncomputable def OnceB (Q : Flow → Shared → Prop) (f : Flow) (s₂ : Shared) : Prop := match f with
  | .ret v => Q (.ret v) s₂
  | .brk => Q .next s₂
  | _ => False
theorem while_once {test : Expr} {body : List Stmt} {pos : Pos} (F : Fr h₀ L s.heap m₀) (N : News h₀ L s.heap news)
    (turn : ∀ h tk, Fr h₀ L h m₀ → News h₀ L h news →
      wpAny (model prog w) A (isTrue test env (eval test env)) (fun b s₂ =>
        if b = true then wpAny (model prog w) A (execs body env) (OnceB Q) E s₂ else Q .next s₂) E { s with heap := h, toks := tk })
    (hE : PassesOwn (model prog w) A env E := by passes_own) :
    wpAny (model prog w) A (exec (.While test body [] pos) env) Q E s := by
  refine ksw_while (σ := Unit) (fun _ => news) (fun _ => []) (fun _ => True) [] (fun _ => True) (fun _ => 0) () F N trivial (fun _ h => nomatch h) trivial (fun c u h tk _ _ F' N' => ?_) hE
  refine wpAny_mono (turn h tk F' N') (fun b s₂ p => ?_) fun _ _ x => x
  cases b with
  | false => simpa using p
  | true =>
    simp only [if_true] at p ⊢
    refine wpAny_mono p (fun f s₃ q => ?_) fun _ _ x => x
    cases f with
    | ret v => exact q
    | brk => exact q
    | next => exact q.elim
    | cont => exact q.elim
end
end
section
open PySem PySem.W PySem.Spec PySem.Calls PyProof.Rows
set_option Elab.async false
set_option maxRecDepth 100000
theorem isExp_parts {p m e : Int} (h : isExp p m e = true) : ∃ r a b, expF p m e = some r ∧ midF p r.1 r.2 = some (a, b) ∧ sideF (lawFr m e) a = some 1 ∧ sideF (lawFr m e) b = some (-1) := by
  unfold isExp at h
  split at h
  · cases h
  · rename_i r q
    split at h
    · cases h
    · rename_i a b q2
      rw [Bool.and_eq_true, beq_iff_eq, beq_iff_eq] at h
      exact ⟨r, a, b, q, q2, h.1, h.2⟩
theorem isLog_parts {p m e : Int} (h : isLog p m e = true) : ∃ r, logF p m e = some r ∧ ((m = 1 ∧ e = 0 ∧ r = (0, 0)) ∨ (¬ (m = 1 ∧ e = 0) ∧ ∃ a b, midF p r.1 r.2 = some (a, b) ∧ sideF a (lawFr m e) = some (-1) ∧ sideF b (lawFr m e) = some 1)) := by
  unfold isLog at h
  split at h
  · cases h
  · rename_i r q
    refine ⟨r, q, ?_⟩
    split at h
    · rename_i g
      rw [Bool.and_eq_true, beq_iff_eq, beq_iff_eq] at h
      exact .inl ⟨g.1, g.2, Prod.ext h.1 h.2⟩
    · rename_i g
      split at h
      · cases h
      · rename_i a b q2
        rw [Bool.and_eq_true, beq_iff_eq, beq_iff_eq] at h
        exact .inr ⟨g, a, b, q2, h.1, h.2⟩
theorem newsNeC {h₀ h : Heap} {L : Addr} {l : List (Addr × Obj)} {a b : Addr} {o o' : Obj} (N : News h₀ L h l) (h1 : (a, o) ∈ l) (h2 : (b, o') ∈ l) (hne : o.cls ≠ o'.cls) : a ≠ b := by
  rintro rfl
  have e : o = o' := Option.some.inj ((N _ h1).1.symm.trans (N _ h2).1)
  exact hne (e ▸ rfl)
theorem tabNe {h₀ h : Heap} {L P P' a : Addr} {l : List (Addr × Obj)} {o oc : Obj} {pos : Pos} {q q' : Str} {ps : Array Value} {c : Addr} (N : News h₀ L h l) (h1 : (a, o) ∈ l) (h2 : (P, tabObj ps) ∈ l) (ok : TabOk pos q ps c oc) (g : a = P' ∨ CodeNm q' o) (hP : P' ≠ P) : a ≠ P := by
  rcases g with rfl | ⟨vs, t, hd, hv⟩
  · exact hP
  · rintro rfl
    have e : o = tabObj ps := Option.some.inj ((N _ h1).1.symm.trans (N _ h2).1)
    subst e
    obtain rfl : ps = vs := by simpa using hd
    rcases ok with rfl | ⟨rfl, _⟩
    · simp at hv
    · simp [tabPs, rawInt] at hv
theorem codeNe {h₀ h : Heap} {L P a b : Addr} {l : List (Addr × Obj)} {o o' : Obj} {v : Option Value} {q : Str} {ps : Array Value} (N : News h₀ L h l) (h1 : (a, o) ∈ l) (h2 : (b, o') ∈ l) (hd : o'.data = .cell v) (hP : (P, tabObj ps) ∈ l) (g : a = P ∨ CodeNm q o) : a ≠ b := by
  rintro rfl
  have e : o = o' := Option.some.inj ((N _ h1).1.symm.trans (N _ h2).1)
  subst e
  rcases g with rfl | ⟨vs, t, hd', _⟩
  · have e : o = tabObj ps := Option.some.inj ((N _ h1).1.symm.trans (N _ hP).1)
    rw [e] at hd; cases hd
  · rw [hd'] at hd; cases hd
theorem pairIs {x y : Int} (h : (x == 1 && y == 0) = true) : x = 1 ∧ y = 0 := by simpa using h
theorem tabNorm {h₀ h : Heap} {L P r d c : Addr} {x y o : Obj} {pos : Pos} {qual : Str} {ps : Array Value} {news : List (Addr × Obj)} (ok : TabOk pos qual ps c o) (N : News h₀ L h ((r, x) :: (d, y) :: (P, tabObj ps) :: (c, o) :: news)) :
    ∃ c' o', TabOk pos qual ps c' o' ∧ (c' = P ∨ CodeNm qual o') ∧ News h₀ L h ((r, x) :: (d, y) :: (P, tabObj ps) :: (c', o') :: news) := by
  rcases id ok with rfl | ⟨rfl, cn⟩
  · refine ⟨P, tabObj #[], .inl rfl, .inl rfl, fun p hp => N p ?_⟩
    simp only [List.mem_cons] at hp ⊢
    rcases hp with e | e | e | e | e
    · exact .inl e
    · exact .inr (.inl e)
    · exact .inr (.inr (.inl e))
    · exact .inr (.inr (.inl e))
    · exact .inr (.inr (.inr (.inr e)))
  · exact ⟨c, o, ok, .inr cn, N⟩
section
variable {s : Shared} {h₀ h' : Heap} {L P c' : Addr} {m : Str → Option Value} {Q : Value → Shared → Prop} {news news' : List (Addr × Obj)} {pos : Pos} {qual : Str} {ps' : Array Value} {oc' : Obj} {tk' : Nat} {y v : Bool}
theorem retTB
    (hret : ∀ ps' c' oc' h' tk', TabOk pos qual ps' c' oc' → (c' = P ∨ CodeNm qual oc') → Fr h₀ L h' m → News h₀ L h' ((P, tabObj ps') :: (c', oc') :: news) → Q (.bool v) { s with heap := h', toks := tk' })
    (F : Fr h₀ L h' m) (N : News h₀ L h' news') (ok : TabOk pos qual ps' c' oc') (hm3 : (P, tabObj ps') ∈ news') (hm4 : (c', oc') ∈ news') (hs : ∀ p ∈ news, p ∈ news')
    (e : y = v) : Q (.bool y) { s with heap := h', toks := tk' } := by
  subst e
  rcases id ok with rfl | ⟨rfl, cn⟩
  · refine hret #[] P (tabObj #[]) h' tk' (.inl rfl) (.inl rfl) F fun p hp => N p ?_
    rcases List.mem_cons.mp hp with rfl | hp
    · exact hm3
    · rcases List.mem_cons.mp hp with rfl | hp
      · exact hm3
      · exact hs p hp
  · refine hret _ c' oc' h' tk' ok (.inr cn) F fun p hp => N p ?_
    rcases List.mem_cons.mp hp with rfl | hp
    · exact hm3
    · rcases List.mem_cons.mp hp with rfl | hp
      · exact hm4
      · exact hs p hp
end
end
section
open PySem PySem.W PySem.Spec PySem.Calls PyProof.Rows
set_option Elab.async false
set_option maxRecDepth 100000
theorem iter_not {h₀ h : Heap} {L I : Addr} {l : Addr} {k : Nat} {it : Obj} {led : List (Addr × Obj)} {q : Addr × Obj} {ql : Str} (N : News h₀ L h led) (hI : (I, it) ∈ led) (hq : q ∈ led) (hd : it.data = .fields #[.ref l, .int k 0]) (g : CodeNm ql q.2) : q.1 ≠ I := by
  intro e
  obtain ⟨vs, t, hd', hv⟩ := g
  have e' : q.2 = it := Option.some.inj ((N _ hq).1.symm.trans ((congrArg h.get? e).trans (N _ hI).1))
  rw [e', hd] at hd'
  cases hd'
  simp at hv
/-- the two tables, each empty or with its one code -/
noncomputable abbrev tabLed (psE psL : Array Value) (cE cL : Addr) (oE oL : Obj) (keep : List (Addr × Obj)) : List (Addr × Obj) := (291, tabObj psE) :: (cE, oE) :: (305, tabObj psL) :: (cL, oL) :: keep
noncomputable def TabsOk (psE psL : Array Value) (cE cL : Addr) (oE oL : Obj) : Prop := TabOk posE qualE psE cE oE ∧ (cE = 291 ∨ CodeNm qualE oE) ∧ TabOk posL qualL psL cL oL ∧ (cL = 305 ∨ CodeNm qualL oL)
noncomputable def TurnEnd (h₀ : Heap) (L I : Addr) (it : Obj) (keep : List (Addr × Obj)) (x : Str) (stored : List Str) (m₀ : Str → Option Value) (s₁ : Shared) (f : Flow) (s₂ : Shared) : Prop :=
  f = .next ∧ ∃ h' tk m' psE psL cE cL oE oL, s₂ = { s₁ with heap := h', toks := tk } ∧ Fr h₀ L h' m' ∧ News h₀ L h' ((I, it) :: tabLed psE psL cE cL oE oL keep) ∧ TabsOk psE psL cE cL oE oL ∧ ∀ z, z ≠ x → stored.contains z = false → m' z = m₀ z
theorem TurnEnd.intro {h₀ : Heap} {L I : Addr} {it : Obj} {keep led : List (Addr × Obj)} {x : Str} {stored : List Str} {m₀ m' : Str → Option Value} {s₁ : Shared} {h' : Heap} {tk : Nat} {psE psL : Array Value} {cE cL : Addr} {oE oL : Obj}
    (F : Fr h₀ L h' m') (N : News h₀ L h' led) (okE : TabOk posE qualE psE cE oE) (gE : cE = 291 ∨ CodeNm qualE oE) (okL : TabOk posL qualL psL cL oL) (gL : cL = 305 ∨ CodeNm qualL oL)
    (mI : (I, it) ∈ led) (m1 : (291, tabObj psE) ∈ led) (m2 : (cE, oE) ∈ led) (m3 : (305, tabObj psL) ∈ led) (m4 : (cL, oL) ∈ led) (mk : ∀ p ∈ keep, p ∈ led) (hz : ∀ z, z ≠ x → stored.contains z = false → m' z = m₀ z) :
    TurnEnd h₀ L I it keep x stored m₀ s₁ .next { s₁ with heap := h', toks := tk } :=
  ⟨rfl, h', tk, m', psE, psL, cE, cL, oE, oL, rfl, F, fun p hp => N p (by
    rcases List.mem_cons.mp hp with rfl | hp
    · exact mI
    · rcases List.mem_cons.mp hp with rfl | hp
      · exact m1
      · rcases List.mem_cons.mp hp with rfl | hp
        · exact m2
        · rcases List.mem_cons.mp hp with rfl | hp
          · exact m3
          · rcases List.mem_cons.mp hp with rfl | hp
            · exact m4
            · exact mk p hp), ⟨okE, gE, okL, gL⟩, hz⟩
section
variable {prog : Program} {w : World} {A : Around} {E : Value → Shared → Prop} {s : Shared} {env : Env} {h₀ : Heap} {x : Str} {body : List Stmt} {Q : Flow → Shared → Prop}
theorem iter_tabs {l : Addr} {vs : List Value} {ns : List Int} {nn : Nat} {m₀ : Str → Option Value} {led led₁ keep : List (Addr × Obj)} (stored : List Str)
    (hh : A.handled = none) (F : Fr h₀ env.locals s.heap m₀) (N : News h₀ env.locals s.heap led) (mE : (291, tabObj #[]) ∈ led) (mL : (305, tabObj #[]) ∈ led) (S1 : Sift 291 led led₁) (S2 : Sift 305 led₁ keep)
    (hl : (l, listOf vs.toArray nn) ∈ keep) (hi : IntsAre vs ns)
    (turn : ∀ n t (u : Str → Option Value) (s₁ : Shared) I it psE psL cE cL oE oL, n ∈ ns →
      Fr h₀ env.locals s₁.heap (fun y => if y = x then some (.int n t) else kstB (fun z => if stored.contains z then u z else m₀ z) [] y) → News h₀ env.locals s₁.heap ((I, it) :: tabLed psE psL cE cL oE oL keep) →
      it.cls = .type "list_iterator" → TabOk posE qualE psE cE oE → (cE = 291 ∨ CodeNm qualE oE) → TabOk posL qualL psL cL oL → (cL = 305 ∨ CodeNm qualL oL) → 291 < I → 305 < I → (∀ q ∈ keep, q.1 < I) →
      wpAny (model prog w) A (execs body env) (TurnEnd h₀ env.locals I it keep x stored m₀ s₁) E s₁)
    (done : ∀ (u : Str → Option Value) h tk psE psL, Fr h₀ env.locals h (fun y => if y = x then u y else kstB (fun z => if stored.contains z then u z else m₀ z) [] y) → News h₀ env.locals h ((291, tabObj psE) :: (305, tabObj psL) :: keep) → Q .next { s with heap := h, toks := tk }) :
    wpAny (model prog w) A (pyIter (.ref l)) (fun it s₂ => LoopAtU prog w A h₀ env x body Q E it s₂) E s := by
  have hks : ∀ p ∈ keep, p ∈ led := fun p hp => S1.sub p (S2.sub p hp)
  have hol : s.heap.get? l = some (listOf vs.toArray nn) := (N _ (hks _ hl)).1
  have hls : s.heap.IsList l vs.toArray := ⟨_, hol, rfl, nn, rfl⟩
  have hne : l ≠ s.heap.objs.size := Nat.ne_of_lt (Heap.lt_size hol)
  refine wpAny_pyIter_list hls ?_
  have W := Walks.list (prog := prog) (w := w) hh s.heap.objs.size l hne vs.toArray
  have hlen : vs.toArray.size = ns.length := by simp [hi.length]
  rw [hlen] at W
  have hn1 : 291 < s.heap.objs.size := Heap.lt_size (N _ mE).1
  have hn2 : 305 < s.heap.objs.size := Heap.lt_size (N _ mL).1
  have hkl : ∀ q ∈ keep, q.1 < s.heap.objs.size := fun q hq => Heap.lt_size (N q (hks q hq)).1
  have sub0 : ∀ p ∈ tabLed #[] #[] 291 305 (tabObj #[]) (tabObj #[]) keep, p ∈ led := fun p hp => by
    rcases List.mem_cons.mp hp with rfl | hp
    · exact mE
    · rcases List.mem_cons.mp hp with rfl | hp
      · exact mE
      · rcases List.mem_cons.mp hp with rfl | hp
        · exact mL
        · rcases List.mem_cons.mp hp with rfl | hp
          · exact mL
          · exact hks p hp
  have off : ∀ {h : Heap} {psE psL cE cL oE oL}, News h₀ env.locals h (tabLed psE psL cE cL oE oL keep) → TabsOk psE psL cE cL oE oL → (∀ q, CodeNm q oE → cE ≠ s.heap.objs.size) → (∀ q, CodeNm q oL → cL ≠ s.heap.objs.size) →
      ∀ p ∈ tabLed psE psL cE cL oE oL keep, p.1 ∉ [s.heap.objs.size] := by
    intro h psE psL cE cL oE oL N' ⟨_, gE, _, gL⟩ kE kL p hp hI
    have hI' := List.mem_singleton.mp hI
    rcases List.mem_cons.mp hp with rfl | hp
    · exact absurd hI' (Nat.ne_of_lt hn1)
    · rcases List.mem_cons.mp hp with rfl | hp
      · rcases gE with g | g
        · exact absurd (g.symm.trans hI') (Nat.ne_of_lt hn1)
        · exact kE _ g hI'
      · rcases List.mem_cons.mp hp with rfl | hp
        · exact absurd hI' (Nat.ne_of_lt hn2)
        · rcases List.mem_cons.mp hp with rfl | hp
          · rcases gL with g | g
            · exact absurd (g.symm.trans hI') (Nat.ne_of_lt hn2)
            · exact kL _ g hI'
          · exact absurd hI' (Nat.ne_of_lt (hkl p hp))
  let J : Nat → (Str → Option Value) → List (Addr × Obj) → Prop := fun _ m nx => ∃ psE psL cE cL oE oL, nx = tabLed psE psL cE cL oE oL keep ∧ TabsOk psE psL cE cL oE oL ∧ ∀ z, z ≠ x → stored.contains z = false → m z = m₀ z
  refine ⟨_, _, _, ns.length, _, _, m₀, tabLed #[] #[] 291 305 (tabObj #[]) (tabObj #[]) keep, J, rfl, W, ?_, ?_, ?_, ⟨⟨_, Heap.get?_push_size _ rfl, rfl, rfl⟩, hls.at fun o e => Heap.get?_push_of_some _ e⟩, F.push _, (fun p hp => ⟨Heap.get?_push_of_some _ (N p (sub0 p hp)).1, (N p (sub0 p hp)).2⟩),
    ⟨_, _, _, _, _, _, rfl, ⟨.inl rfl, .inl rfl, .inl rfl, .inl rfl⟩, fun _ _ _ => rfl⟩, ?_, ?_⟩
  · intro hm
    rcases List.mem_cons.mp hm with e | hm
    · exact absurd F.ns.lt (e ▸ Nat.lt_irrefl _)
    · exact (N _ (hks _ hl)).2.1 ((List.mem_singleton.mp hm).symm)
  · intro b hb
    rw [List.mem_singleton.mp hb]
    exact next_is_new F
  · intro p hp hI
    exact absurd (Heap.lt_size (N p (sub0 p hp)).1) ((List.mem_singleton.mp hI) ▸ Nat.lt_irrefl _)
  · rintro i v m₁ news₁ s₁ own hin hP ⟨psE, psL, cE, cL, oE, oL, rfl, ok, hm⟩ hoff hown hget hfp hst F₁ N₁
    obtain ⟨⟨it, hit, hcl, hd⟩, hlo⟩ := hst
    have hlt' : i < ns.length := hin
    obtain ⟨t, hx⟩ := hi.get i ns[i] (by simp [hlt'])
    have hv : v = .int ns[i] t := by
      have hP' : vs[i]? = some v := by simpa using hP
      rw [hx] at hP'; exact (Option.some.inj hP').symm
    subst hv
    have hmem := hfp s.heap.objs.size (List.mem_cons_self ..) (next_is_new F) _ hit
    have N₂ : News h₀ env.locals s₁.heap ((s.heap.objs.size, it) :: tabLed psE psL cE cL oE oL keep) := fun p hp => by
      rcases List.mem_cons.mp hp with rfl | hp
      · exact N₁ _ (List.mem_append_left _ hmem)
      · exact N₁ _ (List.mem_append_right _ hp)
    refine wpAny_mono (turn ns[i] t m₁ s₁ s.heap.objs.size it psE psL cE cL oE oL (List.getElem_mem ..) (kst_fr (fun _ h => nomatch h) (fun z h1 _ h3 => hm z h1 h3) F₁) N₂ hcl ok.1 ok.2.1 ok.2.2.1 ok.2.2.2 hn1 hn2 hkl) (fun f s₂ p => ?_) fun _ _ e => e
    obtain ⟨rfl, h', tk, m', psE', psL', cE', cL', oE', oL', rfl, F', N', ok', hm'⟩ := p
    refine ⟨rfl, h', tk, m', tabLed psE' psL' cE' cL' oE' oL' keep, rfl, F', fun p hp => ?_, ?_, ⟨_, _, _, _, _, _, rfl, ok', hm'⟩⟩
    · rcases List.mem_append.mp hp with hp | hp
      · rcases List.mem_cons.mp (hown p hp) with h1 | h1
        · have h2 : s₁.heap.get? p.1 = some p.2 := hget p hp
          have h3 : p = (s.heap.objs.size, it) := by
            rw [h1, hit] at h2
            exact Prod.ext h1 (Option.some.inj h2).symm
          rw [h3]; exact N' _ (List.mem_cons_self ..)
        · have h1' := List.mem_singleton.mp h1
          have h2 : s₁.heap.get? p.1 = some p.2 := hget p hp
          have h4 : s₁.heap.get? l = some (listOf vs.toArray nn) := (N₂ _ (.tail _ (.tail _ (.tail _ (.tail _ (.tail _ hl)))))).1
          have h3 : p = (l, listOf vs.toArray nn) := by
            rw [h1', h4] at h2
            exact Prod.ext h1' (Option.some.inj h2).symm
          rw [h3]; exact N' _ (.tail _ (.tail _ (.tail _ (.tail _ (.tail _ hl)))))
      · exact N' p (.tail _ hp)
    · exact off (fun p hp => N' p (.tail _ hp)) ok' (fun q g => iter_not N' (List.mem_cons_self ..) (q := (cE', oE')) (.tail _ (.tail _ (.head _))) hd g) (fun q g => iter_not N' (List.mem_cons_self ..) (q := (cL', oL')) (.tail _ (.tail _ (.tail _ (.tail _ (.head _))))) hd g)
  · rintro h' tk m' news' F' N' _ ⟨psE, psL, cE, cL, oE, oL, rfl, ok, hm⟩
    refine done m' h' tk psE psL (kst_frOut (fun _ h => nomatch h) (fun z h1 _ h3 => hm z h1 h3) F') fun p hp => N' p ?_
    rcases List.mem_cons.mp hp with rfl | hp
    · exact .head _
    · rcases List.mem_cons.mp hp with rfl | hp
      · exact .tail _ (.tail _ (.head _))
      · exact .tail _ (.tail _ (.tail _ (.tail _ hp)))
theorem iter_tabsV {l : Addr} {vs : List Value} {ns : List Int} {nn : Nat} {m₀ : Str → Option Value} {led led₁ keep : List (Addr × Obj)} (stored : List Str)
    (hh : A.handled = none) (F : Fr h₀ env.locals s.heap m₀) (N : News h₀ env.locals s.heap led) (mE : (291, tabObj #[]) ∈ led) (mL : (305, tabObj #[]) ∈ led) (S1 : Sift 291 led led₁) (S2 : Sift 305 led₁ keep)
    (hl : (l, listOf vs.toArray nn) ∈ keep) (hi : IntsAre vs ns)
    (turn : ∀ n t (u : Str → Option Value) (s₁ : Shared) I it psE psL cE cL oE oL, n ∈ ns →
      Fr h₀ env.locals s₁.heap (fun y => if y = x then some (.int n t) else kstB (fun z => if stored.contains z then u z else m₀ z) [] y) → News h₀ env.locals s₁.heap ((I, it) :: tabLed psE psL cE cL oE oL keep) →
      it.cls = .type "list_iterator" → TabOk posE qualE psE cE oE → (cE = 291 ∨ CodeNm qualE oE) → TabOk posL qualL psL cL oL → (cL = 305 ∨ CodeNm qualL oL) → 291 < I → 305 < I → (∀ q ∈ keep, q.1 < I) →
      wpAny (model prog w) A (execs body env) (TurnEnd h₀ env.locals I it keep x stored m₀ s₁) E s₁)
    (done : ∀ (u : Str → Option Value) h tk psE psL, Fr h₀ env.locals h (fun y => if y = x then u y else kstB (fun z => if stored.contains z then u z else m₀ z) [] y) → News h₀ env.locals h ((291, tabObj psE) :: (305, tabObj psL) :: keep) → Q .next { s with heap := h, toks := tk }) :
    wpAny (model prog w) A (pyIter (.ref l)) (fun it s₂ => LoopAtV prog w A h₀ env x body Q E it s₂) E s :=
  wpAny_mono (iter_tabs stored hh F N mE mL S1 S2 hl hi turn done) (fun _ _ h => h.toV) fun _ _ e => e
end
section
variable {M : Model} {A : Around} {E : Value → Shared → Prop} {s : Shared} {h₀ : Heap} {L a c P : Addr} {m mg mb : Str → Option Value} {cn : Str} {cs : Scope} {ccd : Value} {cl : List (Str × Addr)} {led news : List (Addr × Obj)}
  {p : Program} {loose : List Str} {mean : ExcName → Option Value} {name qual : Str} {params : Arguments} {body : Expr} {scope : Scope} {ps : Array Value} {pos : Pos} {firstLine : Nat} {clos : List (Str × Addr)}
theorem lam_T {Q : Value → Shared → Prop} (F : Fr h₀ L s.heap m) (N : News h₀ L s.heap led) (T : Top p loose mean mg mb h₀) (C : CodeHd h₀ c P) (hcd : ccd = .ref c) (hm : (P, tabObj ps) ∈ led) (S : Sift P led news)
    (ht : TriplesOk ps.toList) (hnf : codeAmong pos ps.toList = none) (hcl : closureFor scope (envX cn cs L a ccd cl) = pure clos)
    (h : ∀ f c' oc vs t ctv h' tk, Fr h₀ L h' m →
      News h₀ L h' ((f, kla_obj name qual params body scope clos ((mg "__name__").getD .none) c' ctv) :: (c', oc) :: (P, tabObj (ps ++ #[rawInt pos.line, rawInt pos.col, .ref c'])) :: news) →
      oc.data = .fields vs → vs[1]? = some (.str qual t) → (∀ q ∈ news, q.1 < c') → c' < f → Q (.ref f) { s with heap := h', toks := tk }) :
    wpAny M A (makeFunction name qual params (.expr body) scope (envX cn cs L a ccd cl) [] [] [] pos firstLine) Q E s := by
  have N2 : News h₀ L s.heap ((P, tabObj ps) :: news) := fun q hq => N q ((List.mem_cons.mp hq).elim (fun e => e ▸ hm) (S.sub q))
  exact kla_nest F N2 T C hcd (UpdF.head S.ne) ht hnf hcl fun f c' oc vs t ctv h' tk F' N' hd hv l1 l2 => h f c' oc vs t ctv h' tk F' N' hd hv (fun q hq => l1 q (.tail _ hq)) l2
end
theorem sgn_abs {x : Int} : sgn (0 - absI x) ≤ 0 := by
  unfold sgn absI
  by_cases c : x < 0
  · rw [if_pos c, decide_eq_false (by omega : ¬ 0 < 0 - -x)]
    cases decide (0 - -x < 0) <;> decide
  · rw [if_neg c, decide_eq_false (by omega : ¬ 0 < 0 - x)]
    cases decide (0 - x < 0) <;> decide
end
section
open PySem PySem.W PySem.Spec PySem.Calls PyProof.Rows Builtin Builtin.ObjectAttr
set_option Elab.async false
set_option maxRecDepth 100000
set_option maxHeartbeats 0
/-- an exception object just made, or with its own dict -/
noncomputable abbrev excO (C t : Addr) (d : Option Addr) : Obj := { cls := .ref C, dict := d, data := .fields #[.ref t, .none, .none, .none, .bool false, .none] }
noncomputable abbrev tupL (l : List Value) : Obj := { cls := .type "tuple", data := .seq l.toArray }
/-- what is asked of an exception class of the program's own, whose objects Exception makes -/
noncomputable def excObj (C : Addr) (o : Obj) : Bool := o.cls == .type "type" && (match o.data with
  | .cls cd => cd.mro.head? == some (.ref C) && o.slots.toList.length == 6 && o.slots.toList[4]? == some (some (.builtin "Exception.__new__")) && !cd.hasDel && cd.mro.contains (.type "Exception") && cd.mro.contains (.type "BaseException") && !cd.mro.contains (.type "AttributeError") && !cd.mro.contains (.type "NameError")
  | _ => false)
noncomputable def excClsIn (K : Frag) (C : Addr) : Bool := (K.lookup C).any (excObj C)
noncomputable def ExcCls (h : Heap) (C : Addr) : Prop := ∃ o, h.get? C = some o ∧ excObj C o = true
theorem excCls_of {K : Frag} {h : Heap} {C : Addr} (X : K.In h) (e : excClsIn K C = true) : ExcCls h C := by
  unfold excClsIn at e
  cases ho : K.lookup C with
  | none => rw [ho] at e; cases e
  | some o => rw [ho] at e; exact ⟨o, X _ _ ho, e⟩
theorem ExcCls.keeps {h h' : Heap} {C : Addr} (x : ExcCls h C) (k : ∀ b o, h.get? b = some o → h'.get? b = some o) : ExcCls h' C :=
  let ⟨o, a, r⟩ := x
  ⟨o, k _ _ a, r⟩
theorem six_of {α : Type} {l : List α} (h : l.length = 6) : ∃ a b c d e f, l = [a, b, c, d, e, f] := by
  obtain ⟨a, l, rfl⟩ := List.exists_cons_of_length_eq_add_one h
  obtain ⟨b, l, rfl⟩ := List.exists_cons_of_length_eq_add_one (Nat.succ.inj h)
  obtain ⟨c, l, rfl⟩ := List.exists_cons_of_length_eq_add_one (Nat.succ.inj (Nat.succ.inj h))
  obtain ⟨d, l, rfl⟩ := List.exists_cons_of_length_eq_add_one (Nat.succ.inj (Nat.succ.inj (Nat.succ.inj h)))
  obtain ⟨e, l, rfl⟩ := List.exists_cons_of_length_eq_add_one (Nat.succ.inj (Nat.succ.inj (Nat.succ.inj (Nat.succ.inj h))))
  obtain ⟨f, l, rfl⟩ := List.exists_cons_of_length_eq_add_one (Nat.succ.inj (Nat.succ.inj (Nat.succ.inj (Nat.succ.inj (Nat.succ.inj h)))))
  have h0 : l.length = 0 := Nat.succ.inj (Nat.succ.inj (Nat.succ.inj (Nat.succ.inj (Nat.succ.inj (Nat.succ.inj h)))))
  exact ⟨a, b, c, d, e, f, by rw [List.eq_nil_of_length_eq_zero h0]⟩
theorem clsD_of {C : Addr} {o : Obj} (e : excObj C o = true) : ∃ cd, o.data = .cls cd ∧ o.cls = .type "type" ∧ cd.mro.head? = some (.ref C) ∧ o.slots.toList.length = 6 ∧ o.slots.toList[4]? = some (some (.builtin "Exception.__new__")) ∧ cd.hasDel = false ∧ cd.mro.contains (.type "Exception") = true ∧ cd.mro.contains (.type "BaseException") = true ∧ cd.mro.contains (.type "AttributeError") = false ∧ cd.mro.contains (.type "NameError") = false := by
  unfold excObj at e
  rw [Bool.and_eq_true, beq_iff_eq] at e
  obtain ⟨e0, e⟩ := e
  cases hd : o.data with
  | cls cd =>
    rw [hd] at e
    simp only [Bool.and_eq_true, beq_iff_eq, Bool.not_eq_true'] at e
    obtain ⟨⟨⟨⟨⟨⟨⟨e1, e2⟩, e3⟩, e4⟩, e5⟩, e6⟩, e7⟩, e8⟩ := e
    exact ⟨cd, rfl, e0, e1, e2, e3, e4, e5, e6, e7, e8⟩
  | _ => rw [hd] at e; cases e
theorem ExcCls.obj {h : Heap} {C : Addr} (x : ExcCls h C) : ∃ nm q N bs bm hdct sn sub ab col dd k0 k1 k2 k3 k5, h.get? C = some (excClassObj nm q C N bs bm hdct sn sub ab col dd k0 k1 k2 k3 k5 "Exception.__new__") ∧
    (Value.ref C :: bm).contains (.type "Exception") = true ∧ (Value.ref C :: bm).contains (.type "BaseException") = true ∧ (Value.ref C :: bm).contains (.type "AttributeError") = false ∧ (Value.ref C :: bm).contains (.type "NameError") = false := by
  obtain ⟨o, ho, e⟩ := x
  obtain ⟨cd, hd, e0, e1, e2, e3, e4, e5, e6, e7, e8⟩ := clsD_of e
  obtain ⟨cl, dd, da, ⟨sl⟩⟩ := o
  dsimp only at hd e0 e2 e3
  subst hd e0
  obtain ⟨k0, k1, k2, k3, k4, k5, rfl⟩ := six_of e2
  obtain ⟨nm, bs, mro, ns, qn, hdt, sn, sub, ab, col, del⟩ := cd
  dsimp only at e1 e4 e5 e6 e7 e8
  subst e4
  cases mro with
  | nil => cases e1
  | cons v bm =>
    obtain rfl : v = .ref C := Option.some.inj e1
    obtain rfl : k4 = some (.builtin "Exception.__new__") := Option.some.inj e3
    exact ⟨nm, qn, ns, bs, bm, hdt, sn, sub, ab, col, dd, k0, k1, k2, k3, k5, ho, e5, e6, e7, e8⟩
section
variable {prog : Program} {w : World} {A : Around} {R : Result → Shared → Prop} {E : Value → Shared → Prop} {h : Heap} {g : Array GenState} {d : Drawn} {t : Nat} {os : OsState}
variable {nm q : Str} {C N : Addr} {bs bm bmB : List Value} {hdct : Bool} {sn : List Str} {sub : List Value} {ab : Bool} {col : Option Bool} {dd : Option Addr} {k0 k1 k2 k3 k5 : Option Value} {B newId initId : String}
theorem new_check {M : Model} (F : ExcBaseFacts B newId initId bmB) (hB : (Value.ref C :: bm).contains (.type B) = true) {rest : List Value} {Q : Unit → Shared → Prop}
    (hC : h.get? C = some (excClassObj nm q C N bs bm hdct sn sub ab col dd k0 k1 k2 k3 k5 newId)) (hq : Q () ⟨h, g, d, t, os⟩) : wpAny M A (checkBuiltinCall newId ⟨.ref C :: rest, []⟩) Q E ⟨h, g, d, t, os⟩ := by
  have hstar := F.noStar
  simp only [checkBuiltinCall, F.newKind, F.newSplit, F.newRow]
  repeat (first | refine wpAny_loadPart_at hC ?_ | (refine wpAny_isSubtype_exc hC ?_; rw [hB]) | refine wpAny_staticBase_exc hC ?_ | refine wpAny_madeBy_exc hC ?_ | simp only [bne_self_eq_false, Bool.false_eq_true, if_false] | wp_step)
  exact hq
theorem new_made (F : ExcBaseFacts B newId initId bmB) (hB : (Value.ref C :: bm).contains (.type B) = true) (hA : (Value.ref C :: bm).contains (.type "AttributeError") = false) (hN : (Value.ref C :: bm).contains (.type "NameError") = false)
    {rest : List Value} (hC : h.get? C = some (excClassObj nm q C N bs bm hdct sn sub ab col dd k0 k1 k2 k3 k5 newId))
    (hq : R (.ok (.ret (.ref (h.objs.size + 1)))) ⟨(h.push (tupL rest)).push (excO C h.objs.size none), g, d, t, os⟩) (hrest : rest.length ≤ sizeLine) :
    codeAny (model prog w) A (.builtin newId ⟨.ref C :: rest, []⟩) R ⟨h, g, d, t, os⟩ := by
  have hends := F.ends
  refine codeAny_builtinAt F.entry ?_
  unfold Builtin.«BaseException.__new__»
  refine PySem.wpAt_bind ?_
  show PySem.wpAt _ _ _ (stack >>= _) _ _ _
  refine PySem.wpAt_bind (PySem.wpAt_stack fun p below => PySem.wpAt_of_wpAny ?_)
  wp_walk
  refine PySem.wpAt_of_wpAny ?_
  rw [F.owner]
  repeat (first | with_reducible refine wpAny_madeHere_exc F.canon hC ?_ | with_reducible refine wpAny_loadPart_at hC ?_ | (with_reducible refine wpAny_isSubtype_exc hC ?_; first | rw [hB] | rw [hA] | rw [hN]) | wp_step)
  show R _ _
  rw [Heap.size_push]
  exact hq
end
section
variable {prog : Program} {w : World} {A : Around} {C : Addr} {s : Shared} {h₀ : Heap} {L : Addr} {m : Str → Option Value} {news : List (Addr × Obj)} {R : Result → Shared → Prop} {K : Frag}
theorem make_exc {rest : List Value} {fI : Addr} (F : Fr h₀ L s.heap m) (N : News h₀ L s.heap news) (X : K.In s.heap) (hm : excClsIn K C = true)
    (hi : findIn K (.ref C) "__init__" = some (some (.ref fI))) (hf : typeIn K (.ref fI) = some (.type "function")) (hrest : rest.length ≤ sizeLine)
    (k : ∀ x t h', Fr h₀ L h' m → News h₀ L h' ((x, excO C t none) :: (t, tupL rest) :: news) → (∀ p ∈ news, p.1 < t) → t < x →
      codeAny (model prog w) (A.under (.builtin "type.__call__" ⟨.ref C :: rest, []⟩)) (.call (.ref fI) ⟨.ref x :: rest, []⟩) (InitBack x R) { s with heap := h' }) :
    codeAny (model prog w) A (.call (.ref C) ⟨rest, []⟩) R s := by
  obtain ⟨h, g, d, t, os⟩ := s
  obtain ⟨nm, q, Nn, bs, bm, hdct, sn, sub, ab, col, dd, k0, k1, k2, k3, k5, hC, hB, hBB, hA, hN⟩ := (excCls_of X hm).obj
  have f1 := tc_lookup
  have f2 := tc_bind (.ref C)
  have FE := PySem.F.excBase_Exception
  refine codeAny_of_tree ?_
  show wpAny _ _ (callAny (.ref C) _) _ _ _
  repeat (any_goals (first | assumption | with_reducible refine wpAny_loadPart_at hC ?_ | wp_step))
  refine ⟨rfl, ?_⟩
  refine codeAny_call_builtin_at (Code.quiet_builtin _ (by decide +kernel)) entry_typeCall (wpAny_check_type_call_sub hC ?_)
  repeat (first | with_reducible refine wpAny_loadPart_at hC ?_ | with_reducible refine wpAny_madeBy_exc hC ?_ | wp_step)
  refine codeAny_call_builtin_code (Code.quiet_builtin _ FE.quiet) (new_check FE hB hC ?_)
  refine new_made FE hB hA hN hC ?_ hrest
  show wpAny _ _ _ _ _ _
  have hC₁ := Heap.get?_push_of_some (excO C h.objs.size none) (Heap.get?_push_of_some (tupL rest) hC)
  have kk : ∀ b o, h.get? b = some o → ((h.push (tupL rest)).push (excO C h.objs.size none)).get? b = some o := fun b o e => Heap.get?_push_of_some _ (Heap.get?_push_of_some _ e)
  have hget : ((h.push (tupL rest)).push (excO C h.objs.size none)).get? (h.objs.size + 1) = some (excO C h.objs.size none) := by heap_get
  have hcC : (Value.ref C :: bm).contains (.ref C) = true := by simp
  have X₁ : K.In ((h.push (tupL rest)).push (excO C h.objs.size none)) := fun b o e => kk b o (X b o e)
  have t1 : Looks (model prog w) ((h.push (tupL rest)).push (excO C h.objs.size none)) (typeOf (.ref (h.objs.size + 1))) (.ref C) := (Looks.ld hget).andThen .now
  have s1 : Looks (model prog w) ((h.push (tupL rest)).push (excO C h.objs.size none)) (isSubtype (.ref C) (.ref C)) true := by
    intro A Q E s k q
    obtain ⟨hp, g, d, tk, os⟩ := s
    refine wpAny_isSubtype_exc (k _ _ hC₁) ?_
    rw [hcC]; exact q
  have i1 := looks_findIn (M := model prog w) X₁ hi
  have b1 := bind_fn (M := model prog w) X₁ (.ref (h.objs.size + 1)) hf
  show wpAny (model prog w) (A.under (Code.builtin "type.__call__" ⟨.ref C :: rest, []⟩)) (isInstance (.ref (h.objs.size + 1)) (.ref C) >>= _) _ _ ⟨(h.push (tupL rest)).push (excO C h.objs.size none), g, d, t, os⟩
  unfold isInstance callSpecial? specialOf
  repeat (first | simp only [hcC, Bool.not_true, Bool.false_eq_true, if_false] | with_reducible refine wpAny_call ?_ | lk)
  have N' := (N.push F (tupL rest)).push (F.push _) (excO C h.objs.size none)
  rw [Heap.size_push] at N'
  refine codeAny_mono (k _ h.objs.size _ ((F.push _).push _) N' (fun p hp => Heap.lt_size (N p hp).1) (Nat.lt_succ_self _)) fun r s' z => ?_
  rcases r with e | (v | _ | _ | _) <;> first | exact z | exact z.elim | skip
  obtain ⟨rfl, z⟩ := z
  exact wpAny_pure (wpAny_pure z)
end
end
section
open PySem PySem.W PySem.Spec PySem.Calls PyProof.Rows Builtin Builtin.ObjectAttr
set_option Elab.async false
set_option maxRecDepth 100000
set_option maxHeartbeats 0
section
variable {M : Model} {A : Around} {E : Value → Shared → Prop} {s' : Shared} {base g g₂ h : Heap} {outer : List Env} {L a e t C : Addr} {m : Str → Option Value} {env : Env} {Q : Unit → Shared → Prop} {news led : List (Addr × Obj)} {dd : Option Addr}
theorem pushE (K : Below A base outer g) (F : Fr g L h m) (hf : env.frame = some L) (hk : env.scope.kind = .function) : Below (A.deeper env) base (env :: outer) h := by
  have hnew : base.get? L = none := by
    cases hq : base.get? L with
    | none => rfl
    | some o => exact absurd (Nat.lt_of_lt_of_le (Heap.lt_size (K.stays L o hq)) F.above) (Nat.lt_irrefl _)
  refine ⟨Around.frames_deeper K.stack, fun b o e => F.keep b o (K.stays b o e), ?_⟩
  exact .cons (by rw [hk]; decide) hf F.ns hnew (K.frames.of_keeps fun b o e _ => ⟨o, F.keep b o e, rfl⟩)
theorem memE {b : Addr} (hf : env.frame = some L) (hm : b ∈ (env :: outer).filterMap (·.frame)) : b = L ∨ b ∈ outer.filterMap (·.frame) := by
  rw [List.filterMap_cons, hf] at hm
  exact List.mem_cons.mp hm
theorem leave_exc (K : Below A base outer g) (F : Fr g L s'.heap m) (N : News g L s'.heap led) (he : (e, excO C t dd) ∈ led) (S : Sift e led news) (hf : env.frame = some L) (hk : env.scope.kind = .function)
    (hQ : ∀ h', RaisedSN base g outer e (.ref C) news h' → g.UpToSlots h' → Q () { s' with heap := h' }) : wpAny M (A.deeper env) (leaving env (.ref e)) Q E s' := by
  have K' := pushE (env := env) K F hf hk
  have hin : ∀ v ∈ (env :: outer), ∀ b, v.frame = some b → b ∈ e :: (env :: outer).filterMap (·.frame) := fun v hv b hb => .tail _ (List.mem_filterMap.mpr ⟨v, hv, hb⟩)
  have eb : base.get? e = none := fresh_of_stays K.stays (N _ he).2.2
  have st : base.StaysIn (hideAll s'.heap (e :: (env :: outer).filterMap (·.frame))) := fun b o q => hideAll_get _ (K'.stays b o q) fun hm => by
    rcases List.mem_cons.mp hm with rfl | hm
    · rw [eb] at q; cases q
    · rw [(K'.frames.mem hm).1] at q; cases q
  have sg : ∀ b o, g.get? b = some o → b ∉ outer.filterMap (·.frame) → (hideAll s'.heap (e :: (env :: outer).filterMap (·.frame))).get? b = some o := fun b o q nm => hideAll_get _ (F.keep b o q) fun hm => by
    rcases List.mem_cons.mp hm with rfl | hm
    · rw [(N _ he).2.2] at q; cases q
    · rcases memE hf hm with z | z
      · rw [z, kts_self F] at q; cases q
      · exact nm z
  have hl : ∀ q ∈ news, (hideAll s'.heap (e :: (env :: outer).filterMap (·.frame))).get? q.1 = some q.2 ∧ g.get? q.1 = none ∧ base.get? q.1 = none := fun q hq => by
    have hq' := S.sub q hq
    refine ⟨hideAll_get _ (N q hq').1 fun hm => ?_, (N q hq').2.2, fresh_of_stays K.stays (N q hq').2.2⟩
    rcases List.mem_cons.mp hm with z | hm
    · exact S.ne q hq z
    · rcases memE hf hm with z | z
      · exact (N q hq').2.1 z
      · obtain ⟨o, ho, _⟩ := (K.frames.mem z).2
        rw [(N q hq').2.2] at ho; cases ho
  have hen : (hideAll s'.heap (e :: (env :: outer).filterMap (·.frame))).get? e = none := hideAll_none _ (.head _)
  refine wpAny_leaving_firstW (a0 := .ref t) K'.stack (funFrames_hide K'.frames hin) hf (N _ he).1 (fun b o hb => of_hideAll _ hb) hen rfl rfl rfl fun h' hL => ?_
  obtain ⟨k1, k2, k3, k4⟩ := hL
  exact hQ h' ⟨_, .ref t, st, sg, hl, k1, hen, k2.2.2, k3⟩ ((Heap.UpToSlots.of_keeps F.keep).trans k4)
theorem leave_onX {cls : Value} (K : Below A base outer g) (F : Fr g L g₂ m) (hf : env.frame = some L) (R : RaisedSN base g₂ (env :: outer) e cls news s'.heap) (hsm : g₂.UpToSlots s'.heap)
    (hQ : ∀ h', RaisedSN base g outer e cls news h' → g.UpToSlots h' → Q () { s' with heap := h' }) : wpAny M (A.deeper env) (leaving env (.ref e)) Q E s' := by
  obtain ⟨B, a0, hB, hBG, hl, hfl⟩ := R
  exact wpAny_leaves_onW (Around.frames_deeper K.stack) hf hfl fun h' x1 x2 =>
    hQ h' ⟨B, a0, hB, fun b o q nm => hBG b o (F.keep b o q) (fun hm => by
      rcases memE hf hm with z | z
      · rw [z, kts_self F] at q
        cases q
      · exact nm z), fun q hq => ⟨(hl q hq).1, kts_none F.keep (hl q hq).2.1, (hl q hq).2.2⟩, x1⟩ ((Heap.UpToSlots.of_keeps F.keep).trans (hsm.trans x2))
end
/-- what a raised value answers to -/
noncomputable def RaiseP (C : Addr) (E : Value → Shared → Prop) (v : Value) (s₁ : Shared) : Prop := ∃ e t d, v = .ref e ∧ ExcCls s₁.heap C ∧ s₁.heap.get? e = some (excO C t d) ∧ E v s₁
section
variable {M : Model} {A : Around} {E : Value → Shared → Prop} {s : Shared} {env : Env} {C : Addr}
theorem raise_stmt {x : Sem Value} {Q : Flow → Shared → Prop} (hh : A.handled = none) (h : wpAny M A x (RaiseP C E) E s) : wpAny M A (raiseStmt env (some x) none) Q E s := by
  unfold raiseStmt
  refine wpAny_bind (wpAny_mono h (fun v s₁ h₁ => ?_) fun _ _ x => x)
  obtain ⟨e, t, dd, rfl, hc, he, hE⟩ := h₁
  obtain ⟨nm, q, Nn, bs, bm, hdct, sn, sub, ab, col, dd, k0, k1, k2, k3, k5, hC, hB, hcB, hA, hN⟩ := hc.obj
  obtain ⟨hp, g, d, tk, os⟩ := s₁
  repeat (first | with_reducible refine wpAny_loadPart_at he ?_ | with_reducible refine wpAny_loadPart_at hC ?_ | (with_reducible refine wpAny_isSubtype_exc hC ?_; rw [hcB]) | wp_step)
  exact wpAny_raiseNew_none hh hE
end
section
variable {prog : Program} {w : World} {A : Around} {E : Value → Shared → Prop} {s : Shared} {env : Env} {C : Addr}
theorem raise_own {x : Expr} {pos : Pos} {Q : Flow → Shared → Prop} (hh : A.handled = none) (h : wpAny (model prog w) A (eval x env) (RaiseP C E) E s) : wpAny (model prog w) A (exec (.Raise (some x) none pos) env) Q E s := by
  rw [arm_exec_Raise]
  exact wpAny_bind (wpAny_standAt (raise_stmt (C := C) hh (wpAny_bind (wpAny_mono h (fun v s₃ h₃ => wpAny_bind (wpAny_standAt (wpAny_pure h₃))) fun _ _ x => x))))
end
section
variable {s : Shared} {g : Heap} {L e t C : Addr} {d : Option Addr} {K : Frag} {led : List (Addr × Obj)} {E : Value → Shared → Prop} {m : Str → Option Value}
theorem raiseP_of (F : Fr g L s.heap m) (X : K.In g) (hm : excClsIn K C = true) (N : News g L s.heap led) (he : (e, excO C t d) ∈ led) (h : E (.ref e) s) : RaiseP C E (.ref e) s :=
  ⟨e, t, d, rfl, excCls_of (X.keeps F.keep) hm, (N _ he).1, h⟩
end
end
section
open PySem PySem.W PySem.Spec PySem.Calls PyProof.Rows Builtin Builtin.ObjectAttr
set_option Elab.async false
set_option maxRecDepth 100000
set_option maxHeartbeats 0
/-- a dict of attributes with names among a list -/
noncomputable def DictN (ns : List Str) (od : Obj) : Prop := ∃ mA es ep, Within mA ns ∧ od.data = .dict es ep ∧ StrKeys es ∧ UniqKeys es ∧ ∀ name, nsFind es name = mA name
theorem same_news {h₀ h h' : Heap} {L d : Addr} {m : Str → Option Value} {led news : List (Addr × Obj)} {o o' : Obj} (F : Fr h₀ L h m) (N : News h₀ L h led) (hd : (d, o) ∈ led) (S : Sift d led news) (hs : Heap.SameBut d h h') (ho : h'.get? d = some o') :
    Fr h₀ L h' m ∧ News h₀ L h' ((d, o') :: news) := by
  have D := N _ hd
  obtain ⟨oL, es, ep, hL, r⟩ := F.ns
  refine ⟨⟨⟨oL, es, ep, (hs.2 L (Ne.symm D.2.1)).trans hL, r⟩, fun b x q => (hs.2 b fun z => ?_).trans (F.keep b x q), F.above⟩, fun p hp => ?_⟩
  · have := D.2.2; rw [← z, q] at this; cases this
  · rcases List.mem_cons.mp hp with rfl | hp
    · exact ⟨ho, D.2⟩
    · exact ⟨(hs.2 _ (S.ne p hp)).trans (N p (S.sub p hp)).1, (N p (S.sub p hp)).2⟩
noncomputable def isRef : Value → Bool
  | .ref _ => true
  | _ => false
theorem isRef_of {v : Value} (h : isRef v = true) : ∃ c, v = .ref c := by
  cases v with
  | ref c => exact ⟨c, rfl⟩
  | _ => cases h
noncomputable def excOnly (l : List Value) : Bool := l.dropWhile isRef == [.type "Exception", .type "BaseException", .type "object"]
theorem refuse_base (self : Value) : refuseLoop self "__setattr__" [.type "Exception", .type "BaseException", .type "object"] = pure () := by kernel_rfl
theorem excOnly_ind {P : List Value → Prop} (h0 : P [.type "Exception", .type "BaseException", .type "object"]) (h1 : ∀ c r, P r → P (.ref c :: r)) (l : List Value) (e : excOnly l = true) : P l := by
  unfold excOnly at e
  rw [beq_iff_eq] at e
  induction l with
  | nil => cases e
  | cons v r ih =>
    cases hv : isRef v with
    | true => obtain ⟨c, rfl⟩ := isRef_of hv; exact h1 c r (ih e)
    | false => rw [List.dropWhile_cons, hv] at e; rw [show v :: r = _ from e]; exact h0
theorem refuse_exc (self : Value) {l : List Value} (e : excOnly l = true) : refuseLoop self "__setattr__" l = pure () :=
  excOnly_ind (P := fun l => refuseLoop self "__setattr__" l = pure ()) (refuse_base self) (fun c r h => by rw [refuseLoop_ref]; exact h) l e
theorem excOnly_has {l : List Value} (e : excOnly l = true) : l.contains (.type "object") = true :=
  excOnly_ind (P := fun l => l.contains (.type "object") = true) (by decide +kernel) (fun c r h => by rw [List.contains_cons, h, Bool.or_true]) l e
noncomputable def excOver (K : Frag) (C : Addr) : Bool := (clsIn K C).any fun cd => excOnly cd.mro && cd.hasDict
section
variable {prog : Program} {w : World} {A : Around} {K : Frag} {C x t dx : Addr} {s : Shared} {h₀ : Heap} {L : Addr} {m : Str → Option Value} {news led : List (Addr × Obj)} {R : Result → Shared → Prop} {ox : Obj} {od : Option Obj} {name : Str} {tk : Tok} {v : Value}
theorem osaE (X : K.In s.heap) (I : InstAt s.heap x ox C od) (hp : excOver K C = true) (ht : findIn K (.ref C) name = some none)
    (h : wpAny (model prog w) A.in1 (storeInOwnDict (.ref x) (.ref C) (.str name tk) name v false)
      (fun fin s' => match fin with | .done f => R (.ok f) s' | .again c' => c'.quiet = true ∧ codeAny (model prog w) A c' R s') (fun e s' => R (.error e) s') s) :
    codeAny (model prog w) A (.call (.builtin "object.__setattr__") ⟨[.ref x, .str name tk, v], []⟩) R s := by
  have SF := PySem.F.store_object
  obtain ⟨cd, hc, ho⟩ := any_some hp
  rw [Bool.and_eq_true] at ho
  have ne : cd.mro.isEmpty = false := by cases q : cd.mro with | nil => rw [q] at ho; cases ho.1 | cons _ _ => rfl
  have sub : Looks (model prog w) s.heap (isInstance (.ref x) (.type "object")) true := I.type.andThen (looks_mroIn X (by unfold mroIn; rw [hc, Option.bind_some, if_neg (by rw [ne]; decide), excOnly_has ho.1]))
  refine codeAny_call_builtin SF.slot.plain SF.entry (@check_slot (model prog w) _ _ s "object.__setattr__" "object" "__setattr__" (.ref x) [.str name tk, v] [] _ SF.kind SF.split sub (SF.args (.ref x) (.str name tk) v) ?_)
  have hm : Looks (model prog w) s.heap (mroOf (.ref C)) cd.mro := (looks_clsIn X hc).andThen .now
  have L3 : Looks (model prog w) s.heap (storeTaker? none) none := .now
  rw [osa_eq, refuse_eq]
  refine wpAny_bind (wpAny_bind (I.type.here (wpAny_bind (hm.here ?_))))
  rw [refuse_exc _ ho.1]
  refine wpAny_pure (wpAny_bind (I.type.here (wpAny_bind ((looks_findIn X ht).here (wpAny_bind (L3.here ?_))))))
  exact h
end
section
variable {M : Model} {A : Around} {E : Value → Shared → Prop} {K : Frag} {C x t dx : Addr} {h : Heap} {g : Array GenState} {d : Drawn} {tt : Nat} {os : OsState} {h₀ : Heap} {L : Addr} {m : Str → Option Value} {news led : List (Addr × Obj)} {name : Str} {tk : Tok} {v : Value} {Q : PySem.Fin → Shared → Prop} {ns : List Str} {od : Obj}
theorem own_some (F : Fr h₀ L h m) (N : News h₀ L h led) (X : K.In h) (hp : excOver K C = true) (hx : (x, excO C t (some dx)) ∈ led) (hd : (dx, od) ∈ led) (D : DictN ns od) (S : Sift dx led news) (hl : ns.length ≤ 900)
    (k : ∀ h' od' tk', Fr h₀ L h' m → News h₀ L h' ((dx, od') :: news) → DictN (name :: ns) od' → Q (.done (.ret .none)) ⟨h', g, d, tk', os⟩) :
    wpAny M A (storeInOwnDict (.ref x) (.ref C) (.str name tk) name v false) Q E ⟨h, g, d, tt, os⟩ := by
  obtain ⟨cd, hc, ho⟩ := any_some hp
  rw [Bool.and_eq_true] at ho
  obtain ⟨mA, es, ep, hw, hdd, hsk, huk, hf⟩ := D
  have hns : h.Ns1 dx mA := ⟨od, es, ep, (N _ hd).1, hdd, hsk, huk, hf⟩
  refine wpAny_bind (wpAny_pure (wpAny_bind (wpAny_bind (wpAny_loadPart (N _ hx).1 (wpAny_bind ((looks_clsIn X hc).here ?_))))))
  rw [ho.2]
  refine wpAny_pure (a := some dx) (wpAny_bind (wpAny_pure (wpAny_bind (wpAny_nsSet1 hns fun h' hn' hs => ?_))))
  obtain ⟨oD, esD, epD, hoD, hdD, hcD⟩ := hn'.count (Within.cons name v hw)
  refine wpAny_bind (wpAny_lookBehind hoD (by rw [hdD]; exact pastItsLine_dict (Nat.le_trans hcD (by rw [List.length_cons, sizeLine_eq]; omega))) ?_)
  obtain ⟨o', es', ep', e1, e2, e3, e4, e5⟩ := hn'
  obtain ⟨F', N'⟩ := same_news F N hd S hs e1
  exact wpAny_pure (k _ _ _ F' N' ⟨_, es', ep', Within.cons name v hw, e2, e3, e4, e5⟩)
theorem own_none (F : Fr h₀ L h m) (N : News h₀ L h led) (X : K.In h) (hp : excOver K C = true) (hx : (x, excO C t none) ∈ led) (S : Sift x led news)
    (k : ∀ h' dx od' tk', Fr h₀ L h' m → News h₀ L h' ((dx, od') :: (x, excO C t (some dx)) :: news) → DictN [name] od' → (∀ q ∈ led, q.1 < dx) → Q (.done (.ret .none)) ⟨h', g, d, tk', os⟩) :
    wpAny M A (storeInOwnDict (.ref x) (.ref C) (.str name tk) name v false) Q E ⟨h, g, d, tt, os⟩ := by
  obtain ⟨cd, hc, ho⟩ := any_some hp
  rw [Bool.and_eq_true] at ho
  have N₁ := N.push F emptyDict
  have F₁ := F.push emptyDict
  have lt : ∀ q ∈ led, q.1 < h.objs.size := fun q hq => Heap.lt_size (N q hq).1
  have N₂ : News h₀ L (h.push emptyDict) ([(h.objs.size, emptyDict)] ++ (x, excO C t none) :: news) := fun q hq => by
    rcases List.mem_cons.mp hq with rfl | hq
    · exact N₁ _ (.head _)
    · rcases List.mem_cons.mp hq with rfl | hq
      · exact N₁ _ (.tail _ hx)
      · exact N₁ _ (.tail _ (S.sub _ hq))
  obtain ⟨F₃, N₃⟩ := news_upd (f := fun o => { o with dict := some h.objs.size }) F₁ N₂ (fun p hp => by obtain rfl := List.mem_singleton.mp hp; exact Nat.ne_of_gt (lt _ hx)) S.ne (o' := excO C t (some h.objs.size)) rfl rfl
  have hgd := (N₃ (h.objs.size, emptyDict) (.head _)).1
  have hnd : ((h.push emptyDict).update x fun o => { o with dict := some h.objs.size }).Ns h.objs.size (fun _ => none) :=
    ⟨_, #[], _, hgd, rfl, fun e he => absurd he (by simp), fun _ => rfl⟩
  refine wpAny_bind (wpAny_pure (wpAny_bind (wpAny_bind (wpAny_loadPart (N _ hx).1 (wpAny_bind ((looks_clsIn X hc).here ?_))))))
  rw [ho.2]
  refine wpAny_bind (wpAny_alloc' ?_)
  refine wpAny_bind (wpAny_update' (N₁ _ (.tail _ hx)).1 ?_)
  refine wpAny_pure (a := some h.objs.size) (wpAny_bind (wpAny_pure (wpAny_bind (wpAny_nsSet1 (Heap.Ns1.of_empty hnd) fun h' hn' hs => ?_))))
  obtain ⟨oD, esD, epD, hoD, hdD, hcD⟩ := hn'.count (Within.cons name v Within.nil)
  refine wpAny_bind (wpAny_lookBehind hoD (by rw [hdD]; exact pastItsLine_dict (Nat.le_trans hcD (by rw [List.length_cons, List.length_nil, sizeLine_eq]; omega))) ?_)
  obtain ⟨o', es', ep', e1, e2, e3, e4, e5⟩ := hn'
  obtain ⟨F', N'⟩ := same_news (news := (x, excO C t (some h.objs.size)) :: news) F₃ N₃ (.head _) (.drop (.all fun q hq => by
    rcases List.mem_cons.mp hq with rfl | hq
    · exact Nat.ne_of_lt (lt (x, excO C t none) hx)
    · exact Nat.ne_of_lt (lt _ (S.sub _ hq)))) hs e1
  exact wpAny_pure (k _ _ _ _ F' N' ⟨_, es', ep', Within.cons name v Within.nil, e2, e3, e4, e5⟩ lt)
end
section
variable {prog : Program} {w : World} {A : Around} {E : Value → Shared → Prop} {K : Frag} {C x t dx : Addr} {s : Shared} {h₀ : Heap} {L : Addr} {m : Str → Option Value} {news led : List (Addr × Obj)} {name : Str} {v : Value} {Q : Unit → Shared → Prop} {ns : List Str} {od : Obj}
theorem setExc_some (F : Fr h₀ L s.heap m) (N : News h₀ L s.heap led) (X : K.In h₀) (hp : excOver K C = true) (hs : findIn K (.ref C) "__setattr__" = some (some (.builtin "object.__setattr__"))) (ht : findIn K (.ref C) name = some none)
    (hx : (x, excO C t (some dx)) ∈ led) (hd : (dx, od) ∈ led) (D : DictN ns od) (S : Sift dx led news) (hl : ns.length ≤ 900)
    (k : ∀ h' od' tk', Fr h₀ L h' m → News h₀ L h' ((dx, od') :: news) → DictN (name :: ns) od' → Q () { s with heap := h', toks := tk' }) : wpAny (model prog w) A (setAttr (.ref x) name v) Q E s := by
  have I : InstAt s.heap x (excO C t (some dx)) C (some od) := ⟨(N _ hx).1, rfl, rfl, (N _ hd).1⟩
  refine set_plain (X.keeps F.keep) I hs ?_
  refine osaE (X.keeps F.keep) I hp ht ?_
  exact own_some F N (X.keeps F.keep) hp hx hd D S hl fun h' od' tk' F' N' D' => k h' od' tk' F' N' D'
theorem setExc_none (F : Fr h₀ L s.heap m) (N : News h₀ L s.heap led) (X : K.In h₀) (hp : excOver K C = true) (hs : findIn K (.ref C) "__setattr__" = some (some (.builtin "object.__setattr__"))) (ht : findIn K (.ref C) name = some none)
    (hx : (x, excO C t none) ∈ led) (S : Sift x led news)
    (k : ∀ h' dx od' tk', Fr h₀ L h' m → News h₀ L h' ((dx, od') :: (x, excO C t (some dx)) :: news) → DictN [name] od' → (∀ q ∈ led, q.1 < dx) → Q () { s with heap := h', toks := tk' }) : wpAny (model prog w) A (setAttr (.ref x) name v) Q E s := by
  have I : InstAt s.heap x (excO C t none) C none := ⟨(N _ hx).1, rfl, rfl, trivial⟩
  refine set_plain (X.keeps F.keep) I hs ?_
  refine osaE (X.keeps F.keep) I hp ht ?_
  exact own_none F N (X.keeps F.keep) hp hx S fun h' dx od' tk' F' N' D' l => k h' dx od' tk' F' N' D' l
end
section
variable {prog : Program} {w : World} {A : Around} {C : Addr} {s : Shared} {h₀ : Heap} {L : Addr} {m : Str → Option Value} {news : List (Addr × Obj)} {R : Result → Shared → Prop} {K : Frag}
theorem make_excH {rest : List Value} {fI : Addr} (F : Fr h₀ L s.heap m) (N : News h₀ L s.heap news) (X : K.In h₀) (hm : excClsIn K C = true)
    (hi : findIn K (.ref C) "__init__" = some (some (.ref fI))) (hf : typeIn K (.ref fI) = some (.type "function")) (hrest : rest.length ≤ sizeLine)
    (k : ∀ x t h', Fr h₀ L h' m → News h₀ L h' ((x, excO C t none) :: (t, tupL rest) :: news) → (∀ p ∈ news, p.1 < t) → t < x →
      codeAny (model prog w) (A.under (.builtin "type.__call__" ⟨.ref C :: rest, []⟩)) (.call (.ref fI) ⟨.ref x :: rest, []⟩) (InitBack x R) { s with heap := h' }) :
    codeAny (model prog w) A (.call (.ref C) ⟨rest, []⟩) R s := make_exc F N (X.keeps F.keep) hm hi hf hrest k
theorem raised_sub {base G h : Heap} {l : List Env} {e : Addr} {cls : Value} {led : List (Addr × Obj)} (R : RaisedSN base G l e cls led h) (k : ∀ p ∈ news, p ∈ led) : RaisedSN base G l e cls news h := by
  obtain ⟨B, a0, hB, hBG, hl, hfl⟩ := R
  exact ⟨B, a0, hB, hBG, fun q hq => hl q (k q hq), hfl⟩
end
end
section
open PySem PySem.W PySem.Spec PySem.Calls PyProof.Rows Builtin Builtin.ObjectAttr
set_option Elab.async false
set_option maxRecDepth 100000
set_option maxHeartbeats 0
section
variable {prog : Program} {w : World} {A₀ A : Around} {s : Shared} {base h₀ : Heap} {L : Addr} {m : Str → Option Value} {news : List (Addr × Obj)} {K : Frag} {p : Program} {loose : List Str} {mean : ExcName → Option Value} {mg mb : Str → Option Value} {env : Env}
    {R : Result → Shared → Prop} {name qual : Str} {params : Arguments} {body : List Stmt} {scope : Scope} {dV kV doc pm cdv ct oc : Value} {an od : Option Addr} {osl : Array (Option Value)} {f : Addr} {args : Args} {binds : List (Str × Value)}
/-- the callee's heap, where what the caller laid is hidden: with the caller's own dict in it -/
theorem turn_back {g : Heap} {oL : Obj} {es : Array DictEntry} {ep : Nat} (F : Fr h₀ L s.heap m) (st : h₀.StaysIn g) (hg : g.get? L = some oL) (hd : oL.data = .dict es ep)
    (hn : ∀ (sl : Array (Option Value)) h', h'.get? L = some { oL with slots := sl } → Heap.Ns h' L m) (hf : env.frame = some L) {v : Value} {s' : Shared}
    (hl : LeaveS0 ([env].filterMap (·.frame)) h₀ L m g R v s') : R (.ok (.ret v)) s' := by
  obtain ⟨g', L', m', news', T', F', N', k⟩ := hl
  obtain ⟨sl, hs⟩ := T'.up hg
  have nL := kts_self F
  have far : ∀ b o, h₀.get? b = some o → g'.get? b = some o := fun b o e => T'.other b o (st b o e) fun hm => by
    rw [List.filterMap_cons, hf] at hm
    rcases List.mem_cons.mp hm with rfl | hm
    · rw [nL] at e; cases e
    · cases hm
  refine k ⟨hn sl _ (F'.keep _ _ hs), fun b o e => F'.keep b o (far b o e), F.above⟩ fun q hq => ?_
  obtain ⟨n1, n2, n3⟩ := N' q hq
  refine ⟨n1, fun z => ?_, ?_⟩
  · rw [z, hs] at n3; cases n3
  · cases c : h₀.get? q.1 with
    | none => rfl
    | some o => rw [far _ _ c] at n3; cases n3
theorem code_defT (B : Below A₀ base [] h₀) (F : Fr h₀ L s.heap m) (X₀ : K.In h₀) (N : News h₀ L s.heap news) (T : Top p loose mean mg mb h₀) (hA : A.frames = some [env]) (hf : env.frame = some L) (hke : env.scope.kind = .function)
    (ho : K.lookup f = some ⟨oc, od, .func (fnOf name qual params body scope dV kV doc pm an cdv ct), osl⟩) (hcd : codeIn K cdv qual = true) (hroom : A.depth < recursionLimit)
    (hbind : BindsTo s (fnOf name qual params body scope dV kV doc pm an cdv ct) args binds) (hloc : ∀ y ∈ binds, scope.names.lookup y.1 = some .local)
    (h : ∀ g L' h₁, Fr h₀ L g m → Fr g L' h₁ (fun y => binds.reverse.lookup y) → News g L' h₁ news → Below A base [env] g → K.In g → Top p loose mean mg mb g → KtsDicts ([env].filterMap (·.frame)) g →
      wpAny (model prog w) (A.deeper (envOf qual scope L' f cdv)) (execs body (envOf qual scope L' f cdv))
        (fun fl s' => LeaveS0 ([env].filterMap (·.frame)) h₀ L m g R (match fl with | .ret v => v | _ => .none) s')
        (fun e s' => wpAny (model prog w) (A.deeper (envOf qual scope L' f cdv)) (leaving (envOf qual scope L' f cdv) e) (fun _ s'' => R (.error e) s'') (fun e' s'' => R (.error e') s'') s')
        { s with heap := h₁, toks := s.toks + binds.length })
    (hco : scope.isCoroutine = false) (hgen : scope.isGenerator = false) (hk : scope.kind = .function)
    (hcell : ∀ x ∈ scope.names, x.2 ≠ .cell) : codeAny (model prog w) A (.call (.ref f) args) R s := by
  have X := X₀.keeps F.keep
  have off : ∀ q ∈ news.map (·.1), h₀.get? q = none ∧ q ≠ L := fun q hq => by
    obtain ⟨x, hx, rfl⟩ := List.mem_map.mp hq
    exact ⟨(N x hx).2.2, (N x hx).2.1⟩
  have st : h₀.StaysIn (hideAll s.heap (news.map (·.1))) := fun b o e => hideAll_get _ (F.keep b o e) fun hm => by
    rw [(off b hm).1] at e; cases e
  obtain ⟨oL, es, ep, hL, hd, l1, l2⟩ := F.ns
  have hg : (hideAll s.heap (news.map (·.1))).get? L = some oL := hideAll_get _ hL fun hm => (off L hm).2 rfl
  have Bg : Below A base [env] (hideAll s.heap (news.map (·.1))) := by
    refine ⟨hA, fun b o e => st b o (B.stays b o e), funFrames_hideAll (pushE B F hf hke).frames fun v hv a ha hva => ?_⟩
    rcases List.mem_cons.mp hv with rfl | hv
    · rw [hf] at hva
      exact (off a ha).2 (Option.some.inj hva).symm
    · cases hv
  have Dg : KtsDicts ([env].filterMap (·.frame)) (hideAll s.heap (news.map (·.1))) := fun b hb => by
    rw [List.filterMap_cons, hf] at hb
    rcases List.mem_cons.mp hb with rfl | hb
    · exact ⟨oL, es, ep, hg, hd⟩
    · cases hb
  refine codeAny_call_def (fd := fnOf name qual params body scope dV kV doc pm an cdv ct) (body := body) (binds := binds) hroom (X _ _ ho) rfl (T.nolimit.keeps F.keep) (codeRec_of X hcd) rfl hbind hcell hloc (fun h₁ hns hk₁ => ?_) hco hgen hk
  refine wpAny_mono (h _ s.heap.objs.size h₁ ⟨⟨oL, es, ep, hg, hd, l1, l2⟩, st, F.above⟩ ⟨hns, fun b o e => hk₁ b o (of_hideAll _ e), Nat.le_of_eq (hideAll_size _ _)⟩
    (fun q hq => ⟨hk₁ _ _ (N q hq).1, Nat.ne_of_lt (Heap.lt_size (N q hq).1), hideAll_none _ (List.mem_map_of_mem hq)⟩) Bg (X₀.keeps st) (T.keeps st) Dg)
    (fun fl s' hl => turn_back F st hg hd (fun sl h' e => ⟨_, es, ep, e, hd, l1, l2⟩) hf hl) fun _ _ y => y
end
end
local macro_rules | `(tactic| k_room) => `(tactic| ktr_room)
local macro_rules | `(tactic| ktr_room) => `(tactic| k_dflt (first | (refine room2 (by with_reducible assumption) ?_; exact rfl) | (refine room1 (by with_reducible assumption) ?_; exact rfl) | exact room0 (by with_reducible assumption) | exact Nat.le_of_ble_eq_true rfl))
local macro_rules | `(tactic| ktr_units) => `(tactic| k_dflt (first | (refine room2 (by with_reducible assumption) ?_; exact rfl) | (refine room1 (by with_reducible assumption) ?_; exact rfl) | exact room0 (by with_reducible assumption) | exact Nat.le_of_ble_eq_true rfl))
local macro_rules | `(tactic| k_mem) => `(tactic| first | exact List.Mem.head _ | ktr_member | (refine List.mem_cons_of_mem _ ?_; k_mem))
local macro_rules | `(tactic| ktr_rel) => `(tactic| first | assumption | exact sm_one | decide | exact Sm.of_le (by omega) | exact Sm.pow2 (by omega) | exact Sm.pow2b (by omega) | exact sm_sgn | exact Sm.abs (by assumption) | k_dflt ((repeat (with_reducible rename News _ _ _ _ => zN; clear zN)); (repeat (with_reducible rename Fr _ _ _ _ => zN; clear zN)); subst_vars; first | assumption | exact sm_sgn | exact Sm.abs (by assumption)))
local macro_rules | `(tactic| kwd_less) => `(tactic| k_dflt (first | assumption | (subst_vars; assumption)))
local macro_rules | `(tactic| mul_fits) => `(tactic| exact Sm.mul (by ktr_rel) (by ktr_rel))
local macro_rules | `(tactic| walk_at $s:str) => `(tactic| k_extra $s)
section
open PySem PySem.W PySem.Spec PySem.Calls PyProof.Rows
set_option Elab.async false
set_option maxRecDepth 100000
set_option maxHeartbeats 0
theorem reg_1 : True := by
  k_with_none
  k_with "lt9" => (first | with_reducible assumption | (refine ltc (by with_reducible assumption) ?_; first | exact pj1 | exact pj2 | exact pj3 | exact pj4 | exact pj5 | exact pj6 | exact pj7 | exact pj8 | exact pj9 | exact pj10 | exact pj11 | exact pj12 | exact pj13 | exact pj14 | exact qj1 | exact qj2 | exact qj3 | exact qj4 | exact qj5 | exact qj6 | exact qj7 | exact qj8 | exact qj9 | exact qj10 | exact qj11 | exact qj12 | exact qj13 | exact qj14))
  k_with "ne9" => (first | decide | (refine Nat.ne_of_lt ?_; walk_at "lt9") | (refine Nat.ne_of_gt ?_; walk_at "lt9") | exact Nat.ne_of_lt (Nat.lt_succ_self _) | exact Nat.ne_of_gt (Nat.lt_succ_self _) | (refine ne_up1 ?_; walk_at "lt9") | (refine ne_up2 ?_; walk_at "lt9") | (refine Ne.symm (ne_up1 ?_); walk_at "lt9") | (refine Ne.symm (ne_up2 ?_); walk_at "lt9"))
  trivial
-- Sm facts
theorem reg_2 : True := by
  k_with "eval Constant int" => (refine const_intN ?_)
  k_with "binaryOp Add int int" => (with_reducible refine add_intN ?_)
  k_with "binaryOp Sub int int" => (with_reducible refine sub_intN ?_)
  k_with "binaryOp Mult int int" => (with_reducible refine mul_intN ?_)
  k_with "binaryOp FloorDiv int int" => ((k_here; (with_reducible refine floordiv_intN ?feq7 ?_ (Sm.py ?fpq7)); (case feq7 => first | decide | omega | assumption); (case fpq7 => ktr_rel)))
  k_with "binaryOp LShift int int" => ((k_here; (with_reducible refine lshift_intN ?feq8 ?fpq8 ?_); (case feq8 => omega); (case fpq8 => exact Sm.shl (by ktr_rel) (by omega))))
  k_with "ite" => ((k_here; k_openite; k_spoken; first
  | (refine ite_pos (by ((try simp only [beq_iff_eq, bne_iff_ne, ne_eq, Bool.not_eq_true', beq_eq_false_iff_ne]); (try law_clear); (try subst_vars); first | assumption | exact decide_eq_true rfl | exact Int.not_le.mp (by assumption) | exact Int.not_lt.mp (by assumption) | (law_clear; omega))) ?_; walk_say "PRUNED own")
  | (refine ite_neg (by ((try simp only [beq_iff_eq, bne_iff_ne, ne_eq, Bool.not_eq_true', beq_eq_false_iff_ne]); (try law_clear); (try subst_vars); first | assumption | exact Int.not_le.mpr (by assumption) | exact Int.not_lt.mpr (by assumption) | (law_clear; omega))) ?_; walk_say "PRUNED own")))
  k_with "subscriptTail" => ((k_here; (with_reducible show wpAny _ _ (subscriptTail _ _ (Value.ref _) (Value.int _ _)) _ _ _); k_dflt (refine' item_tupleT ?tq10 ?aq10 ?bq10 ?cq10 ?dq10 ?_; (case tq10 => exact News.isTup (by k_asm) (by k_mem)); (case aq10 => decide); (case bq10 => decide); (case cq10 => rfl); (case dq10 => rfl); k_whole)))
  k_with "subscriptTail Name Constant ref int" => ((k_here; (with_reducible show wpAny _ _ (subscriptTail _ _ (Value.ref _) (Value.int _ _)) _ _ _); k_dflt (refine' item_tupleT ?tq11 ?aq11 ?bq11 ?cq11 ?dq11 ?_; (case tq11 => exact News.isTup (by k_asm) (by k_mem)); (case aq11 => decide); (case bq11 => decide); (case cq11 => rfl); (case dq11 => rfl); k_whole)))
  k_with "callWith ref" => ((k_here; k_dflt (refine' callWith_K ?k1q12 ?k2q12 ?_; (case k1q12 => k_asm); (case k2q12 => k_is); k_whole)))
  k_with "call builtin:divmod" => ((k_here; (with_reducible show wpAny _ _ (call (Value.builtin _) [Value.int _ _, Value.int _ _]) _ _ _); k_dflt (refine' divmod_N ?k1q13 ?k2q13 ?feq13 ?_ (Or.inl (Sm.py ?fpq13)); (case k1q13 => k_asm); (case k2q13 => k_asm); (case feq13 => first | omega | exact Int.ne_of_gt (Int.mul_pos (by omega) (pow2_pos _))); (case fpq13 => ktr_rel)); intro h' F' N'; (try k_sweep)))
  k_with "call builtin:max" => ((k_here; (with_reducible show wpAny _ _ (call (Value.builtin _) [Value.ref _]) _ _ _); k_dflt (first
  | (refine' max_tup ?k0q14 ?k1q14 ?k2q14 ?k3q14 ?_; (case k0q14 => exact rfl); (case k1q14 => k_asm); (case k2q14 => k_asm); (case k3q14 => exact News.isTup (by k_asm) (by k_mem)))
  | (refine' max_list4 ?k0q14 ?k1q14 ?k2q14 ?k3q14 ?_; (case k0q14 => exact rfl); (case k1q14 => k_asm); (case k2q14 => k_asm); (case k3q14 => exact News.isList (by k_asm) (by k_mem)))); k_whole; intro h' r' tk' F' N'; (try k_sweep)))
  k_with "call builtin:min" => ((k_here; (with_reducible show wpAny _ _ (call (Value.builtin _) [Value.ref _]) _ _ _); k_dflt (first
  | (refine' min_tup ?k0q15 ?k1q15 ?k2q15 ?k3q15 ?_; (case k0q15 => exact rfl); (case k1q15 => k_asm); (case k2q15 => k_asm); (case k3q15 => exact News.isTup (by k_asm) (by k_mem)))
  | (refine' min_list4 ?k0q15 ?k1q15 ?k2q15 ?k3q15 ?_; (case k0q15 => exact rfl); (case k1q15 => k_asm); (case k2q15 => k_asm); (case k3q15 => exact News.isList (by k_asm) (by k_mem)))); k_whole; intro h' r' tk' F' N'; (try k_sweep)))
  k_with "newTuple" => ((k_here; k_dflt (refine' newTupN ?Fq16 ?Nq16 ?_ ?zq16; (case Fq16 => k_asm); (case Nq16 => k_asm); (case zq16 => kmk_size)); intro D' h' F' N'; (try k_sweep)))
  trivial
section
variable {w : World} {loose : List Str} {mean : ExcName → Option Value} {mg mb : Str → Option Value}
  {dp un : Nat} {gd : Option (List Code)} {cn : Str} {cs : Scope} {a : Addr} {ccd : Value} {cl : List (Str × Addr)} {outer : List Env} {A₀ : Around} {base h₀ : Heap} {L : Addr} {m : Str → Option Value} {news : List (Addr × Obj)} {s : Shared} {Q E : Value → Shared → Prop}

theorem size_of_c {x : Int} {t1 : Tok}
  (B : Below A₀ base outer h₀) (F : Fr h₀ L s.heap m) (X : (hd.heap_1 w.params).In h₀) (N : News h₀ L s.heap (news)) (T : Top topProg loose mean mg mb h₀) (hk : cs.kind = .function)
  (hdp : dp + 3 < recursionLimit) (hun : un + 40 < cLine)
   
  (hret : ∀ z t h' tk', z = szI x → Fr h₀ L h' m → News h₀ L h' news → Q (.int z t) { s with heap := h', toks := tk' }) :
  wpAny (model Challenge.rw_nt0168_01.row.prog w) (ktrTop dp un gd cn cs L a ccd cl outer) (call (.ref 100) [.int x t1]) Q E s := by
  refine wpAny_call ?_
  k_dflt ktr_enter
  k_steps
  all_goals (refine retI hret (by assumption) (by k_asm) (by first | ((repeat (first | exact sub_refl | refine sub_cons ?_)); done) | (intro p hp; first | exact hp | (repeat (first | exact hp | refine List.mem_cons_of_mem _ ?_)))) ?_)
  all_goals (unfold szI absI; rfl)
theorem reg_3 : True := by
  k_with "call ref" => ((k_here; (with_reducible show wpAny _ _ (call (Value.ref 100) _ _) _ _ _); k_dflt (refine' size_of_c ?k1q17 ?k2q17 ?k3q17 ?k4q17 ?k5q17 ?kKq17 ?kdq17 ?kuq17   ?_; (case k1q17 => k_asm); (case k2q17 => k_asm); (case k3q17 => k_asm); (case k4q17 => k_asm); (case k5q17 => k_asm); (case kKq17 => first | exact rfl | assumption); (case kdq17 => ktr_room); (case kuq17 => ktr_units); k_whole); intro z9 t9 h9 tk9 e9 F9 N9; (try k_sweep); (try dsimp only); (try k_fold); skip))
  trivial
theorem sign_of_whole_c {x : Int} {t1 : Tok}
  (B : Below A₀ base outer h₀) (F : Fr h₀ L s.heap m) (X : (hd.heap_1 w.params).In h₀) (N : News h₀ L s.heap (news)) (T : Top topProg loose mean mg mb h₀) (hk : cs.kind = .function)
  (hdp : dp + 3 < recursionLimit) (hun : un + 40 < cLine)
   
  (hret : ∀ z t h' tk', z = sgn x → Fr h₀ L h' m → News h₀ L h' news → Q (.int z t) { s with heap := h', toks := tk' }) :
  wpAny (model Challenge.rw_nt0168_01.row.prog w) (ktrTop dp un gd cn cs L a ccd cl outer) (call (.ref 107) [.int x t1]) Q E s := by
  refine wpAny_call ?_
  k_dflt ktr_enter
  k_steps
  all_goals (refine retI hret (by assumption) (by k_asm) (by first | ((repeat (first | exact sub_refl | refine sub_cons ?_)); done) | (intro p hp; first | exact hp | (repeat (first | exact hp | refine List.mem_cons_of_mem _ ?_)))) ?_)
  all_goals (unfold sgn; rfl)
theorem reg_4 : True := by
  k_with "call ref" => ((k_here; (with_reducible show wpAny _ _ (call (Value.ref 107) _ _) _ _ _); k_dflt (refine' sign_of_whole_c ?k1q18 ?k2q18 ?k3q18 ?k4q18 ?k5q18 ?kKq18 ?kdq18 ?kuq18   ?_; (case k1q18 => k_asm); (case k2q18 => k_asm); (case k3q18 => k_asm); (case k4q18 => k_asm); (case k5q18 => k_asm); (case kKq18 => first | exact rfl | assumption); (case kdq18 => ktr_room); (case kuq18 => ktr_units); k_whole); intro z9 t9 h9 tk9 e9 F9 N9; (try k_sweep); (try dsimp only); (try k_fold); skip))
  trivial
theorem zeros_below_c {x : Int} {t1 : Tok}
  (B : Below A₀ base outer h₀) (F : Fr h₀ L s.heap m) (X : (hd.heap_1 w.params).In h₀) (N : News h₀ L s.heap (news)) (T : Top topProg loose mean mg mb h₀) (hk : cs.kind = .function)
  (hdp : dp + 3 < recursionLimit) (hun : un + 40 < cLine)
   
  (hret : ∀ z t h' tk', z = zerosI x → Fr h₀ L h' m → News h₀ L h' news → Q (.int z t) { s with heap := h', toks := tk' }) :
  wpAny (model Challenge.rw_nt0168_01.row.prog w) (ktrTop dp un gd cn cs L a ccd cl outer) (call (.ref 114) [.int x t1]) Q E s := by
  refine wpAny_call ?_
  k_dflt ktr_enter
  k_steps
  all_goals (refine retI hret (by assumption) (by k_asm) (by first | ((repeat (first | exact sub_refl | refine sub_cons ?_)); done) | (intro p hp; first | exact hp | (repeat (first | exact hp | refine List.mem_cons_of_mem _ ?_)))) ?_)
  all_goals (unfold zerosI; rfl)
theorem reg_5 : True := by
  k_with "call ref" => ((k_here; (with_reducible show wpAny _ _ (call (Value.ref 114) _ _) _ _ _); k_dflt (refine' zeros_below_c ?k1q19 ?k2q19 ?k3q19 ?k4q19 ?k5q19 ?kKq19 ?kdq19 ?kuq19   ?_; (case k1q19 => k_asm); (case k2q19 => k_asm); (case k3q19 => k_asm); (case k4q19 => k_asm); (case k5q19 => k_asm); (case kKq19 => first | exact rfl | assumption); (case kdq19 => ktr_room); (case kuq19 => ktr_units); k_whole); intro z9 t9 h9 tk9 e9 F9 N9; (try k_sweep); (try dsimp only); (try k_fold); skip))
  trivial
theorem up_shift_c {x p : Int} {t1 t2 : Tok}
  (B : Below A₀ base outer h₀) (F : Fr h₀ L s.heap m) (X : (hd.heap_1 w.params).In h₀) (N : News h₀ L s.heap (news)) (T : Top topProg loose mean mg mb h₀) (hk : cs.kind = .function)
  (hdp : dp + 3 < recursionLimit) (hun : un + 40 < cLine)
   (hp : 0 ≤ p)
  (hret : ∀ z t h' tk', z = upShift x p → Fr h₀ L h' m → News h₀ L h' news → Q (.int z t) { s with heap := h', toks := tk' }) :
  wpAny (model Challenge.rw_nt0168_01.row.prog w) (ktrTop dp un gd cn cs L a ccd cl outer) (call (.ref 177) [.int x t1, .int p t2]) Q E s := by
  refine wpAny_call ?_
  k_dflt ktr_enter
  k_steps
  all_goals (refine retI hret (by assumption) (by k_asm) (by first | ((repeat (first | exact sub_refl | refine sub_cons ?_)); done) | (intro p hp; first | exact hp | (repeat (first | exact hp | refine List.mem_cons_of_mem _ ?_)))) ?_)
  all_goals (simp only [upShift, p2_eq])
theorem reg_6 : True := by
  k_with "call ref" => ((k_here; (with_reducible show wpAny _ _ (call (Value.ref 177) _ _) _ _ _); k_dflt (refine' up_shift_c ?k1q20 ?k2q20 ?k3q20 ?k4q20 ?k5q20 ?kKq20 ?kdq20 ?kuq20  ?p0q20 ?_; (case k1q20 => k_asm); (case k2q20 => k_asm); (case k3q20 => k_asm); (case k4q20 => k_asm); (case k5q20 => k_asm); (case kKq20 => first | exact rfl | assumption); (case kdq20 => ktr_room); (case kuq20 => ktr_units); (case p0q20 => first | with_reducible assumption | omega); k_whole); intro z9 t9 h9 tk9 e9 F9 N9; (try k_sweep); (try dsimp only); (try k_fold); skip))
  trivial
theorem up_over_c {x b : Int} {t1 t2 : Tok}
  (B : Below A₀ base outer h₀) (F : Fr h₀ L s.heap m) (X : (hd.heap_1 w.params).In h₀) (N : News h₀ L s.heap (news)) (T : Top topProg loose mean mg mb h₀) (hk : cs.kind = .function)
  (hdp : dp + 3 < recursionLimit) (hun : un + 40 < cLine)
   (hb : 0 < b) (hs : Sm b)
  (hret : ∀ z t h' tk', z = upOver x b → Fr h₀ L h' m → News h₀ L h' news → Q (.int z t) { s with heap := h', toks := tk' }) :
  wpAny (model Challenge.rw_nt0168_01.row.prog w) (ktrTop dp un gd cn cs L a ccd cl outer) (call (.ref 184) [.int x t1, .int b t2]) Q E s := by
  refine wpAny_call ?_
  k_dflt ktr_enter
  k_steps
  all_goals (refine retI hret (by assumption) (by k_asm) (by first | ((repeat (first | exact sub_refl | refine sub_cons ?_)); done) | (intro p hp; first | exact hp | (repeat (first | exact hp | refine List.mem_cons_of_mem _ ?_)))) ?_)
  all_goals (unfold upOver; rfl)
theorem reg_7 : True := by
  k_with "call ref" => ((k_here; (with_reducible show wpAny _ _ (call (Value.ref 184) _ _) _ _ _); k_dflt (refine' up_over_c ?k1q21 ?k2q21 ?k3q21 ?k4q21 ?k5q21 ?kKq21 ?kdq21 ?kuq21  ?p0q21 ?p1q21 ?_; (case k1q21 => k_asm); (case k2q21 => k_asm); (case k3q21 => k_asm); (case k4q21 => k_asm); (case k5q21 => k_asm); (case kKq21 => first | exact rfl | assumption); (case kdq21 => ktr_room); (case kuq21 => ktr_units); (case p0q21 => first | with_reducible assumption | omega); (case p1q21 => ktr_rel); k_whole); intro z9 t9 h9 tk9 e9 F9 N9; (try k_sweep); (try dsimp only); (try k_fold); skip))
  trivial
theorem with_sticky_c {x : Int} {b : Bool} {t1 : Tok}
  (B : Below A₀ base outer h₀) (F : Fr h₀ L s.heap m) (X : (hd.heap_1 w.params).In h₀) (N : News h₀ L s.heap (news)) (T : Top topProg loose mean mg mb h₀) (hk : cs.kind = .function)
  (hdp : dp + 3 < recursionLimit) (hun : un + 40 < cLine)
   
  (hret : ∀ z t h' tk', z = stickyI x b → Fr h₀ L h' m → News h₀ L h' news → Q (.int z t) { s with heap := h', toks := tk' }) :
  wpAny (model Challenge.rw_nt0168_01.row.prog w) (ktrTop dp un gd cn cs L a ccd cl outer) (call (.ref 142) [.int x t1, .bool b]) Q E s := by
  refine wpAny_call ?_
  k_dflt ktr_enter
  k_steps
  all_goals (refine retI hret (by assumption) (by k_asm) (by first | ((repeat (first | exact sub_refl | refine sub_cons ?_)); done) | (intro p hp; first | exact hp | (repeat (first | exact hp | refine List.mem_cons_of_mem _ ?_)))) ?_)
  all_goals (simp_all [stickyI])
theorem reg_8 : True := by
  k_with "call ref" => ((k_here; (with_reducible show wpAny _ _ (call (Value.ref 142) _ _) _ _ _); k_dflt (refine' with_sticky_c ?k1q22 ?k2q22 ?k3q22 ?k4q22 ?k5q22 ?kKq22 ?kdq22 ?kuq22   ?_; (case k1q22 => k_asm); (case k2q22 => k_asm); (case k3q22 => k_asm); (case k4q22 => k_asm); (case k5q22 => k_asm); (case kKq22 => first | exact rfl | assumption); (case kdq22 => ktr_room); (case kuq22 => ktr_units); k_whole); intro z9 t9 h9 tk9 e9 F9 N9; (try k_sweep); (try dsimp only); (try k_fold); skip))
  trivial
theorem nearest_shift_c {x p : Int} {t1 t2 : Tok}
  (B : Below A₀ base outer h₀) (F : Fr h₀ L s.heap m) (X : (hd.heap_1 w.params).In h₀) (N : News h₀ L s.heap (news)) (T : Top topProg loose mean mg mb h₀) (hk : cs.kind = .function)
  (hdp : dp + 3 < recursionLimit) (hun : un + 40 < cLine)
   (hp : 1 ≤ p) (hq : p < 9000)
  (hret : ∀ z t h' tk', z = nearI x p → Fr h₀ L h' m → News h₀ L h' news → Q (.int z t) { s with heap := h', toks := tk' }) :
  wpAny (model Challenge.rw_nt0168_01.row.prog w) (ktrTop dp un gd cn cs L a ccd cl outer) (call (.ref 128) [.int x t1, .int p t2]) Q E s := by
  refine wpAny_call ?_
  k_dflt ktr_enter
  k_steps
  all_goals (refine retI hret (by assumption) (by k_asm) (by first | ((repeat (first | exact sub_refl | refine sub_cons ?_)); done) | (intro p hp; first | exact hp | (repeat (first | exact hp | refine List.mem_cons_of_mem _ ?_)))) ?_)
  all_goals (first | (simp_all [nearI, p2_eq]; done) | (simp_all [nearI, p2_eq]; omega))
theorem reg_9 : True := by
  k_with "call ref" => ((k_here; (with_reducible show wpAny _ _ (call (Value.ref 128) _ _) _ _ _); k_dflt (refine' nearest_shift_c ?k1q23 ?k2q23 ?k3q23 ?k4q23 ?k5q23 ?kKq23 ?kdq23 ?kuq23  ?p0q23 ?p1q23 ?_; (case k1q23 => k_asm); (case k2q23 => k_asm); (case k3q23 => k_asm); (case k4q23 => k_asm); (case k5q23 => k_asm); (case kKq23 => first | exact rfl | assumption); (case kdq23 => ktr_room); (case kuq23 => ktr_units); (case p0q23 => first | with_reducible assumption | omega); (case p1q23 => first | with_reducible assumption | omega); k_whole); intro z9 t9 h9 tk9 e9 F9 N9; (try k_sweep); (try dsimp only); (try k_fold); skip))
  trivial
theorem more_of_c {x1 y1 x2 y2 : Int} {t1 u1 t2 u2 : Tok} {a1 a2 : Addr}
  (B : Below A₀ base outer h₀) (F : Fr h₀ L s.heap m) (X : (hd.heap_1 w.params).In h₀) (N : News h₀ L s.heap (news)) (T : Top topProg loose mean mg mb h₀) (hk : cs.kind = .function)
  (hdp : dp + 3 < recursionLimit) (hun : un + 40 < cLine)
  (Ma1 : (a1, tupO x1 t1 y1 u1) ∈ news) (Ma2 : (a2, tupO x2 t2 y2 u2) ∈ news) 
  (hret : ∀ r z1 z2 u1 u2 h' tk', z1 = (moreI (x1, y1) (x2, y2)).1 → z2 = (moreI (x1, y1) (x2, y2)).2 → Fr h₀ L h' m → News h₀ L h' ((r, tupO z1 u1 z2 u2) :: news) → Q (.ref r) { s with heap := h', toks := tk' }) :
  wpAny (model Challenge.rw_nt0168_01.row.prog w) (ktrTop dp un gd cn cs L a ccd cl outer) (call (.ref 198) [.ref a1, .ref a2]) Q E s := by
  refine wpAny_call ?_
  k_dflt ktr_enter
  k_steps
  all_goals (refine retT hret (by assumption) (by k_asm) (by k_mem) (by first | ((repeat (first | exact sub_refl | refine sub_cons ?_)); done) | (intro p hp; first | exact hp | (repeat (first | exact hp | refine List.mem_cons_of_mem _ ?_)))) ?_)
  all_goals (unfold moreI; rfl)
theorem reg_10 : True := by
  k_with "call ref" => ((k_here; (with_reducible show wpAny _ _ (call (Value.ref 198) _ _) _ _ _); k_dflt (refine' more_of_c ?k1q24 ?k2q24 ?k3q24 ?k4q24 ?k5q24 ?kKq24 ?kdq24 ?kuq24 ?m0q24 ?m1q24  ?_; (case k1q24 => k_asm); (case k2q24 => k_asm); (case k3q24 => k_asm); (case k4q24 => k_asm); (case k5q24 => k_asm); (case kKq24 => first | exact rfl | assumption); (case kdq24 => ktr_room); (case kuq24 => ktr_units); (case m0q24 => k_mem); (case m1q24 => k_mem); k_whole); intro r9 z9 y9 t9 u9 h9 tk9 e9 f9 F9 N9; (try k_sweep); (try dsimp only); (try k_fold); skip))
  trivial
theorem less_of_c {x1 y1 x2 y2 : Int} {t1 u1 t2 u2 : Tok} {a1 a2 : Addr}
  (B : Below A₀ base outer h₀) (F : Fr h₀ L s.heap m) (X : (hd.heap_1 w.params).In h₀) (N : News h₀ L s.heap (news)) (T : Top topProg loose mean mg mb h₀) (hk : cs.kind = .function)
  (hdp : dp + 3 < recursionLimit) (hun : un + 40 < cLine)
  (Ma1 : (a1, tupO x1 t1 y1 u1) ∈ news) (Ma2 : (a2, tupO x2 t2 y2 u2) ∈ news) 
  (hret : ∀ r z1 z2 u1 u2 h' tk', z1 = (lessI (x1, y1) (x2, y2)).1 → z2 = (lessI (x1, y1) (x2, y2)).2 → Fr h₀ L h' m → News h₀ L h' ((r, tupO z1 u1 z2 u2) :: news) → Q (.ref r) { s with heap := h', toks := tk' }) :
  wpAny (model Challenge.rw_nt0168_01.row.prog w) (ktrTop dp un gd cn cs L a ccd cl outer) (call (.ref 205) [.ref a1, .ref a2]) Q E s := by
  refine wpAny_call ?_
  k_dflt ktr_enter
  k_steps
  all_goals (refine retT hret (by assumption) (by k_asm) (by k_mem) (by first | ((repeat (first | exact sub_refl | refine sub_cons ?_)); done) | (intro p hp; first | exact hp | (repeat (first | exact hp | refine List.mem_cons_of_mem _ ?_)))) ?_)
  all_goals (unfold lessI; rfl)
theorem reg_11 : True := by
  k_with "call ref" => ((k_here; (with_reducible show wpAny _ _ (call (Value.ref 205) _ _) _ _ _); k_dflt (refine' less_of_c ?k1q25 ?k2q25 ?k3q25 ?k4q25 ?k5q25 ?kKq25 ?kdq25 ?kuq25 ?m0q25 ?m1q25  ?_; (case k1q25 => k_asm); (case k2q25 => k_asm); (case k3q25 => k_asm); (case k4q25 => k_asm); (case k5q25 => k_asm); (case kKq25 => first | exact rfl | assumption); (case kdq25 => ktr_room); (case kuq25 => ktr_units); (case m0q25 => k_mem); (case m1q25 => k_mem); k_whole); intro r9 z9 y9 t9 u9 h9 tk9 e9 f9 F9 N9; (try k_sweep); (try dsimp only); (try k_fold); skip))
  trivial
theorem often_c {x1 y1 z : Int} {t1 u1 t3 : Tok} {a1 : Addr}
  (B : Below A₀ base outer h₀) (F : Fr h₀ L s.heap m) (X : (hd.heap_1 w.params).In h₀) (N : News h₀ L s.heap (news)) (T : Top topProg loose mean mg mb h₀) (hk : cs.kind = .function)
  (hdp : dp + 3 < recursionLimit) (hun : un + 40 < cLine)
  (Ma1 : (a1, tupO x1 t1 y1 u1) ∈ news) (h1 : IntMulOk x1 z) (h2 : IntMulOk y1 z)
  (hret : ∀ r z1 z2 u1 u2 h' tk', z1 = (oftenI (x1, y1) z).1 → z2 = (oftenI (x1, y1) z).2 → Fr h₀ L h' m → News h₀ L h' ((r, tupO z1 u1 z2 u2) :: news) → Q (.ref r) { s with heap := h', toks := tk' }) :
  wpAny (model Challenge.rw_nt0168_01.row.prog w) (ktrTop dp un gd cn cs L a ccd cl outer) (call (.ref 212) [.ref a1, .int z t3]) Q E s := by
  refine wpAny_call ?_
  k_dflt ktr_enter
  k_steps
  all_goals (refine retT hret (by assumption) (by k_asm) (by k_mem) (by first | ((repeat (first | exact sub_refl | refine sub_cons ?_)); done) | (intro p hp; first | exact hp | (repeat (first | exact hp | refine List.mem_cons_of_mem _ ?_)))) ?_)
  all_goals (unfold oftenI; rfl)
theorem reg_12 : True := by
  k_with "call ref" => ((k_here; (with_reducible show wpAny _ _ (call (Value.ref 212) _ _) _ _ _); k_dflt (refine' often_c ?k1q26 ?k2q26 ?k3q26 ?k4q26 ?k5q26 ?kKq26 ?kdq26 ?kuq26 ?m0q26 ?p0q26 ?p1q26 ?_; (case k1q26 => k_asm); (case k2q26 => k_asm); (case k3q26 => k_asm); (case k4q26 => k_asm); (case k5q26 => k_asm); (case kKq26 => first | exact rfl | assumption); (case kdq26 => ktr_room); (case kuq26 => ktr_units); (case m0q26 => k_mem); (case p0q26 => mul_fits); (case p1q26 => mul_fits); k_whole); intro r9 z9 y9 t9 u9 h9 tk9 e9 f9 F9 N9; (try k_sweep); (try dsimp only); (try k_fold); skip))
  trivial
theorem widened_c {x1 y1 z : Int} {t1 u1 t3 : Tok} {a1 : Addr}
  (B : Below A₀ base outer h₀) (F : Fr h₀ L s.heap m) (X : (hd.heap_1 w.params).In h₀) (N : News h₀ L s.heap (news)) (T : Top topProg loose mean mg mb h₀) (hk : cs.kind = .function)
  (hdp : dp + 3 < recursionLimit) (hun : un + 40 < cLine)
  (Ma1 : (a1, tupO x1 t1 y1 u1) ∈ news) 
  (hret : ∀ r z1 z2 u1 u2 h' tk', z1 = (widI (x1, y1) z).1 → z2 = (widI (x1, y1) z).2 → Fr h₀ L h' m → News h₀ L h' ((r, tupO z1 u1 z2 u2) :: news) → Q (.ref r) { s with heap := h', toks := tk' }) :
  wpAny (model Challenge.rw_nt0168_01.row.prog w) (ktrTop dp un gd cn cs L a ccd cl outer) (call (.ref 233) [.ref a1, .int z t3]) Q E s := by
  refine wpAny_call ?_
  k_dflt ktr_enter
  k_steps
  all_goals (refine retT hret (by assumption) (by k_asm) (by k_mem) (by first | ((repeat (first | exact sub_refl | refine sub_cons ?_)); done) | (intro p hp; first | exact hp | (repeat (first | exact hp | refine List.mem_cons_of_mem _ ?_)))) ?_)
  all_goals (unfold widI; rfl)
theorem reg_13 : True := by
  k_with "call ref" => ((k_here; (with_reducible show wpAny _ _ (call (Value.ref 233) _ _) _ _ _); k_dflt (refine' widened_c ?k1q27 ?k2q27 ?k3q27 ?k4q27 ?k5q27 ?kKq27 ?kdq27 ?kuq27 ?m0q27  ?_; (case k1q27 => k_asm); (case k2q27 => k_asm); (case k3q27 => k_asm); (case k4q27 => k_asm); (case k5q27 => k_asm); (case kKq27 => first | exact rfl | assumption); (case kdq27 => ktr_room); (case kuq27 => ktr_units); (case m0q27 => k_mem); k_whole); intro r9 z9 y9 t9 u9 h9 tk9 e9 f9 F9 N9; (try k_sweep); (try dsimp only); (try k_fold); skip))
  trivial
theorem greatest_of_c {x1 y1 : Int} {t1 u1 : Tok} {a1 : Addr}
  (B : Below A₀ base outer h₀) (F : Fr h₀ L s.heap m) (X : (hd.heap_1 w.params).In h₀) (N : News h₀ L s.heap (news)) (T : Top topProg loose mean mg mb h₀) (hk : cs.kind = .function)
  (hdp : dp + 3 < recursionLimit) (hun : un + 40 < cLine)
  (Ma1 : (a1, tupO x1 t1 y1 u1) ∈ news) 
  (hret : ∀ z t h' tk', z = greatI (x1, y1) → Fr h₀ L h' m → News h₀ L h' news → Q (.int z t) { s with heap := h', toks := tk' }) :
  wpAny (model Challenge.rw_nt0168_01.row.prog w) (ktrTop dp un gd cn cs L a ccd cl outer) (call (.ref 240) [.ref a1]) Q E s := by
  refine wpAny_call ?_
  k_dflt ktr_enter
  k_steps
  all_goals (refine retI hret (by assumption) (by k_asm) (by first | ((repeat (first | exact sub_refl | refine sub_cons ?_)); done) | (intro p hp; first | exact hp | (repeat (first | exact hp | refine List.mem_cons_of_mem _ ?_)))) ?_)
  all_goals (unfold greatI maxI absI; rfl)
theorem reg_14 : True := by
  k_with "call ref" => ((k_here; (with_reducible show wpAny _ _ (call (Value.ref 240) _ _) _ _ _); k_dflt (refine' greatest_of_c ?k1q28 ?k2q28 ?k3q28 ?k4q28 ?k5q28 ?kKq28 ?kdq28 ?kuq28 ?m0q28  ?_; (case k1q28 => k_asm); (case k2q28 => k_asm); (case k3q28 => k_asm); (case k4q28 => k_asm); (case k5q28 => k_asm); (case kKq28 => first | exact rfl | assumption); (case kdq28 => ktr_room); (case kuq28 => ktr_units); (case m0q28 => k_mem); k_whole); intro z9 t9 h9 tk9 e9 F9 N9; (try k_sweep); (try dsimp only); (try k_fold); skip))
  trivial
theorem part_of_c {x1 y1 z : Int} {t1 u1 t3 : Tok} {a1 : Addr}
  (B : Below A₀ base outer h₀) (F : Fr h₀ L s.heap m) (X : (hd.heap_1 w.params).In h₀) (N : News h₀ L s.heap (news)) (T : Top topProg loose mean mg mb h₀) (hk : cs.kind = .function)
  (hdp : dp + 6 < recursionLimit) (hun : un + 80 < cLine)
  (Ma1 : (a1, tupO x1 t1 y1 u1) ∈ news) (h1 : 0 < z) (h2 : Sm z)
  (hret : ∀ r z1 z2 u1 u2 h' tk', z1 = (partI (x1, y1) z).1 → z2 = (partI (x1, y1) z).2 → Fr h₀ L h' m → News h₀ L h' ((r, tupO z1 u1 z2 u2) :: news) → Q (.ref r) { s with heap := h', toks := tk' }) :
  wpAny (model Challenge.rw_nt0168_01.row.prog w) (ktrTop dp un gd cn cs L a ccd cl outer) (call (.ref 226) [.ref a1, .int z t3]) Q E s := by
  refine wpAny_call ?_
  k_dflt ktr_enter
  k_steps
  all_goals (refine retT hret (by assumption) (by k_asm) (by k_mem) (by first | ((repeat (first | exact sub_refl | refine sub_cons ?_)); done) | (intro p hp; first | exact hp | (repeat (first | exact hp | refine List.mem_cons_of_mem _ ?_)))) ?_)
  all_goals ((try law_clear); subst_vars; unfold partI; rfl)
theorem reg_15 : True := by
  k_with "call ref" => ((k_here; (with_reducible show wpAny _ _ (call (Value.ref 226) _ _) _ _ _); k_dflt (refine' part_of_c ?k1q29 ?k2q29 ?k3q29 ?k4q29 ?k5q29 ?kKq29 ?kdq29 ?kuq29 ?m0q29 ?p0q29 ?p1q29 ?_; (case k1q29 => k_asm); (case k2q29 => k_asm); (case k3q29 => k_asm); (case k4q29 => k_asm); (case k5q29 => k_asm); (case kKq29 => first | exact rfl | assumption); (case kdq29 => ktr_room); (case kuq29 => ktr_units); (case m0q29 => k_mem); (case p0q29 => first | with_reducible assumption | omega); (case p1q29 => ktr_rel); k_whole); intro r9 z9 y9 t9 u9 h9 tk9 e9 f9 F9 N9; (try k_sweep); (try dsimp only); (try k_fold); skip))
  trivial
theorem product_of_c {p : Int} {t3 : Tok} {x1 y1 x2 y2 : Int} {t1 u1 t2 u2 : Tok} {a1 a2 : Addr}
  (B : Below A₀ base outer h₀) (F : Fr h₀ L s.heap m) (X : (hd.heap_1 w.params).In h₀) (N : News h₀ L s.heap (news)) (T : Top topProg loose mean mg mb h₀) (hk : cs.kind = .function)
  (hdp : dp + 6 < recursionLimit) (hun : un + 80 < cLine)
  (Ma1 : (a1, tupO x1 t1 y1 u1) ∈ news) (Ma2 : (a2, tupO x2 t2 y2 u2) ∈ news) (h0 : 0 ≤ p) (h1 : Sm x1) (h2 : Sm y1) (h3 : Sm x2) (h4 : Sm y2)
  (hret : ∀ r z1 z2 u1 u2 h' tk', z1 = (prodI p (x1, y1) (x2, y2)).1 → z2 = (prodI p (x1, y1) (x2, y2)).2 → Fr h₀ L h' m → News h₀ L h' ((r, tupO z1 u1 z2 u2) :: news) → Q (.ref r) { s with heap := h', toks := tk' }) :
  wpAny (model Challenge.rw_nt0168_01.row.prog w) (ktrTop dp un gd cn cs L a ccd cl outer) (call (.ref 219) [.int p t3, .ref a1, .ref a2]) Q E s := by
  refine wpAny_call ?_
  k_dflt ktr_enter
  k_steps
  all_goals (refine retT hret (by assumption) (by k_asm) (by k_mem) (by first | ((repeat (first | exact sub_refl | refine sub_cons ?_)); done) | (intro p hp; first | exact hp | (repeat (first | exact hp | refine List.mem_cons_of_mem _ ?_)))) ?_)
  all_goals ((try law_clear); subst_vars; simp only [prodI, p2_eq])
theorem reg_16 : True := by
  k_with "call ref" => ((k_here; (with_reducible show wpAny _ _ (call (Value.ref 219) _ _) _ _ _); k_dflt (refine' product_of_c ?k1q30 ?k2q30 ?k3q30 ?k4q30 ?k5q30 ?kKq30 ?kdq30 ?kuq30 ?m0q30 ?m1q30 ?p0q30 ?p1q30 ?p2q30 ?p3q30 ?p4q30 ?_; (case k1q30 => k_asm); (case k2q30 => k_asm); (case k3q30 => k_asm); (case k4q30 => k_asm); (case k5q30 => k_asm); (case kKq30 => first | exact rfl | assumption); (case kdq30 => ktr_room); (case kuq30 => ktr_units); (case m0q30 => k_mem); (case m1q30 => k_mem); (case p0q30 => first | with_reducible assumption | omega); (case p1q30 => ktr_rel); (case p2q30 => ktr_rel); (case p3q30 => ktr_rel); (case p4q30 => ktr_rel); k_whole); intro r9 z9 y9 t9 u9 h9 tk9 e9 f9 F9 N9; (try k_sweep); (try dsimp only); (try k_fold); skip))
  trivial
theorem fraction_bounds_c {p x b : Int} {t1 t2 t3 : Tok}
  (B : Below A₀ base outer h₀) (F : Fr h₀ L s.heap m) (X : (hd.heap_1 w.params).In h₀) (N : News h₀ L s.heap (news)) (T : Top topProg loose mean mg mb h₀) (hk : cs.kind = .function)
  (hdp : dp + 6 < recursionLimit) (hun : un + 80 < cLine)
   (h0 : 0 ≤ p) (h1 : p < 9000) (h2 : Sm x) (h3 : 0 < b) (h4 : Sm b)
  (hret : ∀ r z1 z2 u1 u2 h' tk', z1 = (fracB p x b).1 → z2 = (fracB p x b).2 → Fr h₀ L h' m → News h₀ L h' ((r, tupO z1 u1 z2 u2) :: news) → Q (.ref r) { s with heap := h', toks := tk' }) :
  wpAny (model Challenge.rw_nt0168_01.row.prog w) (ktrTop dp un gd cn cs L a ccd cl outer) (call (.ref 191) [.int p t1, .int x t2, .int b t3]) Q E s := by
  refine wpAny_call ?_
  k_dflt ktr_enter
  k_steps
  all_goals (refine retT hret (by assumption) (by k_asm) (by k_mem) (by first | ((repeat (first | exact sub_refl | refine sub_cons ?_)); done) | (intro p hp; first | exact hp | (repeat (first | exact hp | refine List.mem_cons_of_mem _ ?_)))) ?_)
  all_goals ((try law_clear); subst_vars; simp only [fracB, p2_eq])
theorem reg_17 : True := by
  k_with "call ref" => ((k_here; (with_reducible show wpAny _ _ (call (Value.ref 191) _ _) _ _ _); k_dflt (refine' fraction_bounds_c ?k1q31 ?k2q31 ?k3q31 ?k4q31 ?k5q31 ?kKq31 ?kdq31 ?kuq31  ?p0q31 ?p1q31 ?p2q31 ?p3q31 ?p4q31 ?_; (case k1q31 => k_asm); (case k2q31 => k_asm); (case k3q31 => k_asm); (case k4q31 => k_asm); (case k5q31 => k_asm); (case kKq31 => first | exact rfl | assumption); (case kdq31 => ktr_room); (case kuq31 => ktr_units); (case p0q31 => first | with_reducible assumption | omega); (case p1q31 => first | with_reducible assumption | omega); (case p2q31 => ktr_rel); (case p3q31 => first | with_reducible assumption | omega); (case p4q31 => ktr_rel); k_whole); intro r9 z9 y9 t9 u9 h9 tk9 e9 f9 F9 N9; (try k_sweep); (try dsimp only); (try k_fold); skip))
  trivial
theorem real_c {x y : Int} {t1 t2 : Tok}
  (B : Below A₀ base outer h₀) (F : Fr h₀ L s.heap m) (X : (hd.heap_1 w.params).In h₀) (N : News h₀ L s.heap (news)) (T : Top topProg loose mean mg mb h₀) (hk : cs.kind = .function)
  (hdp : dp + 3 < recursionLimit) (hun : un + 40 < cLine)
   
  (hret : ∀ r d z1 z2 j u1 k u2 h' tk', z1 = ((x, y)).1 → z2 = ((x, y)).2 → Fr h₀ L h' m → News h₀ L h' ((r, instObj (nat_lit 89) d) :: (d, realO w j z1 u1 k z2 u2) :: news) → Q (.ref r) { s with heap := h', toks := tk' }) :
  wpAny (model Challenge.rw_nt0168_01.row.prog w) (ktrTop dp un gd cn cs L a ccd cl outer) (call (.ref 89) [.int x t1, .int y t2]) Q E s := by
  k_dflt (refine' call_cls ?k1 ?k2 ?k3 ?k4 ?k5 ?k6 ?_; (case k1 => k_asm); (case k2 => k_asm); (case k3 => k_asm); (case k4 => k_is); (case k5 => k_is); (case k6 => k_is); k_whole; intro x' d' h' F' N' l1 l2; (try (replace l1 := allLt_of l1; dsimp only [AllLt] at l1)); (try k_lt2 l2); (try k_sweep); ktr_enter)
  k_steps
  all_goals (refine retR hret (by assumption) (by k_asm) (by k_mem) (by k_mem) (by first | ((repeat (first | exact sub_refl | refine sub_cons ?_)); done) | (intro p hp; first | exact hp | (repeat (first | exact hp | refine List.mem_cons_of_mem _ ?_)))) ?_)
  all_goals rfl
theorem reg_18 : True := by
  k_with "call ref" => ((k_here; (with_reducible show wpAny _ _ (call (Value.ref 89) _ _) _ _ _); k_dflt (refine' real_c ?k1q32 ?k2q32 ?k3q32 ?k4q32 ?k5q32 ?kKq32 ?kdq32 ?kuq32   ?_; (case k1q32 => k_asm); (case k2q32 => k_asm); (case k3q32 => k_asm); (case k4q32 => k_asm); (case k5q32 => k_asm); (case kKq32 => first | exact rfl | assumption); (case kdq32 => ktr_room); (case kuq32 => ktr_units); k_whole); intro r9 d9 z9 y9 j9 t9 i9 u9 h9 tk9 e9 f9 F9 N9; (try k_sweep); (try dsimp only); (try k_fold); skip))
  trivial
theorem place_of_c {x1 y1 : Int} {j1 t1 k1 u1 : Tok} {a1 d1 : Addr}
  (B : Below A₀ base outer h₀) (F : Fr h₀ L s.heap m) (X : (hd.heap_1 w.params).In h₀) (N : News h₀ L s.heap (news)) (T : Top topProg loose mean mg mb h₀) (hk : cs.kind = .function)
  (hdp : dp + 6 < recursionLimit) (hun : un + 80 < cLine)
  (Ma1 : (a1, instObj (nat_lit 89) d1) ∈ news) (Md1 : (d1, realO w j1 x1 t1 k1 y1 u1) ∈ news) 
  (hret : ∀ z t h' tk', z = placeI x1 y1 → Fr h₀ L h' m → News h₀ L h' news → Q (.int z t) { s with heap := h', toks := tk' }) :
  wpAny (model Challenge.rw_nt0168_01.row.prog w) (ktrTop dp un gd cn cs L a ccd cl outer) (call (.ref 156) [.ref a1]) Q E s := by
  refine wpAny_call ?_
  k_dflt ktr_enter
  k_steps
  all_goals (refine retI hret (by assumption) (by k_asm) (by first | ((repeat (first | exact sub_refl | refine sub_cons ?_)); done) | (intro p hp; first | exact hp | (repeat (first | exact hp | refine List.mem_cons_of_mem _ ?_)))) ?_)
  all_goals (simp only [placeI, *])
theorem reg_19 : True := by
  k_with "call ref" => ((k_here; (with_reducible show wpAny _ _ (call (Value.ref 156) _ _) _ _ _); k_dflt (refine' place_of_c ?k1q33 ?k2q33 ?k3q33 ?k4q33 ?k5q33 ?kKq33 ?kdq33 ?kuq33 ?m0q33 ?m1q33  ?_; (case k1q33 => k_asm); (case k2q33 => k_asm); (case k3q33 => k_asm); (case k4q33 => k_asm); (case k5q33 => k_asm); (case kKq33 => first | exact rfl | assumption); (case kdq33 => ktr_room); (case kuq33 => ktr_units); (case m0q33 => k_mem); (case m1q33 => k_mem); k_whole); intro z9 t9 h9 tk9 e9 F9 N9; (try k_sweep); (try dsimp only); (try k_fold); skip))
  trivial
theorem sign_of_c {x1 y1 : Int} {j1 t1 k1 u1 : Tok} {a1 d1 : Addr}
  (B : Below A₀ base outer h₀) (F : Fr h₀ L s.heap m) (X : (hd.heap_1 w.params).In h₀) (N : News h₀ L s.heap (news)) (T : Top topProg loose mean mg mb h₀) (hk : cs.kind = .function)
  (hdp : dp + 6 < recursionLimit) (hun : un + 80 < cLine)
  (Ma1 : (a1, instObj (nat_lit 89) d1) ∈ news) (Md1 : (d1, realO w j1 x1 t1 k1 y1 u1) ∈ news) 
  (hret : ∀ z t h' tk', z = sgn x1 → Fr h₀ L h' m → News h₀ L h' news → Q (.int z t) { s with heap := h', toks := tk' }) :
  wpAny (model Challenge.rw_nt0168_01.row.prog w) (ktrTop dp un gd cn cs L a ccd cl outer) (call (.ref 163) [.ref a1]) Q E s := by
  refine wpAny_call ?_
  k_dflt ktr_enter
  k_steps
  all_goals (refine retI hret (by assumption) (by k_asm) (by first | ((repeat (first | exact sub_refl | refine sub_cons ?_)); done) | (intro p hp; first | exact hp | (repeat (first | exact hp | refine List.mem_cons_of_mem _ ?_)))) ?_)
  all_goals (assumption)
theorem reg_20 : True := by
  k_with "call ref" => ((k_here; (with_reducible show wpAny _ _ (call (Value.ref 163) _ _) _ _ _); k_dflt (refine' sign_of_c ?k1q34 ?k2q34 ?k3q34 ?k4q34 ?k5q34 ?kKq34 ?kdq34 ?kuq34 ?m0q34 ?m1q34  ?_; (case k1q34 => k_asm); (case k2q34 => k_asm); (case k3q34 => k_asm); (case k4q34 => k_asm); (case k5q34 => k_asm); (case kKq34 => first | exact rfl | assumption); (case kdq34 => ktr_room); (case kuq34 => ktr_units); (case m0q34 => k_mem); (case m1q34 => k_mem); k_whole); intro z9 t9 h9 tk9 e9 F9 N9; (try k_sweep); (try dsimp only); (try k_fold); skip))
  trivial
theorem same_real_c {x1 y1 x2 y2 : Int} {j1 t1 k1 u1 j2 t2 k2 u2 : Tok} {a1 d1 a2 d2 : Addr}
  (B : Below A₀ base outer h₀) (F : Fr h₀ L s.heap m) (X : (hd.heap_1 w.params).In h₀) (N : News h₀ L s.heap (news)) (T : Top topProg loose mean mg mb h₀) (hk : cs.kind = .function)
  (hdp : dp + 3 < recursionLimit) (hun : un + 40 < cLine)
  (Ma1 : (a1, instObj (nat_lit 89) d1) ∈ news) (Md1 : (d1, realO w j1 x1 t1 k1 y1 u1) ∈ news) (Ma2 : (a2, instObj (nat_lit 89) d2) ∈ news) (Md2 : (d2, realO w j2 x2 t2 k2 y2 u2) ∈ news) 
  (hret : ∀ h' tk', Fr h₀ L h' m → News h₀ L h' news → Q (.bool (decide ((x1, y1) = (x2, y2)))) { s with heap := h', toks := tk' }) :
  wpAny (model Challenge.rw_nt0168_01.row.prog w) (ktrTop dp un gd cn cs L a ccd cl outer) (call (.ref 170) [.ref a1, .ref a2]) Q E s := by
  refine wpAny_call ?_
  k_dflt ktr_enter
  k_steps
  all_goals (refine retB hret (by assumption) (by k_asm) (by first | ((repeat (first | exact sub_refl | refine sub_cons ?_)); done) | (intro p hp; first | exact hp | (repeat (first | exact hp | refine List.mem_cons_of_mem _ ?_)))) ?_)
  all_goals (first | (simp_all; done) | (simp_all; rfl))
theorem reg_21 : True := by
  k_with "call ref" => ((k_here; (with_reducible show wpAny _ _ (call (Value.ref 170) _ _) _ _ _); k_dflt (refine' same_real_c ?k1q35 ?k2q35 ?k3q35 ?k4q35 ?k5q35 ?kKq35 ?kdq35 ?kuq35 ?m0q35 ?m1q35 ?m2q35 ?m3q35  ?_; (case k1q35 => k_asm); (case k2q35 => k_asm); (case k3q35 => k_asm); (case k4q35 => k_asm); (case k5q35 => k_asm); (case kKq35 => first | exact rfl | assumption); (case kdq35 => ktr_room); (case kuq35 => ktr_units); (case m0q35 => k_mem); (case m1q35 => k_mem); (case m2q35 => k_mem); (case m3q35 => k_mem); k_whole); intro h9 tk9 F9 N9; (try k_sweep); (try dsimp only); (try k_fold); skip))
  trivial
theorem fraction_of_c {x1 y1 : Int} {j1 t1 k1 u1 : Tok} {a1 d1 : Addr}
  (B : Below A₀ base outer h₀) (F : Fr h₀ L s.heap m) (X : (hd.heap_1 w.params).In h₀) (N : News h₀ L s.heap (news)) (T : Top topProg loose mean mg mb h₀) (hk : cs.kind = .function)
  (hdp : dp + 3 < recursionLimit) (hun : un + 40 < cLine)
  (Ma1 : (a1, instObj (nat_lit 89) d1) ∈ news) (Md1 : (d1, realO w j1 x1 t1 k1 y1 u1) ∈ news) (h1 : Sm x1) (h2 : -1000 ≤ y1) (h3 : y1 ≤ 1000)
  (hret : ∀ r z1 z2 u1 u2 h' tk', z1 = (fracOf x1 y1).1 → z2 = (fracOf x1 y1).2 → Fr h₀ L h' m → News h₀ L h' ((r, tupO z1 u1 z2 u2) :: news) → Q (.ref r) { s with heap := h', toks := tk' }) :
  wpAny (model Challenge.rw_nt0168_01.row.prog w) (ktrTop dp un gd cn cs L a ccd cl outer) (call (.ref 247) [.ref a1]) Q E s := by
  refine wpAny_call ?_
  k_dflt ktr_enter
  k_steps
  all_goals (refine retT hret (by assumption) (by k_asm) (by k_mem) (by first | ((repeat (first | exact sub_refl | refine sub_cons ?_)); done) | (intro p hp; first | exact hp | (repeat (first | exact hp | refine List.mem_cons_of_mem _ ?_)))) ?_)
  all_goals (first | rw [fracOf, if_pos (by omega), p2_eq] | rw [fracOf, if_neg (by omega), p2_eq])
theorem reg_22 : True := by
  k_with "call ref" => ((k_here; (with_reducible show wpAny _ _ (call (Value.ref 247) _ _) _ _ _); k_dflt (refine' fraction_of_c ?k1q36 ?k2q36 ?k3q36 ?k4q36 ?k5q36 ?kKq36 ?kdq36 ?kuq36 ?m0q36 ?m1q36 ?p0q36 ?p1q36 ?p2q36 ?_; (case k1q36 => k_asm); (case k2q36 => k_asm); (case k3q36 => k_asm); (case k4q36 => k_asm); (case k5q36 => k_asm); (case kKq36 => first | exact rfl | assumption); (case kdq36 => ktr_room); (case kuq36 => ktr_units); (case m0q36 => k_mem); (case m1q36 => k_mem); (case p0q36 => ktr_rel); (case p1q36 => first | with_reducible assumption | omega); (case p2q36 => first | with_reducible assumption | omega); k_whole); intro r9 z9 y9 t9 u9 h9 tk9 e9 f9 F9 N9; (try k_sweep); (try dsimp only); (try k_fold); skip))
  trivial
end
end
section
open PySem PySem.W PySem.Spec PySem.Calls PyProof.Rows
set_option Elab.async false
set_option maxRecDepth 100000
set_option maxHeartbeats 0
theorem reg_23 : True := by
  k_with_none
  k_with "lt9" => (first | with_reducible assumption | (refine ltc (by with_reducible assumption) ?_; first | exact pj1 | exact pj2 | exact pj3 | exact pj4 | exact pj5 | exact pj6 | exact pj7 | exact pj8 | exact pj9 | exact pj10 | exact pj11 | exact pj12 | exact pj13 | exact pj14 | exact qj1 | exact qj2 | exact qj3 | exact qj4 | exact qj5 | exact qj6 | exact qj7 | exact qj8 | exact qj9 | exact qj10 | exact qj11 | exact qj12 | exact qj13 | exact qj14))
  k_with "ne9" => (first | decide | (refine Nat.ne_of_lt ?_; walk_at "lt9") | (refine Nat.ne_of_gt ?_; walk_at "lt9") | exact Nat.ne_of_lt (Nat.lt_succ_self _) | exact Nat.ne_of_gt (Nat.lt_succ_self _) | (refine ne_up1 ?_; walk_at "lt9") | (refine ne_up2 ?_; walk_at "lt9") | (refine Ne.symm (ne_up1 ?_); walk_at "lt9") | (refine Ne.symm (ne_up2 ?_); walk_at "lt9"))
  trivial
-- Sm facts
theorem reg_24 : True := by
  k_with "eval Constant int" => (refine const_intN ?_)
  k_with "binaryOp Add int int" => (with_reducible refine add_intN ?_)
  k_with "binaryOp Sub int int" => (with_reducible refine sub_intN ?_)
  k_with "binaryOp Mult int int" => (with_reducible refine mul_intN ?_)
  k_with "binaryOp FloorDiv int int" => ((k_here; (with_reducible refine floordiv_intN ?feq43 ?_ (Sm.py ?fpq43)); (case feq43 => first | decide | omega | assumption); (case fpq43 => ktr_rel)))
  k_with "binaryOp LShift int int" => ((k_here; (with_reducible refine lshift_intN ?feq44 ?fpq44 ?_); (case feq44 => omega); (case fpq44 => exact Sm.shl (by ktr_rel) (by omega))))
  k_with "ite" => ((k_here; k_openite; k_spoken; first
  | (refine ite_pos (by ((try simp only [beq_iff_eq, bne_iff_ne, ne_eq, Bool.not_eq_true', beq_eq_false_iff_ne]); (try law_clear); (try subst_vars); first | assumption | exact decide_eq_true rfl | exact Int.not_le.mp (by assumption) | exact Int.not_lt.mp (by assumption) | (law_clear; omega))) ?_; walk_say "PRUNED own")
  | (refine ite_neg (by ((try simp only [beq_iff_eq, bne_iff_ne, ne_eq, Bool.not_eq_true', beq_eq_false_iff_ne]); (try law_clear); (try subst_vars); first | assumption | exact Int.not_le.mpr (by assumption) | exact Int.not_lt.mpr (by assumption) | (law_clear; omega))) ?_; walk_say "PRUNED own")))
  k_with "subscriptTail" => ((k_here; (with_reducible show wpAny _ _ (subscriptTail _ _ (Value.ref _) (Value.int _ _)) _ _ _); k_dflt (refine' item_tupleT ?tq46 ?aq46 ?bq46 ?cq46 ?dq46 ?_; (case tq46 => exact News.isTup (by k_asm) (by k_mem)); (case aq46 => decide); (case bq46 => decide); (case cq46 => rfl); (case dq46 => rfl); k_whole)))
  k_with "subscriptTail Name Constant ref int" => ((k_here; (with_reducible show wpAny _ _ (subscriptTail _ _ (Value.ref _) (Value.int _ _)) _ _ _); k_dflt (refine' item_tupleT ?tq47 ?aq47 ?bq47 ?cq47 ?dq47 ?_; (case tq47 => exact News.isTup (by k_asm) (by k_mem)); (case aq47 => decide); (case bq47 => decide); (case cq47 => rfl); (case dq47 => rfl); k_whole)))
  k_with "callWith ref" => ((k_here; k_dflt (refine' callWith_K ?k1q48 ?k2q48 ?_; (case k1q48 => k_asm); (case k2q48 => k_is); k_whole)))
  k_with "call builtin:divmod" => ((k_here; (with_reducible show wpAny _ _ (call (Value.builtin _) [Value.int _ _, Value.int _ _]) _ _ _); k_dflt (refine' divmod_N ?k1q49 ?k2q49 ?feq49 ?_ (Or.inl (Sm.py ?fpq49)); (case k1q49 => k_asm); (case k2q49 => k_asm); (case feq49 => first | omega | exact Int.ne_of_gt (Int.mul_pos (by omega) (pow2_pos _))); (case fpq49 => ktr_rel)); intro h' F' N'; (try k_sweep)))
  k_with "call builtin:max" => ((k_here; (with_reducible show wpAny _ _ (call (Value.builtin _) [Value.ref _]) _ _ _); k_dflt (first
  | (refine' max_tup ?k0q50 ?k1q50 ?k2q50 ?k3q50 ?_; (case k0q50 => exact rfl); (case k1q50 => k_asm); (case k2q50 => k_asm); (case k3q50 => exact News.isTup (by k_asm) (by k_mem)))
  | (refine' max_list4 ?k0q50 ?k1q50 ?k2q50 ?k3q50 ?_; (case k0q50 => exact rfl); (case k1q50 => k_asm); (case k2q50 => k_asm); (case k3q50 => exact News.isList (by k_asm) (by k_mem)))); k_whole; intro h' r' tk' F' N'; (try k_sweep)))
  k_with "call builtin:min" => ((k_here; (with_reducible show wpAny _ _ (call (Value.builtin _) [Value.ref _]) _ _ _); k_dflt (first
  | (refine' min_tup ?k0q51 ?k1q51 ?k2q51 ?k3q51 ?_; (case k0q51 => exact rfl); (case k1q51 => k_asm); (case k2q51 => k_asm); (case k3q51 => exact News.isTup (by k_asm) (by k_mem)))
  | (refine' min_list4 ?k0q51 ?k1q51 ?k2q51 ?k3q51 ?_; (case k0q51 => exact rfl); (case k1q51 => k_asm); (case k2q51 => k_asm); (case k3q51 => exact News.isList (by k_asm) (by k_mem)))); k_whole; intro h' r' tk' F' N'; (try k_sweep)))
  k_with "newTuple" => ((k_here; k_dflt (refine' newTupN ?Fq52 ?Nq52 ?_ ?zq52; (case Fq52 => k_asm); (case Nq52 => k_asm); (case zq52 => kmk_size)); intro D' h' F' N'; (try k_sweep)))
  k_with "call ref" => ((k_here; (with_reducible show wpAny _ _ (call (Value.ref 100) _ _) _ _ _); k_dflt (refine' size_of_c ?k1q53 ?k2q53 ?k3q53 ?k4q53 ?k5q53 ?kKq53 ?kdq53 ?kuq53   ?_; (case k1q53 => k_asm); (case k2q53 => k_asm); (case k3q53 => k_asm); (case k4q53 => k_asm); (case k5q53 => k_asm); (case kKq53 => first | exact rfl | assumption); (case kdq53 => ktr_room); (case kuq53 => ktr_units); k_whole); intro z9 t9 h9 tk9 e9 F9 N9; (try k_sweep); (try dsimp only); (try k_fold); skip))
  k_with "call ref" => ((k_here; (with_reducible show wpAny _ _ (call (Value.ref 107) _ _) _ _ _); k_dflt (refine' sign_of_whole_c ?k1q54 ?k2q54 ?k3q54 ?k4q54 ?k5q54 ?kKq54 ?kdq54 ?kuq54   ?_; (case k1q54 => k_asm); (case k2q54 => k_asm); (case k3q54 => k_asm); (case k4q54 => k_asm); (case k5q54 => k_asm); (case kKq54 => first | exact rfl | assumption); (case kdq54 => ktr_room); (case kuq54 => ktr_units); k_whole); intro z9 t9 h9 tk9 e9 F9 N9; (try k_sweep); (try dsimp only); (try k_fold); skip))
  k_with "call ref" => ((k_here; (with_reducible show wpAny _ _ (call (Value.ref 114) _ _) _ _ _); k_dflt (refine' zeros_below_c ?k1q55 ?k2q55 ?k3q55 ?k4q55 ?k5q55 ?kKq55 ?kdq55 ?kuq55   ?_; (case k1q55 => k_asm); (case k2q55 => k_asm); (case k3q55 => k_asm); (case k4q55 => k_asm); (case k5q55 => k_asm); (case kKq55 => first | exact rfl | assumption); (case kdq55 => ktr_room); (case kuq55 => ktr_units); k_whole); intro z9 t9 h9 tk9 e9 F9 N9; (try k_sweep); (try dsimp only); (try k_fold); skip))
  k_with "call ref" => ((k_here; (with_reducible show wpAny _ _ (call (Value.ref 177) _ _) _ _ _); k_dflt (refine' up_shift_c ?k1q56 ?k2q56 ?k3q56 ?k4q56 ?k5q56 ?kKq56 ?kdq56 ?kuq56  ?p0q56 ?_; (case k1q56 => k_asm); (case k2q56 => k_asm); (case k3q56 => k_asm); (case k4q56 => k_asm); (case k5q56 => k_asm); (case kKq56 => first | exact rfl | assumption); (case kdq56 => ktr_room); (case kuq56 => ktr_units); (case p0q56 => first | with_reducible assumption | omega); k_whole); intro z9 t9 h9 tk9 e9 F9 N9; (try k_sweep); (try dsimp only); (try k_fold); skip))
  k_with "call ref" => ((k_here; (with_reducible show wpAny _ _ (call (Value.ref 184) _ _) _ _ _); k_dflt (refine' up_over_c ?k1q57 ?k2q57 ?k3q57 ?k4q57 ?k5q57 ?kKq57 ?kdq57 ?kuq57  ?p0q57 ?p1q57 ?_; (case k1q57 => k_asm); (case k2q57 => k_asm); (case k3q57 => k_asm); (case k4q57 => k_asm); (case k5q57 => k_asm); (case kKq57 => first | exact rfl | assumption); (case kdq57 => ktr_room); (case kuq57 => ktr_units); (case p0q57 => first | with_reducible assumption | omega); (case p1q57 => ktr_rel); k_whole); intro z9 t9 h9 tk9 e9 F9 N9; (try k_sweep); (try dsimp only); (try k_fold); skip))
  k_with "call ref" => ((k_here; (with_reducible show wpAny _ _ (call (Value.ref 142) _ _) _ _ _); k_dflt (refine' with_sticky_c ?k1q58 ?k2q58 ?k3q58 ?k4q58 ?k5q58 ?kKq58 ?kdq58 ?kuq58   ?_; (case k1q58 => k_asm); (case k2q58 => k_asm); (case k3q58 => k_asm); (case k4q58 => k_asm); (case k5q58 => k_asm); (case kKq58 => first | exact rfl | assumption); (case kdq58 => ktr_room); (case kuq58 => ktr_units); k_whole); intro z9 t9 h9 tk9 e9 F9 N9; (try k_sweep); (try dsimp only); (try k_fold); skip))
  k_with "call ref" => ((k_here; (with_reducible show wpAny _ _ (call (Value.ref 128) _ _) _ _ _); k_dflt (refine' nearest_shift_c ?k1q59 ?k2q59 ?k3q59 ?k4q59 ?k5q59 ?kKq59 ?kdq59 ?kuq59  ?p0q59 ?p1q59 ?_; (case k1q59 => k_asm); (case k2q59 => k_asm); (case k3q59 => k_asm); (case k4q59 => k_asm); (case k5q59 => k_asm); (case kKq59 => first | exact rfl | assumption); (case kdq59 => ktr_room); (case kuq59 => ktr_units); (case p0q59 => first | with_reducible assumption | omega); (case p1q59 => first | with_reducible assumption | omega); k_whole); intro z9 t9 h9 tk9 e9 F9 N9; (try k_sweep); (try dsimp only); (try k_fold); skip))
  k_with "call ref" => ((k_here; (with_reducible show wpAny _ _ (call (Value.ref 198) _ _) _ _ _); k_dflt (refine' more_of_c ?k1q60 ?k2q60 ?k3q60 ?k4q60 ?k5q60 ?kKq60 ?kdq60 ?kuq60 ?m0q60 ?m1q60  ?_; (case k1q60 => k_asm); (case k2q60 => k_asm); (case k3q60 => k_asm); (case k4q60 => k_asm); (case k5q60 => k_asm); (case kKq60 => first | exact rfl | assumption); (case kdq60 => ktr_room); (case kuq60 => ktr_units); (case m0q60 => k_mem); (case m1q60 => k_mem); k_whole); intro r9 z9 y9 t9 u9 h9 tk9 e9 f9 F9 N9; (try k_sweep); (try dsimp only); (try k_fold); skip))
  k_with "call ref" => ((k_here; (with_reducible show wpAny _ _ (call (Value.ref 205) _ _) _ _ _); k_dflt (refine' less_of_c ?k1q61 ?k2q61 ?k3q61 ?k4q61 ?k5q61 ?kKq61 ?kdq61 ?kuq61 ?m0q61 ?m1q61  ?_; (case k1q61 => k_asm); (case k2q61 => k_asm); (case k3q61 => k_asm); (case k4q61 => k_asm); (case k5q61 => k_asm); (case kKq61 => first | exact rfl | assumption); (case kdq61 => ktr_room); (case kuq61 => ktr_units); (case m0q61 => k_mem); (case m1q61 => k_mem); k_whole); intro r9 z9 y9 t9 u9 h9 tk9 e9 f9 F9 N9; (try k_sweep); (try dsimp only); (try k_fold); skip))
  k_with "call ref" => ((k_here; (with_reducible show wpAny _ _ (call (Value.ref 212) _ _) _ _ _); k_dflt (refine' often_c ?k1q62 ?k2q62 ?k3q62 ?k4q62 ?k5q62 ?kKq62 ?kdq62 ?kuq62 ?m0q62 ?p0q62 ?p1q62 ?_; (case k1q62 => k_asm); (case k2q62 => k_asm); (case k3q62 => k_asm); (case k4q62 => k_asm); (case k5q62 => k_asm); (case kKq62 => first | exact rfl | assumption); (case kdq62 => ktr_room); (case kuq62 => ktr_units); (case m0q62 => k_mem); (case p0q62 => mul_fits); (case p1q62 => mul_fits); k_whole); intro r9 z9 y9 t9 u9 h9 tk9 e9 f9 F9 N9; (try k_sweep); (try dsimp only); (try k_fold); skip))
  k_with "call ref" => ((k_here; (with_reducible show wpAny _ _ (call (Value.ref 233) _ _) _ _ _); k_dflt (refine' widened_c ?k1q63 ?k2q63 ?k3q63 ?k4q63 ?k5q63 ?kKq63 ?kdq63 ?kuq63 ?m0q63  ?_; (case k1q63 => k_asm); (case k2q63 => k_asm); (case k3q63 => k_asm); (case k4q63 => k_asm); (case k5q63 => k_asm); (case kKq63 => first | exact rfl | assumption); (case kdq63 => ktr_room); (case kuq63 => ktr_units); (case m0q63 => k_mem); k_whole); intro r9 z9 y9 t9 u9 h9 tk9 e9 f9 F9 N9; (try k_sweep); (try dsimp only); (try k_fold); skip))
  k_with "call ref" => ((k_here; (with_reducible show wpAny _ _ (call (Value.ref 240) _ _) _ _ _); k_dflt (refine' greatest_of_c ?k1q64 ?k2q64 ?k3q64 ?k4q64 ?k5q64 ?kKq64 ?kdq64 ?kuq64 ?m0q64  ?_; (case k1q64 => k_asm); (case k2q64 => k_asm); (case k3q64 => k_asm); (case k4q64 => k_asm); (case k5q64 => k_asm); (case kKq64 => first | exact rfl | assumption); (case kdq64 => ktr_room); (case kuq64 => ktr_units); (case m0q64 => k_mem); k_whole); intro z9 t9 h9 tk9 e9 F9 N9; (try k_sweep); (try dsimp only); (try k_fold); skip))
  k_with "call ref" => ((k_here; (with_reducible show wpAny _ _ (call (Value.ref 226) _ _) _ _ _); k_dflt (refine' part_of_c ?k1q65 ?k2q65 ?k3q65 ?k4q65 ?k5q65 ?kKq65 ?kdq65 ?kuq65 ?m0q65 ?p0q65 ?p1q65 ?_; (case k1q65 => k_asm); (case k2q65 => k_asm); (case k3q65 => k_asm); (case k4q65 => k_asm); (case k5q65 => k_asm); (case kKq65 => first | exact rfl | assumption); (case kdq65 => ktr_room); (case kuq65 => ktr_units); (case m0q65 => k_mem); (case p0q65 => first | with_reducible assumption | omega); (case p1q65 => ktr_rel); k_whole); intro r9 z9 y9 t9 u9 h9 tk9 e9 f9 F9 N9; (try k_sweep); (try dsimp only); (try k_fold); skip))
  k_with "call ref" => ((k_here; (with_reducible show wpAny _ _ (call (Value.ref 219) _ _) _ _ _); k_dflt (refine' product_of_c ?k1q66 ?k2q66 ?k3q66 ?k4q66 ?k5q66 ?kKq66 ?kdq66 ?kuq66 ?m0q66 ?m1q66 ?p0q66 ?p1q66 ?p2q66 ?p3q66 ?p4q66 ?_; (case k1q66 => k_asm); (case k2q66 => k_asm); (case k3q66 => k_asm); (case k4q66 => k_asm); (case k5q66 => k_asm); (case kKq66 => first | exact rfl | assumption); (case kdq66 => ktr_room); (case kuq66 => ktr_units); (case m0q66 => k_mem); (case m1q66 => k_mem); (case p0q66 => first | with_reducible assumption | omega); (case p1q66 => ktr_rel); (case p2q66 => ktr_rel); (case p3q66 => ktr_rel); (case p4q66 => ktr_rel); k_whole); intro r9 z9 y9 t9 u9 h9 tk9 e9 f9 F9 N9; (try k_sweep); (try dsimp only); (try k_fold); skip))
  k_with "call ref" => ((k_here; (with_reducible show wpAny _ _ (call (Value.ref 191) _ _) _ _ _); k_dflt (refine' fraction_bounds_c ?k1q67 ?k2q67 ?k3q67 ?k4q67 ?k5q67 ?kKq67 ?kdq67 ?kuq67  ?p0q67 ?p1q67 ?p2q67 ?p3q67 ?p4q67 ?_; (case k1q67 => k_asm); (case k2q67 => k_asm); (case k3q67 => k_asm); (case k4q67 => k_asm); (case k5q67 => k_asm); (case kKq67 => first | exact rfl | assumption); (case kdq67 => ktr_room); (case kuq67 => ktr_units); (case p0q67 => first | with_reducible assumption | omega); (case p1q67 => first | with_reducible assumption | omega); (case p2q67 => ktr_rel); (case p3q67 => first | with_reducible assumption | omega); (case p4q67 => ktr_rel); k_whole); intro r9 z9 y9 t9 u9 h9 tk9 e9 f9 F9 N9; (try k_sweep); (try dsimp only); (try k_fold); skip))
  k_with "call ref" => ((k_here; (with_reducible show wpAny _ _ (call (Value.ref 89) _ _) _ _ _); k_dflt (refine' real_c ?k1q68 ?k2q68 ?k3q68 ?k4q68 ?k5q68 ?kKq68 ?kdq68 ?kuq68   ?_; (case k1q68 => k_asm); (case k2q68 => k_asm); (case k3q68 => k_asm); (case k4q68 => k_asm); (case k5q68 => k_asm); (case kKq68 => first | exact rfl | assumption); (case kdq68 => ktr_room); (case kuq68 => ktr_units); k_whole); intro r9 d9 z9 y9 j9 t9 i9 u9 h9 tk9 e9 f9 F9 N9; (try k_sweep); (try dsimp only); (try k_fold); skip))
  k_with "call ref" => ((k_here; (with_reducible show wpAny _ _ (call (Value.ref 156) _ _) _ _ _); k_dflt (refine' place_of_c ?k1q69 ?k2q69 ?k3q69 ?k4q69 ?k5q69 ?kKq69 ?kdq69 ?kuq69 ?m0q69 ?m1q69  ?_; (case k1q69 => k_asm); (case k2q69 => k_asm); (case k3q69 => k_asm); (case k4q69 => k_asm); (case k5q69 => k_asm); (case kKq69 => first | exact rfl | assumption); (case kdq69 => ktr_room); (case kuq69 => ktr_units); (case m0q69 => k_mem); (case m1q69 => k_mem); k_whole); intro z9 t9 h9 tk9 e9 F9 N9; (try k_sweep); (try dsimp only); (try k_fold); skip))
  k_with "call ref" => ((k_here; (with_reducible show wpAny _ _ (call (Value.ref 163) _ _) _ _ _); k_dflt (refine' sign_of_c ?k1q70 ?k2q70 ?k3q70 ?k4q70 ?k5q70 ?kKq70 ?kdq70 ?kuq70 ?m0q70 ?m1q70  ?_; (case k1q70 => k_asm); (case k2q70 => k_asm); (case k3q70 => k_asm); (case k4q70 => k_asm); (case k5q70 => k_asm); (case kKq70 => first | exact rfl | assumption); (case kdq70 => ktr_room); (case kuq70 => ktr_units); (case m0q70 => k_mem); (case m1q70 => k_mem); k_whole); intro z9 t9 h9 tk9 e9 F9 N9; (try k_sweep); (try dsimp only); (try k_fold); skip))
  k_with "call ref" => ((k_here; (with_reducible show wpAny _ _ (call (Value.ref 170) _ _) _ _ _); k_dflt (refine' same_real_c ?k1q71 ?k2q71 ?k3q71 ?k4q71 ?k5q71 ?kKq71 ?kdq71 ?kuq71 ?m0q71 ?m1q71 ?m2q71 ?m3q71  ?_; (case k1q71 => k_asm); (case k2q71 => k_asm); (case k3q71 => k_asm); (case k4q71 => k_asm); (case k5q71 => k_asm); (case kKq71 => first | exact rfl | assumption); (case kdq71 => ktr_room); (case kuq71 => ktr_units); (case m0q71 => k_mem); (case m1q71 => k_mem); (case m2q71 => k_mem); (case m3q71 => k_mem); k_whole); intro h9 tk9 F9 N9; (try k_sweep); (try dsimp only); (try k_fold); skip))
  k_with "call ref" => ((k_here; (with_reducible show wpAny _ _ (call (Value.ref 247) _ _) _ _ _); k_dflt (refine' fraction_of_c ?k1q72 ?k2q72 ?k3q72 ?k4q72 ?k5q72 ?kKq72 ?kdq72 ?kuq72 ?m0q72 ?m1q72 ?p0q72 ?p1q72 ?p2q72 ?_; (case k1q72 => k_asm); (case k2q72 => k_asm); (case k3q72 => k_asm); (case k4q72 => k_asm); (case k5q72 => k_asm); (case kKq72 => first | exact rfl | assumption); (case kdq72 => ktr_room); (case kuq72 => ktr_units); (case m0q72 => k_mem); (case m1q72 => k_mem); (case p0q72 => ktr_rel); (case p1q72 => first | with_reducible assumption | omega); (case p2q72 => first | with_reducible assumption | omega); k_whole); intro r9 z9 y9 t9 u9 h9 tk9 e9 f9 F9 N9; (try k_sweep); (try dsimp only); (try k_fold); skip))
  trivial
section
variable {w : World} {loose : List Str} {mean : ExcName → Option Value} {mg mb : Str → Option Value}
  {dp un : Nat} {gd : Option (List Code)} {cn : Str} {cs : Scope} {a : Addr} {ccd : Value} {cl : List (Str × Addr)} {outer : List Env} {A₀ : Around} {base h₀ : Heap} {L : Addr} {m : Str → Option Value} {news : List (Addr × Obj)} {s : Shared} {Q E : Value → Shared → Prop}

theorem inverse_series_c {wk : Int} {t1 t2 t3 : Tok} {v : Int × Int}
  (B : Below A₀ base outer h₀) (F : Fr h₀ L s.heap m) (X : (hd.heap_1 w.params).In h₀) (N : News h₀ L s.heap (news)) (T : Top topProg loose mean mg mb h₀) (hk : cs.kind = .function)
  (hdp : dp + 6 < recursionLimit) (hun : un + 80 < cLine)
   (h0 : 0 ≤ wk) (h1 : wk < 9000) (hv : invF 60 ((p2 wk).fdiv 3) 0 1 0 = some v)
  (hret : ∀ r z1 z2 u1 u2 h' tk', z1 = (widI (v.1, v.1) (2 * v.2 + 4)).1 → z2 = (widI (v.1, v.1) (2 * v.2 + 4)).2 → Fr h₀ L h' m → News h₀ L h' ((r, tupO z1 u1 z2 u2) :: news) → Q (.ref r) { s with heap := h', toks := tk' }) :
  wpAny (model Challenge.rw_nt0168_01.row.prog w) (ktrTop dp un gd cn cs L a ccd cl outer) (call (.ref 254) [.int wk t1, .int 3 t2, .int 1 t3]) Q E s := by
  have hp2 := p2_eq wk
  k_with "exec While Compare cons nil" => (subst_vars; (rename Fr _ _ _ _ => lF'); (rename News _ _ _ _ => lN'); (with_unfolding_all refine' ksw_while (σ := IS) (fun c => news) (fun c => [(Str.ofString "power", .int c.p c.a), (Str.ofString "total", .int c.t c.b), (Str.ofString "exponent", .int c.e c.c), (Str.ofString "now", .int 1 c.d), (Str.ofString "steps", .int c.k c.f)]) (fun _ => True) [] (fun c => invF c.n c.p c.t c.e c.k = some v ∧ 0 < c.e ∧ c.e + 2 * c.n ≤ 1000) (fun c => c.n) ⟨60, _, _, _, _, _, _, _, _, _⟩ lF' ?kn ?kf ?kk ?kp ?_); (case kk => kst_all); (case kn => (exact kst_newsOf lN' (by (try dsimp only); ((repeat (first | exact sub_refl | refine sub_cons ?_)); done)))); (case kf => trivial); (case kp => ((try dsimp only); exact ⟨by rw [Int.one_mul, ← hp2]; exact hv, by decide, by decide⟩)); (clear lF' lN'); intro c u h tk hf hP F' N'; obtain ⟨n, p, t, e, k, ta, tb, tc, td, tf⟩ := c; dsimp only at hf hP F' N'; clear hf; obtain ⟨hP1, hP2, hP3⟩ := hP; rcases n with _ | n; (· (simp [invF] at hP1)); all_goals ((try dsimp only); (try k_fold)))
  refine wpAny_call ?_
  k_dflt ktr_enter
  k_steps
  · ((try dsimp only); (rename News _ _ _ _ => nE'); (rename Fr _ _ _ _ => fE'); refine' ksw_end ⟨n, _, _, _, _, _, _, _, _, _⟩ fE' nE' ?kn ?kf ?kk ?kr ?kp (Nat.lt_succ_self _); (case kk => kst_all); (case kn => ((try dsimp only); ((repeat (first | exact sub_refl | refine sub_cons ?_)); done))); (case kf => trivial); (case kr => (intro z h2 h3; simp only [List.forall_mem_cons, List.not_mem_nil, false_implies, implies_true, and_true, ne_eq] at h2; simp [kstB, h2])); (case kp => ((try dsimp only); refine ⟨?_, by omega, by omega⟩; rw [Int.one_mul]; exact (invF_step (by assumption)).symm.trans hP1)))

  all_goals (refine retT hret (by assumption) (by k_asm) (by k_mem) (by first | ((repeat (first | exact sub_refl | refine sub_cons ?_)); done) | (intro p hp; first | exact hp | (repeat (first | exact hp | refine List.mem_cons_of_mem _ ?_)))) ?_)
  all_goals (have e1 := Option.some.inj (hP1.symm.trans (invF_stop (by assumption))); subst e1; (try law_clear); subst_vars; rfl)
theorem reg_25 : True := by
  k_with "call ref" => ((k_here; (with_reducible show wpAny _ _ (call (Value.ref 254) _ _) _ _ _); k_dflt (refine' inverse_series_c ?k1q73 ?k2q73 ?k3q73 ?k4q73 ?k5q73 ?kKq73 ?kdq73 ?kuq73  ?p0q73 ?p1q73 ?p2q73 ?_; (case k1q73 => k_asm); (case k2q73 => k_asm); (case k3q73 => k_asm); (case k4q73 => k_asm); (case k5q73 => k_asm); (case kKq73 => first | exact rfl | assumption); (case kdq73 => ktr_room); (case kuq73 => ktr_units); (case p0q73 => first | with_reducible assumption | omega); (case p1q73 => first | with_reducible assumption | omega); (case p2q73 => first | with_reducible assumption | k_dflt (have hq := (‹invF _ _ _ _ _ = some _›); refine Eq.trans ?_ hq; law_clear; subst_vars; exact rfl) | kwd_less); k_whole); intro r9 z9 y9 t9 u9 h9 tk9 e9 f9 F9 N9; (try k_sweep); (try dsimp only); (try k_fold); skip))
  trivial
theorem log_of_two_c {wk : Int} {t1 : Tok} {v : Int × Int}
  (B : Below A₀ base outer h₀) (F : Fr h₀ L s.heap m) (X : (hd.heap_1 w.params).In h₀) (N : News h₀ L s.heap (news)) (T : Top topProg loose mean mg mb h₀) (hk : cs.kind = .function)
  (hdp : dp + 9 < recursionLimit) (hun : un + 120 < cLine)
   (h0 : 0 ≤ wk) (h1 : wk < 9000) (hv : log2F wk = some v)
  (hret : ∀ r z1 z2 u1 u2 h' tk', z1 = (v).1 → z2 = (v).2 → Fr h₀ L h' m → News h₀ L h' ((r, tupO z1 u1 z2 u2) :: news) → Q (.ref r) { s with heap := h', toks := tk' }) :
  wpAny (model Challenge.rw_nt0168_01.row.prog w) (ktrTop dp un gd cn cs L a ccd cl outer) (call (.ref 261) [.int wk t1]) Q E s := by
  obtain ⟨u, hw, hv1⟩ := log2F_parts hv
  refine wpAny_call ?_
  k_dflt ktr_enter
  k_steps
  all_goals (refine retT hret (by assumption) (by k_asm) (by k_mem) (by first | ((repeat (first | exact sub_refl | refine sub_cons ?_)); done) | (intro p hp; first | exact hp | (repeat (first | exact hp | refine List.mem_cons_of_mem _ ?_)))) ?_)
  all_goals ((try law_clear); subst_vars; rfl)
theorem reg_26 : True := by
  k_with "call ref" => ((k_here; (with_reducible show wpAny _ _ (call (Value.ref 261) _ _) _ _ _); k_dflt (refine' log_of_two_c ?k1q74 ?k2q74 ?k3q74 ?k4q74 ?k5q74 ?kKq74 ?kdq74 ?kuq74  ?p0q74 ?p1q74 ?p2q74 ?_; (case k1q74 => k_asm); (case k2q74 => k_asm); (case k3q74 => k_asm); (case k4q74 => k_asm); (case k5q74 => k_asm); (case kKq74 => first | exact rfl | assumption); (case kdq74 => ktr_room); (case kuq74 => ktr_units); (case p0q74 => first | with_reducible assumption | omega); (case p1q74 => first | with_reducible assumption | omega); (case p2q74 => first | with_reducible assumption | k_dflt (have hq := (‹log2F _ = some _›); refine Eq.trans ?_ hq; law_clear; subst_vars; exact rfl) | kwd_less); k_whole); intro r9 z9 y9 t9 u9 h9 tk9 e9 f9 F9 N9; (try k_sweep); (try dsimp only); (try k_fold); skip))
  trivial
theorem exp_series_c {p : Int} {t3 : Tok} {x1 y1 : Int} {t1 u1 : Tok} {a1 : Addr} {v : Int × Int}
  (B : Below A₀ base outer h₀) (F : Fr h₀ L s.heap m) (X : (hd.heap_1 w.params).In h₀) (N : News h₀ L s.heap (news)) (T : Top topProg loose mean mg mb h₀) (hk : cs.kind = .function)
  (hdp : dp + 9 < recursionLimit) (hun : un + 120 < cLine)
  (Ma1 : (a1, tupO x1 t1 y1 u1) ∈ news) (h0 : 0 ≤ p) (h1 : p < 9000) (hv : expS p (x1, y1) = some v)
  (hret : ∀ r z1 z2 u1 u2 h' tk', z1 = (v).1 → z2 = (v).2 → Fr h₀ L h' m → News h₀ L h' ((r, tupO z1 u1 z2 u2) :: news) → Q (.ref r) { s with heap := h', toks := tk' }) :
  wpAny (model Challenge.rw_nt0168_01.row.prog w) (ktrTop dp un gd cn cs L a ccd cl outer) (call (.ref 268) [.int p t3, .ref a1]) Q E s := by
  have hn : expS p (x1, y1) ≠ none := by rw [hv]; exact nofun
  obtain ⟨hs1, hs2, u, hv1, hv2⟩ := expS_parts hn
  have hv3 := Option.some.inj (hv.symm.trans hv2)
  dsimp only at hs1 hs2
  have hp2 := p2_eq p
  k_with "exec While Compare cons nil" => (subst_vars; (rename Fr _ _ _ _ => lF'); (rename News _ _ _ _ => lN'); (with_unfolding_all refine' ksw_while (σ := ES) (fun c => (c.aT, tupO c.T1 c.a c.T2 c.b) :: (c.aD, tupO c.D1 c.c c.D2 c.d) :: news) (fun c => [(Str.ofString "total", .ref c.aT), (Str.ofString "term", .ref c.aD), (Str.ofString "count", .int c.k c.f)]) (fun _ => True) [] (fun c => expL c.n p (x1, y1) (c.T1, c.T2) (c.D1, c.D2) c.k = some u) (fun c => c.n) ⟨60, _, _, _, _, _, _, _, _, _, _, _, _⟩ lF' ?kn ?kf ?kk ?kp ?_); (case kk => kst_all); (case kn => (exact kst_newsOf lN' (by (try dsimp only); (refine List.forall_mem_cons.mpr ⟨by k_mem, ?_⟩; refine List.forall_mem_cons.mpr ⟨by k_mem, ?_⟩; (repeat (first | exact sub_refl | refine sub_cons ?_)); done)))); (case kf => trivial); (case kp => ((try dsimp only); (first | exact hv1 | (rw [hp2] at hv1; exact hv1) | (rw [← hp2]; exact hv1)))); (clear lF' lN'); intro c u h tk hf hP F' N'; obtain ⟨n, T1, T2, D1, D2, k, aT, aD, ta, tb, tc, td, tf⟩ := c; dsimp only at hf hP F' N'; clear hf; rcases n with _ | n; (· (simp [expL] at hP)); by_cases hg : 1 < greatI (D1, D2); obtain ⟨hg1, hg2, hg3, hg4, hP⟩ := expL_step hg hP; all_goals ((try dsimp only); (try k_fold)))
  refine wpAny_call ?_
  k_dflt ktr_enter
  k_steps
  · ((try dsimp only); (rename News _ _ _ _ => nE'); (rename Fr _ _ _ _ => fE'); refine' ksw_end ⟨n, _, _, _, _, _, _, _, _, _, _, _, _⟩ fE' nE' ?kn ?kf ?kk ?kr ?kp (Nat.lt_succ_self _); (case kk => kst_all); (case kn => ((try dsimp only); (refine List.forall_mem_cons.mpr ⟨by k_mem, ?_⟩; refine List.forall_mem_cons.mpr ⟨by k_mem, ?_⟩; (repeat (first | exact sub_refl | refine sub_cons ?_)); done))); (case kf => trivial); (case kr => (intro z h2 h3; simp only [List.forall_mem_cons, List.not_mem_nil, false_implies, implies_true, and_true, ne_eq] at h2; simp [kstB, h2])); (case kp => ((try dsimp only); subst_vars; exact hP)))

  all_goals (refine retT hret (by assumption) (by k_asm) (by k_mem) (by first | ((repeat (first | exact sub_refl | refine sub_cons ?_)); done) | (intro p hp; first | exact hp | (repeat (first | exact hp | refine List.mem_cons_of_mem _ ?_)))) ?_)
  all_goals (
    have e1 := Option.some.inj ((expL_stop hg).symm.trans hP)
    first | rw [hv3, ← e1] | rw [← e1]
    (try law_clear)
    subst_vars
    rfl)
theorem reg_27 : True := by
  k_with "call ref" => ((k_here; (with_reducible show wpAny _ _ (call (Value.ref 268) _ _) _ _ _); k_dflt (refine' exp_series_c ?k1q75 ?k2q75 ?k3q75 ?k4q75 ?k5q75 ?kKq75 ?kdq75 ?kuq75 ?m0q75 ?p0q75 ?p1q75 ?p2q75 ?_; (case k1q75 => k_asm); (case k2q75 => k_asm); (case k3q75 => k_asm); (case k4q75 => k_asm); (case k5q75 => k_asm); (case kKq75 => first | exact rfl | assumption); (case kdq75 => ktr_room); (case kuq75 => ktr_units); (case m0q75 => k_mem); (case p0q75 => first | with_reducible assumption | omega); (case p1q75 => first | with_reducible assumption | omega); (case p2q75 => first | with_reducible assumption | k_dflt (have hq := (‹expS _ _ = some _›); refine Eq.trans ?_ hq; law_clear; subst_vars; exact rfl) | kwd_less); k_whole); intro r9 z9 y9 t9 u9 h9 tk9 e9 f9 F9 N9; (try k_sweep); (try dsimp only); (try k_fold); skip))
  trivial
end
end
section
open PySem PySem.W PySem.Spec PySem.Calls PyProof.Rows
set_option Elab.async false
set_option maxRecDepth 100000
set_option maxHeartbeats 0
theorem reg_28 : True := by
  k_with_none
  k_with "lt9" => (first | with_reducible assumption | (refine ltc (by with_reducible assumption) ?_; first | exact pj1 | exact pj2 | exact pj3 | exact pj4 | exact pj5 | exact pj6 | exact pj7 | exact pj8 | exact pj9 | exact pj10 | exact pj11 | exact pj12 | exact pj13 | exact pj14 | exact qj1 | exact qj2 | exact qj3 | exact qj4 | exact qj5 | exact qj6 | exact qj7 | exact qj8 | exact qj9 | exact qj10 | exact qj11 | exact qj12 | exact qj13 | exact qj14))
  k_with "ne9" => (first | decide | (refine Nat.ne_of_lt ?_; walk_at "lt9") | (refine Nat.ne_of_gt ?_; walk_at "lt9") | exact Nat.ne_of_lt (Nat.lt_succ_self _) | exact Nat.ne_of_gt (Nat.lt_succ_self _) | (refine ne_up1 ?_; walk_at "lt9") | (refine ne_up2 ?_; walk_at "lt9") | (refine Ne.symm (ne_up1 ?_); walk_at "lt9") | (refine Ne.symm (ne_up2 ?_); walk_at "lt9"))
  trivial
-- Sm facts
theorem reg_29 : True := by
  k_with "eval Constant int" => (refine const_intN ?_)
  k_with "binaryOp Add int int" => (with_reducible refine add_intN ?_)
  k_with "binaryOp Sub int int" => (with_reducible refine sub_intN ?_)
  k_with "binaryOp Mult int int" => (with_reducible refine mul_intN ?_)
  k_with "binaryOp FloorDiv int int" => ((k_here; (with_reducible refine floordiv_intN ?feq82 ?_ (Sm.py ?fpq82)); (case feq82 => first | decide | omega | assumption); (case fpq82 => ktr_rel)))
  k_with "binaryOp LShift int int" => ((k_here; (with_reducible refine lshift_intN ?feq83 ?fpq83 ?_); (case feq83 => omega); (case fpq83 => exact Sm.shl (by ktr_rel) (by omega))))
  k_with "ite" => ((k_here; k_openite; k_spoken; first
  | (refine ite_pos (by ((try simp only [beq_iff_eq, bne_iff_ne, ne_eq, Bool.not_eq_true', beq_eq_false_iff_ne]); (try law_clear); (try subst_vars); first | assumption | exact decide_eq_true rfl | exact Int.not_le.mp (by assumption) | exact Int.not_lt.mp (by assumption) | (law_clear; omega))) ?_; walk_say "PRUNED own")
  | (refine ite_neg (by ((try simp only [beq_iff_eq, bne_iff_ne, ne_eq, Bool.not_eq_true', beq_eq_false_iff_ne]); (try law_clear); (try subst_vars); first | assumption | exact Int.not_le.mpr (by assumption) | exact Int.not_lt.mpr (by assumption) | (law_clear; omega))) ?_; walk_say "PRUNED own")))
  k_with "subscriptTail" => ((k_here; (with_reducible show wpAny _ _ (subscriptTail _ _ (Value.ref _) (Value.int _ _)) _ _ _); k_dflt (refine' item_tupleT ?tq85 ?aq85 ?bq85 ?cq85 ?dq85 ?_; (case tq85 => exact News.isTup (by k_asm) (by k_mem)); (case aq85 => decide); (case bq85 => decide); (case cq85 => rfl); (case dq85 => rfl); k_whole)))
  k_with "subscriptTail Name Constant ref int" => ((k_here; (with_reducible show wpAny _ _ (subscriptTail _ _ (Value.ref _) (Value.int _ _)) _ _ _); k_dflt (refine' item_tupleT ?tq86 ?aq86 ?bq86 ?cq86 ?dq86 ?_; (case tq86 => exact News.isTup (by k_asm) (by k_mem)); (case aq86 => decide); (case bq86 => decide); (case cq86 => rfl); (case dq86 => rfl); k_whole)))
  k_with "callWith ref" => ((k_here; k_dflt (refine' callWith_K ?k1q87 ?k2q87 ?_; (case k1q87 => k_asm); (case k2q87 => k_is); k_whole)))
  k_with "call builtin:divmod" => ((k_here; (with_reducible show wpAny _ _ (call (Value.builtin _) [Value.int _ _, Value.int _ _]) _ _ _); k_dflt (refine' divmod_N ?k1q88 ?k2q88 ?feq88 ?_ (Or.inl (Sm.py ?fpq88)); (case k1q88 => k_asm); (case k2q88 => k_asm); (case feq88 => first | omega | exact Int.ne_of_gt (Int.mul_pos (by omega) (pow2_pos _))); (case fpq88 => ktr_rel)); intro h' F' N'; (try k_sweep)))
  k_with "call builtin:max" => ((k_here; (with_reducible show wpAny _ _ (call (Value.builtin _) [Value.ref _]) _ _ _); k_dflt (first
  | (refine' max_tup ?k0q89 ?k1q89 ?k2q89 ?k3q89 ?_; (case k0q89 => exact rfl); (case k1q89 => k_asm); (case k2q89 => k_asm); (case k3q89 => exact News.isTup (by k_asm) (by k_mem)))
  | (refine' max_list4 ?k0q89 ?k1q89 ?k2q89 ?k3q89 ?_; (case k0q89 => exact rfl); (case k1q89 => k_asm); (case k2q89 => k_asm); (case k3q89 => exact News.isList (by k_asm) (by k_mem)))); k_whole; intro h' r' tk' F' N'; (try k_sweep)))
  k_with "call builtin:min" => ((k_here; (with_reducible show wpAny _ _ (call (Value.builtin _) [Value.ref _]) _ _ _); k_dflt (first
  | (refine' min_tup ?k0q90 ?k1q90 ?k2q90 ?k3q90 ?_; (case k0q90 => exact rfl); (case k1q90 => k_asm); (case k2q90 => k_asm); (case k3q90 => exact News.isTup (by k_asm) (by k_mem)))
  | (refine' min_list4 ?k0q90 ?k1q90 ?k2q90 ?k3q90 ?_; (case k0q90 => exact rfl); (case k1q90 => k_asm); (case k2q90 => k_asm); (case k3q90 => exact News.isList (by k_asm) (by k_mem)))); k_whole; intro h' r' tk' F' N'; (try k_sweep)))
  k_with "newTuple" => ((k_here; k_dflt (refine' newTupN ?Fq91 ?Nq91 ?_ ?zq91; (case Fq91 => k_asm); (case Nq91 => k_asm); (case zq91 => kmk_size)); intro D' h' F' N'; (try k_sweep)))
  k_with "call ref" => ((k_here; (with_reducible show wpAny _ _ (call (Value.ref 100) _ _) _ _ _); k_dflt (refine' size_of_c ?k1q92 ?k2q92 ?k3q92 ?k4q92 ?k5q92 ?kKq92 ?kdq92 ?kuq92   ?_; (case k1q92 => k_asm); (case k2q92 => k_asm); (case k3q92 => k_asm); (case k4q92 => k_asm); (case k5q92 => k_asm); (case kKq92 => first | exact rfl | assumption); (case kdq92 => ktr_room); (case kuq92 => ktr_units); k_whole); intro z9 t9 h9 tk9 e9 F9 N9; (try k_sweep); (try dsimp only); (try k_fold); skip))
  k_with "call ref" => ((k_here; (with_reducible show wpAny _ _ (call (Value.ref 107) _ _) _ _ _); k_dflt (refine' sign_of_whole_c ?k1q93 ?k2q93 ?k3q93 ?k4q93 ?k5q93 ?kKq93 ?kdq93 ?kuq93   ?_; (case k1q93 => k_asm); (case k2q93 => k_asm); (case k3q93 => k_asm); (case k4q93 => k_asm); (case k5q93 => k_asm); (case kKq93 => first | exact rfl | assumption); (case kdq93 => ktr_room); (case kuq93 => ktr_units); k_whole); intro z9 t9 h9 tk9 e9 F9 N9; (try k_sweep); (try dsimp only); (try k_fold); skip))
  k_with "call ref" => ((k_here; (with_reducible show wpAny _ _ (call (Value.ref 114) _ _) _ _ _); k_dflt (refine' zeros_below_c ?k1q94 ?k2q94 ?k3q94 ?k4q94 ?k5q94 ?kKq94 ?kdq94 ?kuq94   ?_; (case k1q94 => k_asm); (case k2q94 => k_asm); (case k3q94 => k_asm); (case k4q94 => k_asm); (case k5q94 => k_asm); (case kKq94 => first | exact rfl | assumption); (case kdq94 => ktr_room); (case kuq94 => ktr_units); k_whole); intro z9 t9 h9 tk9 e9 F9 N9; (try k_sweep); (try dsimp only); (try k_fold); skip))
  k_with "call ref" => ((k_here; (with_reducible show wpAny _ _ (call (Value.ref 177) _ _) _ _ _); k_dflt (refine' up_shift_c ?k1q95 ?k2q95 ?k3q95 ?k4q95 ?k5q95 ?kKq95 ?kdq95 ?kuq95  ?p0q95 ?_; (case k1q95 => k_asm); (case k2q95 => k_asm); (case k3q95 => k_asm); (case k4q95 => k_asm); (case k5q95 => k_asm); (case kKq95 => first | exact rfl | assumption); (case kdq95 => ktr_room); (case kuq95 => ktr_units); (case p0q95 => first | with_reducible assumption | omega); k_whole); intro z9 t9 h9 tk9 e9 F9 N9; (try k_sweep); (try dsimp only); (try k_fold); skip))
  k_with "call ref" => ((k_here; (with_reducible show wpAny _ _ (call (Value.ref 184) _ _) _ _ _); k_dflt (refine' up_over_c ?k1q96 ?k2q96 ?k3q96 ?k4q96 ?k5q96 ?kKq96 ?kdq96 ?kuq96  ?p0q96 ?p1q96 ?_; (case k1q96 => k_asm); (case k2q96 => k_asm); (case k3q96 => k_asm); (case k4q96 => k_asm); (case k5q96 => k_asm); (case kKq96 => first | exact rfl | assumption); (case kdq96 => ktr_room); (case kuq96 => ktr_units); (case p0q96 => first | with_reducible assumption | omega); (case p1q96 => ktr_rel); k_whole); intro z9 t9 h9 tk9 e9 F9 N9; (try k_sweep); (try dsimp only); (try k_fold); skip))
  k_with "call ref" => ((k_here; (with_reducible show wpAny _ _ (call (Value.ref 142) _ _) _ _ _); k_dflt (refine' with_sticky_c ?k1q97 ?k2q97 ?k3q97 ?k4q97 ?k5q97 ?kKq97 ?kdq97 ?kuq97   ?_; (case k1q97 => k_asm); (case k2q97 => k_asm); (case k3q97 => k_asm); (case k4q97 => k_asm); (case k5q97 => k_asm); (case kKq97 => first | exact rfl | assumption); (case kdq97 => ktr_room); (case kuq97 => ktr_units); k_whole); intro z9 t9 h9 tk9 e9 F9 N9; (try k_sweep); (try dsimp only); (try k_fold); skip))
  k_with "call ref" => ((k_here; (with_reducible show wpAny _ _ (call (Value.ref 128) _ _) _ _ _); k_dflt (refine' nearest_shift_c ?k1q98 ?k2q98 ?k3q98 ?k4q98 ?k5q98 ?kKq98 ?kdq98 ?kuq98  ?p0q98 ?p1q98 ?_; (case k1q98 => k_asm); (case k2q98 => k_asm); (case k3q98 => k_asm); (case k4q98 => k_asm); (case k5q98 => k_asm); (case kKq98 => first | exact rfl | assumption); (case kdq98 => ktr_room); (case kuq98 => ktr_units); (case p0q98 => first | with_reducible assumption | omega); (case p1q98 => first | with_reducible assumption | omega); k_whole); intro z9 t9 h9 tk9 e9 F9 N9; (try k_sweep); (try dsimp only); (try k_fold); skip))
  k_with "call ref" => ((k_here; (with_reducible show wpAny _ _ (call (Value.ref 198) _ _) _ _ _); k_dflt (refine' more_of_c ?k1q99 ?k2q99 ?k3q99 ?k4q99 ?k5q99 ?kKq99 ?kdq99 ?kuq99 ?m0q99 ?m1q99  ?_; (case k1q99 => k_asm); (case k2q99 => k_asm); (case k3q99 => k_asm); (case k4q99 => k_asm); (case k5q99 => k_asm); (case kKq99 => first | exact rfl | assumption); (case kdq99 => ktr_room); (case kuq99 => ktr_units); (case m0q99 => k_mem); (case m1q99 => k_mem); k_whole); intro r9 z9 y9 t9 u9 h9 tk9 e9 f9 F9 N9; (try k_sweep); (try dsimp only); (try k_fold); skip))
  k_with "call ref" => ((k_here; (with_reducible show wpAny _ _ (call (Value.ref 205) _ _) _ _ _); k_dflt (refine' less_of_c ?k1q100 ?k2q100 ?k3q100 ?k4q100 ?k5q100 ?kKq100 ?kdq100 ?kuq100 ?m0q100 ?m1q100  ?_; (case k1q100 => k_asm); (case k2q100 => k_asm); (case k3q100 => k_asm); (case k4q100 => k_asm); (case k5q100 => k_asm); (case kKq100 => first | exact rfl | assumption); (case kdq100 => ktr_room); (case kuq100 => ktr_units); (case m0q100 => k_mem); (case m1q100 => k_mem); k_whole); intro r9 z9 y9 t9 u9 h9 tk9 e9 f9 F9 N9; (try k_sweep); (try dsimp only); (try k_fold); skip))
  k_with "call ref" => ((k_here; (with_reducible show wpAny _ _ (call (Value.ref 212) _ _) _ _ _); k_dflt (refine' often_c ?k1q101 ?k2q101 ?k3q101 ?k4q101 ?k5q101 ?kKq101 ?kdq101 ?kuq101 ?m0q101 ?p0q101 ?p1q101 ?_; (case k1q101 => k_asm); (case k2q101 => k_asm); (case k3q101 => k_asm); (case k4q101 => k_asm); (case k5q101 => k_asm); (case kKq101 => first | exact rfl | assumption); (case kdq101 => ktr_room); (case kuq101 => ktr_units); (case m0q101 => k_mem); (case p0q101 => mul_fits); (case p1q101 => mul_fits); k_whole); intro r9 z9 y9 t9 u9 h9 tk9 e9 f9 F9 N9; (try k_sweep); (try dsimp only); (try k_fold); skip))
  k_with "call ref" => ((k_here; (with_reducible show wpAny _ _ (call (Value.ref 233) _ _) _ _ _); k_dflt (refine' widened_c ?k1q102 ?k2q102 ?k3q102 ?k4q102 ?k5q102 ?kKq102 ?kdq102 ?kuq102 ?m0q102  ?_; (case k1q102 => k_asm); (case k2q102 => k_asm); (case k3q102 => k_asm); (case k4q102 => k_asm); (case k5q102 => k_asm); (case kKq102 => first | exact rfl | assumption); (case kdq102 => ktr_room); (case kuq102 => ktr_units); (case m0q102 => k_mem); k_whole); intro r9 z9 y9 t9 u9 h9 tk9 e9 f9 F9 N9; (try k_sweep); (try dsimp only); (try k_fold); skip))
  k_with "call ref" => ((k_here; (with_reducible show wpAny _ _ (call (Value.ref 240) _ _) _ _ _); k_dflt (refine' greatest_of_c ?k1q103 ?k2q103 ?k3q103 ?k4q103 ?k5q103 ?kKq103 ?kdq103 ?kuq103 ?m0q103  ?_; (case k1q103 => k_asm); (case k2q103 => k_asm); (case k3q103 => k_asm); (case k4q103 => k_asm); (case k5q103 => k_asm); (case kKq103 => first | exact rfl | assumption); (case kdq103 => ktr_room); (case kuq103 => ktr_units); (case m0q103 => k_mem); k_whole); intro z9 t9 h9 tk9 e9 F9 N9; (try k_sweep); (try dsimp only); (try k_fold); skip))
  k_with "call ref" => ((k_here; (with_reducible show wpAny _ _ (call (Value.ref 226) _ _) _ _ _); k_dflt (refine' part_of_c ?k1q104 ?k2q104 ?k3q104 ?k4q104 ?k5q104 ?kKq104 ?kdq104 ?kuq104 ?m0q104 ?p0q104 ?p1q104 ?_; (case k1q104 => k_asm); (case k2q104 => k_asm); (case k3q104 => k_asm); (case k4q104 => k_asm); (case k5q104 => k_asm); (case kKq104 => first | exact rfl | assumption); (case kdq104 => ktr_room); (case kuq104 => ktr_units); (case m0q104 => k_mem); (case p0q104 => first | with_reducible assumption | omega); (case p1q104 => ktr_rel); k_whole); intro r9 z9 y9 t9 u9 h9 tk9 e9 f9 F9 N9; (try k_sweep); (try dsimp only); (try k_fold); skip))
  k_with "call ref" => ((k_here; (with_reducible show wpAny _ _ (call (Value.ref 219) _ _) _ _ _); k_dflt (refine' product_of_c ?k1q105 ?k2q105 ?k3q105 ?k4q105 ?k5q105 ?kKq105 ?kdq105 ?kuq105 ?m0q105 ?m1q105 ?p0q105 ?p1q105 ?p2q105 ?p3q105 ?p4q105 ?_; (case k1q105 => k_asm); (case k2q105 => k_asm); (case k3q105 => k_asm); (case k4q105 => k_asm); (case k5q105 => k_asm); (case kKq105 => first | exact rfl | assumption); (case kdq105 => ktr_room); (case kuq105 => ktr_units); (case m0q105 => k_mem); (case m1q105 => k_mem); (case p0q105 => first | with_reducible assumption | omega); (case p1q105 => ktr_rel); (case p2q105 => ktr_rel); (case p3q105 => ktr_rel); (case p4q105 => ktr_rel); k_whole); intro r9 z9 y9 t9 u9 h9 tk9 e9 f9 F9 N9; (try k_sweep); (try dsimp only); (try k_fold); skip))
  k_with "call ref" => ((k_here; (with_reducible show wpAny _ _ (call (Value.ref 191) _ _) _ _ _); k_dflt (refine' fraction_bounds_c ?k1q106 ?k2q106 ?k3q106 ?k4q106 ?k5q106 ?kKq106 ?kdq106 ?kuq106  ?p0q106 ?p1q106 ?p2q106 ?p3q106 ?p4q106 ?_; (case k1q106 => k_asm); (case k2q106 => k_asm); (case k3q106 => k_asm); (case k4q106 => k_asm); (case k5q106 => k_asm); (case kKq106 => first | exact rfl | assumption); (case kdq106 => ktr_room); (case kuq106 => ktr_units); (case p0q106 => first | with_reducible assumption | omega); (case p1q106 => first | with_reducible assumption | omega); (case p2q106 => ktr_rel); (case p3q106 => first | with_reducible assumption | omega); (case p4q106 => ktr_rel); k_whole); intro r9 z9 y9 t9 u9 h9 tk9 e9 f9 F9 N9; (try k_sweep); (try dsimp only); (try k_fold); skip))
  k_with "call ref" => ((k_here; (with_reducible show wpAny _ _ (call (Value.ref 89) _ _) _ _ _); k_dflt (refine' real_c ?k1q107 ?k2q107 ?k3q107 ?k4q107 ?k5q107 ?kKq107 ?kdq107 ?kuq107   ?_; (case k1q107 => k_asm); (case k2q107 => k_asm); (case k3q107 => k_asm); (case k4q107 => k_asm); (case k5q107 => k_asm); (case kKq107 => first | exact rfl | assumption); (case kdq107 => ktr_room); (case kuq107 => ktr_units); k_whole); intro r9 d9 z9 y9 j9 t9 i9 u9 h9 tk9 e9 f9 F9 N9; (try k_sweep); (try dsimp only); (try k_fold); skip))
  k_with "call ref" => ((k_here; (with_reducible show wpAny _ _ (call (Value.ref 156) _ _) _ _ _); k_dflt (refine' place_of_c ?k1q108 ?k2q108 ?k3q108 ?k4q108 ?k5q108 ?kKq108 ?kdq108 ?kuq108 ?m0q108 ?m1q108  ?_; (case k1q108 => k_asm); (case k2q108 => k_asm); (case k3q108 => k_asm); (case k4q108 => k_asm); (case k5q108 => k_asm); (case kKq108 => first | exact rfl | assumption); (case kdq108 => ktr_room); (case kuq108 => ktr_units); (case m0q108 => k_mem); (case m1q108 => k_mem); k_whole); intro z9 t9 h9 tk9 e9 F9 N9; (try k_sweep); (try dsimp only); (try k_fold); skip))
  k_with "call ref" => ((k_here; (with_reducible show wpAny _ _ (call (Value.ref 163) _ _) _ _ _); k_dflt (refine' sign_of_c ?k1q109 ?k2q109 ?k3q109 ?k4q109 ?k5q109 ?kKq109 ?kdq109 ?kuq109 ?m0q109 ?m1q109  ?_; (case k1q109 => k_asm); (case k2q109 => k_asm); (case k3q109 => k_asm); (case k4q109 => k_asm); (case k5q109 => k_asm); (case kKq109 => first | exact rfl | assumption); (case kdq109 => ktr_room); (case kuq109 => ktr_units); (case m0q109 => k_mem); (case m1q109 => k_mem); k_whole); intro z9 t9 h9 tk9 e9 F9 N9; (try k_sweep); (try dsimp only); (try k_fold); skip))
  k_with "call ref" => ((k_here; (with_reducible show wpAny _ _ (call (Value.ref 170) _ _) _ _ _); k_dflt (refine' same_real_c ?k1q110 ?k2q110 ?k3q110 ?k4q110 ?k5q110 ?kKq110 ?kdq110 ?kuq110 ?m0q110 ?m1q110 ?m2q110 ?m3q110  ?_; (case k1q110 => k_asm); (case k2q110 => k_asm); (case k3q110 => k_asm); (case k4q110 => k_asm); (case k5q110 => k_asm); (case kKq110 => first | exact rfl | assumption); (case kdq110 => ktr_room); (case kuq110 => ktr_units); (case m0q110 => k_mem); (case m1q110 => k_mem); (case m2q110 => k_mem); (case m3q110 => k_mem); k_whole); intro h9 tk9 F9 N9; (try k_sweep); (try dsimp only); (try k_fold); skip))
  k_with "call ref" => ((k_here; (with_reducible show wpAny _ _ (call (Value.ref 247) _ _) _ _ _); k_dflt (refine' fraction_of_c ?k1q111 ?k2q111 ?k3q111 ?k4q111 ?k5q111 ?kKq111 ?kdq111 ?kuq111 ?m0q111 ?m1q111 ?p0q111 ?p1q111 ?p2q111 ?_; (case k1q111 => k_asm); (case k2q111 => k_asm); (case k3q111 => k_asm); (case k4q111 => k_asm); (case k5q111 => k_asm); (case kKq111 => first | exact rfl | assumption); (case kdq111 => ktr_room); (case kuq111 => ktr_units); (case m0q111 => k_mem); (case m1q111 => k_mem); (case p0q111 => ktr_rel); (case p1q111 => first | with_reducible assumption | omega); (case p2q111 => first | with_reducible assumption | omega); k_whole); intro r9 z9 y9 t9 u9 h9 tk9 e9 f9 F9 N9; (try k_sweep); (try dsimp only); (try k_fold); skip))
  trivial
section
variable {w : World} {loose : List Str} {mean : ExcName → Option Value} {mg mb : Str → Option Value}
  {dp un : Nat} {gd : Option (List Code)} {cn : Str} {cs : Scope} {a : Addr} {ccd : Value} {cl : List (Str × Addr)} {outer : List Env} {A₀ : Around} {base h₀ : Heap} {L : Addr} {m : Str → Option Value} {news : List (Addr × Obj)} {s : Shared} {Q E : Value → Shared → Prop}

theorem odd_series_c {p x b : Int} {t1 t2 t3 t4 : Tok} {v : Int × Int}
  (B : Below A₀ base outer h₀) (F : Fr h₀ L s.heap m) (X : (hd.heap_1 w.params).In h₀) (N : News h₀ L s.heap (news)) (T : Top topProg loose mean mg mb h₀) (hk : cs.kind = .function)
  (hdp : dp + 9 < recursionLimit) (hun : un + 120 < cLine)
   (h0 : 0 ≤ p) (h1 : p < 9000) (hv : oddS p x b = some v)
  (hret : ∀ r z1 z2 u1 u2 h' tk', z1 = (v).1 → z2 = (v).2 → Fr h₀ L h' m → News h₀ L h' ((r, tupO z1 u1 z2 u2) :: news) → Q (.ref r) { s with heap := h', toks := tk' }) :
  wpAny (model Challenge.rw_nt0168_01.row.prog w) (ktrTop dp un gd cn cs L a ccd cl outer) (call (.ref 275) [.int p t1, .int x t2, .int b t3, .int 1 t4]) Q E s := by
  have hn : oddS p x b ≠ none := by rw [hv]; exact nofun
  obtain ⟨hb, hx, hsb, hf1, hf2, hq1, hq2, u, hv1, hv2⟩ := oddS_parts hn
  have hv3 := Option.some.inj (hv.symm.trans hv2)
  obtain ⟨N6, hN6, hv1⟩ : ∃ N, N ≤ 60 ∧ oddL N p (prodI p (fracB p x b) (fracB p x b)) (fracB p x b) (fracB p x b) 1 = some u := ⟨60, Nat.le_refl _, hv1⟩
  k_with "exec While Compare cons nil" => (subst_vars; (rename Fr _ _ _ _ => lF'); (rename News _ _ _ _ => lN'); (with_unfolding_all refine' ksw_while (σ := OS) (fun c => (c.aT, tupO c.T1 c.a c.T2 c.b) :: (c.aD, tupO c.D1 c.c c.D2 c.d) :: (c.aQ, tupO (prodI p (fracB p x b) (fracB p x b)).1 c.g (prodI p (fracB p x b) (fracB p x b)).2 c.h) :: news) (fun c => [(Str.ofString "square", .ref c.aQ), (Str.ofString "total", .ref c.aT), (Str.ofString "power", .ref c.aD), (Str.ofString "exponent", .int c.k c.f), (Str.ofString "now", .int 1 c.e)]) (fun _ => True) [] (fun c => oddL c.n p (prodI p (fracB p x b) (fracB p x b)) (c.D1, c.D2) (c.T1, c.T2) c.k = some u ∧ c.k + 2 * c.n ≤ 1000) (fun c => c.n) ⟨N6, _, _, _, _, _, _, _, _, _, _, _, _, _, _, _, _⟩ lF' ?kn ?kf ?kk ?kp ?_); (case kk => kst_all); (case kn => (exact kst_newsOf lN' (by (try dsimp only); (refine List.forall_mem_cons.mpr ⟨by k_mem, ?_⟩; refine List.forall_mem_cons.mpr ⟨by k_mem, ?_⟩; refine List.forall_mem_cons.mpr ⟨by k_mem, ?_⟩; (repeat (first | exact sub_refl | refine sub_cons ?_)); done)))); (case kf => trivial); (case kp => ((try dsimp only); exact ⟨hv1, by omega⟩)); (clear lF' lN'); intro c u h tk hf hP F' N'; obtain ⟨n, T1, T2, D1, D2, k, aT, aD, aQ, ta, tb, tc, td, te, tf, tg, th⟩ := c; dsimp only at hf hP F' N'; clear hf; obtain ⟨hP, hP2⟩ := hP; rcases n with _ | n; (· (simp [oddL] at hP)); by_cases hg : 1 < greatI (D1, D2); obtain ⟨hg1, hg2, hg3, hg4, hP⟩ := oddL_step hg hP; all_goals ((try dsimp only); (try k_fold)))
  refine wpAny_call ?_
  k_dflt ktr_enter
  k_steps
  · ((try dsimp only); (rename News _ _ _ _ => nE'); (rename Fr _ _ _ _ => fE'); refine' ksw_end ⟨n, _, _, _, _, _, _, _, _, _, _, _, _, _, _, _, _⟩ fE' nE' ?kn ?kf ?kk ?kr ?kp (Nat.lt_succ_self _); (case kk => kst_all); (case kn => ((try dsimp only); (refine List.forall_mem_cons.mpr ⟨by k_mem, ?_⟩; refine List.forall_mem_cons.mpr ⟨by k_mem, ?_⟩; refine List.forall_mem_cons.mpr ⟨by k_mem, ?_⟩; (repeat (first | exact sub_refl | refine sub_cons ?_)); done))); (case kf => trivial); (case kr => (intro z h2 h3; simp only [List.forall_mem_cons, List.not_mem_nil, false_implies, implies_true, and_true, ne_eq] at h2; simp [kstB, h2])); (case kp => ((try dsimp only); subst_vars; exact ⟨hP, by omega⟩)))

  all_goals (refine retT hret (by assumption) (by k_asm) (by k_mem) (by first | ((repeat (first | exact sub_refl | refine sub_cons ?_)); done) | (intro p hp; first | exact hp | (repeat (first | exact hp | refine List.mem_cons_of_mem _ ?_)))) ?_)
  all_goals (
    have e1 := Option.some.inj ((oddL_stop hg).symm.trans hP)
    first | rw [hv3, ← e1] | rw [← e1]
    (try law_clear)
    subst_vars
    rfl)
theorem reg_30 : True := by
  k_with "call ref" => ((k_here; (with_reducible show wpAny _ _ (call (Value.ref 275) _ _) _ _ _); k_dflt (refine' odd_series_c ?k1q112 ?k2q112 ?k3q112 ?k4q112 ?k5q112 ?kKq112 ?kdq112 ?kuq112  ?p0q112 ?p1q112 ?p2q112 ?_; (case k1q112 => k_asm); (case k2q112 => k_asm); (case k3q112 => k_asm); (case k4q112 => k_asm); (case k5q112 => k_asm); (case kKq112 => first | exact rfl | assumption); (case kdq112 => ktr_room); (case kuq112 => ktr_units); (case p0q112 => first | with_reducible assumption | omega); (case p1q112 => first | with_reducible assumption | omega); (case p2q112 => first | with_reducible assumption | k_dflt (have hq := (‹oddS _ _ _ = some _›); refine Eq.trans ?_ hq; law_clear; subst_vars; exact rfl) | kwd_less); k_whole); intro r9 z9 y9 t9 u9 h9 tk9 e9 f9 F9 N9; (try k_sweep); (try dsimp only); (try k_fold); skip))
  trivial
end
end
section
open PySem PySem.W PySem.Spec PySem.Calls PyProof.Rows
set_option Elab.async false
set_option maxRecDepth 100000
set_option maxHeartbeats 0
theorem reg_31 : True := by
  k_with_none
  k_with "lt9" => (first | with_reducible assumption | (refine ltc (by with_reducible assumption) ?_; first | exact pj1 | exact pj2 | exact pj3 | exact pj4 | exact pj5 | exact pj6 | exact pj7 | exact pj8 | exact pj9 | exact pj10 | exact pj11 | exact pj12 | exact pj13 | exact pj14 | exact qj1 | exact qj2 | exact qj3 | exact qj4 | exact qj5 | exact qj6 | exact qj7 | exact qj8 | exact qj9 | exact qj10 | exact qj11 | exact qj12 | exact qj13 | exact qj14))
  k_with "ne9" => (first | decide | (refine Nat.ne_of_lt ?_; walk_at "lt9") | (refine Nat.ne_of_gt ?_; walk_at "lt9") | exact Nat.ne_of_lt (Nat.lt_succ_self _) | exact Nat.ne_of_gt (Nat.lt_succ_self _) | (refine ne_up1 ?_; walk_at "lt9") | (refine ne_up2 ?_; walk_at "lt9") | (refine Ne.symm (ne_up1 ?_); walk_at "lt9") | (refine Ne.symm (ne_up2 ?_); walk_at "lt9"))
  trivial
-- Sm facts
theorem reg_32 : True := by
  k_with "eval Constant int" => (refine const_intN ?_)
  k_with "binaryOp Add int int" => (with_reducible refine add_intN ?_)
  k_with "binaryOp Sub int int" => (with_reducible refine sub_intN ?_)
  k_with "binaryOp Mult int int" => (with_reducible refine mul_intN ?_)
  k_with "binaryOp FloorDiv int int" => ((k_here; (with_reducible refine floordiv_intN ?feq119 ?_ (Sm.py ?fpq119)); (case feq119 => first | decide | omega | assumption); (case fpq119 => ktr_rel)))
  k_with "binaryOp LShift int int" => ((k_here; (with_reducible refine lshift_intN ?feq120 ?fpq120 ?_); (case feq120 => omega); (case fpq120 => exact Sm.shl (by ktr_rel) (by omega))))
  k_with "ite" => ((k_here; k_openite; k_spoken; first
  | (refine ite_pos (by ((try simp only [beq_iff_eq, bne_iff_ne, ne_eq, Bool.not_eq_true', beq_eq_false_iff_ne]); (try law_clear); (try subst_vars); first | assumption | exact decide_eq_true rfl | exact Int.not_le.mp (by assumption) | exact Int.not_lt.mp (by assumption) | (law_clear; omega))) ?_; walk_say "PRUNED own")
  | (refine ite_neg (by ((try simp only [beq_iff_eq, bne_iff_ne, ne_eq, Bool.not_eq_true', beq_eq_false_iff_ne]); (try law_clear); (try subst_vars); first | assumption | exact Int.not_le.mpr (by assumption) | exact Int.not_lt.mpr (by assumption) | (law_clear; omega))) ?_; walk_say "PRUNED own")))
  k_with "subscriptTail" => ((k_here; (with_reducible show wpAny _ _ (subscriptTail _ _ (Value.ref _) (Value.int _ _)) _ _ _); k_dflt (refine' item_tupleT ?tq122 ?aq122 ?bq122 ?cq122 ?dq122 ?_; (case tq122 => exact News.isTup (by k_asm) (by k_mem)); (case aq122 => decide); (case bq122 => decide); (case cq122 => rfl); (case dq122 => rfl); k_whole)))
  k_with "subscriptTail Name Constant ref int" => ((k_here; (with_reducible show wpAny _ _ (subscriptTail _ _ (Value.ref _) (Value.int _ _)) _ _ _); k_dflt (refine' item_tupleT ?tq123 ?aq123 ?bq123 ?cq123 ?dq123 ?_; (case tq123 => exact News.isTup (by k_asm) (by k_mem)); (case aq123 => decide); (case bq123 => decide); (case cq123 => rfl); (case dq123 => rfl); k_whole)))
  k_with "callWith ref" => ((k_here; k_dflt (refine' callWith_K ?k1q124 ?k2q124 ?_; (case k1q124 => k_asm); (case k2q124 => k_is); k_whole)))
  k_with "call builtin:divmod" => ((k_here; (with_reducible show wpAny _ _ (call (Value.builtin _) [Value.int _ _, Value.int _ _]) _ _ _); k_dflt (refine' divmod_N ?k1q125 ?k2q125 ?feq125 ?_ (Or.inl (Sm.py ?fpq125)); (case k1q125 => k_asm); (case k2q125 => k_asm); (case feq125 => first | omega | exact Int.ne_of_gt (Int.mul_pos (by omega) (pow2_pos _))); (case fpq125 => ktr_rel)); intro h' F' N'; (try k_sweep)))
  k_with "call builtin:max" => ((k_here; (with_reducible show wpAny _ _ (call (Value.builtin _) [Value.ref _]) _ _ _); k_dflt (first
  | (refine' max_tup ?k0q126 ?k1q126 ?k2q126 ?k3q126 ?_; (case k0q126 => exact rfl); (case k1q126 => k_asm); (case k2q126 => k_asm); (case k3q126 => exact News.isTup (by k_asm) (by k_mem)))
  | (refine' max_list4 ?k0q126 ?k1q126 ?k2q126 ?k3q126 ?_; (case k0q126 => exact rfl); (case k1q126 => k_asm); (case k2q126 => k_asm); (case k3q126 => exact News.isList (by k_asm) (by k_mem)))); k_whole; intro h' r' tk' F' N'; (try k_sweep)))
  k_with "call builtin:min" => ((k_here; (with_reducible show wpAny _ _ (call (Value.builtin _) [Value.ref _]) _ _ _); k_dflt (first
  | (refine' min_tup ?k0q127 ?k1q127 ?k2q127 ?k3q127 ?_; (case k0q127 => exact rfl); (case k1q127 => k_asm); (case k2q127 => k_asm); (case k3q127 => exact News.isTup (by k_asm) (by k_mem)))
  | (refine' min_list4 ?k0q127 ?k1q127 ?k2q127 ?k3q127 ?_; (case k0q127 => exact rfl); (case k1q127 => k_asm); (case k2q127 => k_asm); (case k3q127 => exact News.isList (by k_asm) (by k_mem)))); k_whole; intro h' r' tk' F' N'; (try k_sweep)))
  k_with "newTuple" => ((k_here; k_dflt (refine' newTupN ?Fq128 ?Nq128 ?_ ?zq128; (case Fq128 => k_asm); (case Nq128 => k_asm); (case zq128 => kmk_size)); intro D' h' F' N'; (try k_sweep)))
  k_with "call ref" => ((k_here; (with_reducible show wpAny _ _ (call (Value.ref 100) _ _) _ _ _); k_dflt (refine' size_of_c ?k1q129 ?k2q129 ?k3q129 ?k4q129 ?k5q129 ?kKq129 ?kdq129 ?kuq129   ?_; (case k1q129 => k_asm); (case k2q129 => k_asm); (case k3q129 => k_asm); (case k4q129 => k_asm); (case k5q129 => k_asm); (case kKq129 => first | exact rfl | assumption); (case kdq129 => ktr_room); (case kuq129 => ktr_units); k_whole); intro z9 t9 h9 tk9 e9 F9 N9; (try k_sweep); (try dsimp only); (try k_fold); skip))
  k_with "call ref" => ((k_here; (with_reducible show wpAny _ _ (call (Value.ref 107) _ _) _ _ _); k_dflt (refine' sign_of_whole_c ?k1q130 ?k2q130 ?k3q130 ?k4q130 ?k5q130 ?kKq130 ?kdq130 ?kuq130   ?_; (case k1q130 => k_asm); (case k2q130 => k_asm); (case k3q130 => k_asm); (case k4q130 => k_asm); (case k5q130 => k_asm); (case kKq130 => first | exact rfl | assumption); (case kdq130 => ktr_room); (case kuq130 => ktr_units); k_whole); intro z9 t9 h9 tk9 e9 F9 N9; (try k_sweep); (try dsimp only); (try k_fold); skip))
  k_with "call ref" => ((k_here; (with_reducible show wpAny _ _ (call (Value.ref 114) _ _) _ _ _); k_dflt (refine' zeros_below_c ?k1q131 ?k2q131 ?k3q131 ?k4q131 ?k5q131 ?kKq131 ?kdq131 ?kuq131   ?_; (case k1q131 => k_asm); (case k2q131 => k_asm); (case k3q131 => k_asm); (case k4q131 => k_asm); (case k5q131 => k_asm); (case kKq131 => first | exact rfl | assumption); (case kdq131 => ktr_room); (case kuq131 => ktr_units); k_whole); intro z9 t9 h9 tk9 e9 F9 N9; (try k_sweep); (try dsimp only); (try k_fold); skip))
  k_with "call ref" => ((k_here; (with_reducible show wpAny _ _ (call (Value.ref 177) _ _) _ _ _); k_dflt (refine' up_shift_c ?k1q132 ?k2q132 ?k3q132 ?k4q132 ?k5q132 ?kKq132 ?kdq132 ?kuq132  ?p0q132 ?_; (case k1q132 => k_asm); (case k2q132 => k_asm); (case k3q132 => k_asm); (case k4q132 => k_asm); (case k5q132 => k_asm); (case kKq132 => first | exact rfl | assumption); (case kdq132 => ktr_room); (case kuq132 => ktr_units); (case p0q132 => first | with_reducible assumption | omega); k_whole); intro z9 t9 h9 tk9 e9 F9 N9; (try k_sweep); (try dsimp only); (try k_fold); skip))
  k_with "call ref" => ((k_here; (with_reducible show wpAny _ _ (call (Value.ref 184) _ _) _ _ _); k_dflt (refine' up_over_c ?k1q133 ?k2q133 ?k3q133 ?k4q133 ?k5q133 ?kKq133 ?kdq133 ?kuq133  ?p0q133 ?p1q133 ?_; (case k1q133 => k_asm); (case k2q133 => k_asm); (case k3q133 => k_asm); (case k4q133 => k_asm); (case k5q133 => k_asm); (case kKq133 => first | exact rfl | assumption); (case kdq133 => ktr_room); (case kuq133 => ktr_units); (case p0q133 => first | with_reducible assumption | omega); (case p1q133 => ktr_rel); k_whole); intro z9 t9 h9 tk9 e9 F9 N9; (try k_sweep); (try dsimp only); (try k_fold); skip))
  k_with "call ref" => ((k_here; (with_reducible show wpAny _ _ (call (Value.ref 142) _ _) _ _ _); k_dflt (refine' with_sticky_c ?k1q134 ?k2q134 ?k3q134 ?k4q134 ?k5q134 ?kKq134 ?kdq134 ?kuq134   ?_; (case k1q134 => k_asm); (case k2q134 => k_asm); (case k3q134 => k_asm); (case k4q134 => k_asm); (case k5q134 => k_asm); (case kKq134 => first | exact rfl | assumption); (case kdq134 => ktr_room); (case kuq134 => ktr_units); k_whole); intro z9 t9 h9 tk9 e9 F9 N9; (try k_sweep); (try dsimp only); (try k_fold); skip))
  k_with "call ref" => ((k_here; (with_reducible show wpAny _ _ (call (Value.ref 128) _ _) _ _ _); k_dflt (refine' nearest_shift_c ?k1q135 ?k2q135 ?k3q135 ?k4q135 ?k5q135 ?kKq135 ?kdq135 ?kuq135  ?p0q135 ?p1q135 ?_; (case k1q135 => k_asm); (case k2q135 => k_asm); (case k3q135 => k_asm); (case k4q135 => k_asm); (case k5q135 => k_asm); (case kKq135 => first | exact rfl | assumption); (case kdq135 => ktr_room); (case kuq135 => ktr_units); (case p0q135 => first | with_reducible assumption | omega); (case p1q135 => first | with_reducible assumption | omega); k_whole); intro z9 t9 h9 tk9 e9 F9 N9; (try k_sweep); (try dsimp only); (try k_fold); skip))
  k_with "call ref" => ((k_here; (with_reducible show wpAny _ _ (call (Value.ref 198) _ _) _ _ _); k_dflt (refine' more_of_c ?k1q136 ?k2q136 ?k3q136 ?k4q136 ?k5q136 ?kKq136 ?kdq136 ?kuq136 ?m0q136 ?m1q136  ?_; (case k1q136 => k_asm); (case k2q136 => k_asm); (case k3q136 => k_asm); (case k4q136 => k_asm); (case k5q136 => k_asm); (case kKq136 => first | exact rfl | assumption); (case kdq136 => ktr_room); (case kuq136 => ktr_units); (case m0q136 => k_mem); (case m1q136 => k_mem); k_whole); intro r9 z9 y9 t9 u9 h9 tk9 e9 f9 F9 N9; (try k_sweep); (try dsimp only); (try k_fold); skip))
  k_with "call ref" => ((k_here; (with_reducible show wpAny _ _ (call (Value.ref 205) _ _) _ _ _); k_dflt (refine' less_of_c ?k1q137 ?k2q137 ?k3q137 ?k4q137 ?k5q137 ?kKq137 ?kdq137 ?kuq137 ?m0q137 ?m1q137  ?_; (case k1q137 => k_asm); (case k2q137 => k_asm); (case k3q137 => k_asm); (case k4q137 => k_asm); (case k5q137 => k_asm); (case kKq137 => first | exact rfl | assumption); (case kdq137 => ktr_room); (case kuq137 => ktr_units); (case m0q137 => k_mem); (case m1q137 => k_mem); k_whole); intro r9 z9 y9 t9 u9 h9 tk9 e9 f9 F9 N9; (try k_sweep); (try dsimp only); (try k_fold); skip))
  k_with "call ref" => ((k_here; (with_reducible show wpAny _ _ (call (Value.ref 212) _ _) _ _ _); k_dflt (refine' often_c ?k1q138 ?k2q138 ?k3q138 ?k4q138 ?k5q138 ?kKq138 ?kdq138 ?kuq138 ?m0q138 ?p0q138 ?p1q138 ?_; (case k1q138 => k_asm); (case k2q138 => k_asm); (case k3q138 => k_asm); (case k4q138 => k_asm); (case k5q138 => k_asm); (case kKq138 => first | exact rfl | assumption); (case kdq138 => ktr_room); (case kuq138 => ktr_units); (case m0q138 => k_mem); (case p0q138 => mul_fits); (case p1q138 => mul_fits); k_whole); intro r9 z9 y9 t9 u9 h9 tk9 e9 f9 F9 N9; (try k_sweep); (try dsimp only); (try k_fold); skip))
  k_with "call ref" => ((k_here; (with_reducible show wpAny _ _ (call (Value.ref 233) _ _) _ _ _); k_dflt (refine' widened_c ?k1q139 ?k2q139 ?k3q139 ?k4q139 ?k5q139 ?kKq139 ?kdq139 ?kuq139 ?m0q139  ?_; (case k1q139 => k_asm); (case k2q139 => k_asm); (case k3q139 => k_asm); (case k4q139 => k_asm); (case k5q139 => k_asm); (case kKq139 => first | exact rfl | assumption); (case kdq139 => ktr_room); (case kuq139 => ktr_units); (case m0q139 => k_mem); k_whole); intro r9 z9 y9 t9 u9 h9 tk9 e9 f9 F9 N9; (try k_sweep); (try dsimp only); (try k_fold); skip))
  k_with "call ref" => ((k_here; (with_reducible show wpAny _ _ (call (Value.ref 240) _ _) _ _ _); k_dflt (refine' greatest_of_c ?k1q140 ?k2q140 ?k3q140 ?k4q140 ?k5q140 ?kKq140 ?kdq140 ?kuq140 ?m0q140  ?_; (case k1q140 => k_asm); (case k2q140 => k_asm); (case k3q140 => k_asm); (case k4q140 => k_asm); (case k5q140 => k_asm); (case kKq140 => first | exact rfl | assumption); (case kdq140 => ktr_room); (case kuq140 => ktr_units); (case m0q140 => k_mem); k_whole); intro z9 t9 h9 tk9 e9 F9 N9; (try k_sweep); (try dsimp only); (try k_fold); skip))
  k_with "call ref" => ((k_here; (with_reducible show wpAny _ _ (call (Value.ref 226) _ _) _ _ _); k_dflt (refine' part_of_c ?k1q141 ?k2q141 ?k3q141 ?k4q141 ?k5q141 ?kKq141 ?kdq141 ?kuq141 ?m0q141 ?p0q141 ?p1q141 ?_; (case k1q141 => k_asm); (case k2q141 => k_asm); (case k3q141 => k_asm); (case k4q141 => k_asm); (case k5q141 => k_asm); (case kKq141 => first | exact rfl | assumption); (case kdq141 => ktr_room); (case kuq141 => ktr_units); (case m0q141 => k_mem); (case p0q141 => first | with_reducible assumption | omega); (case p1q141 => ktr_rel); k_whole); intro r9 z9 y9 t9 u9 h9 tk9 e9 f9 F9 N9; (try k_sweep); (try dsimp only); (try k_fold); skip))
  k_with "call ref" => ((k_here; (with_reducible show wpAny _ _ (call (Value.ref 219) _ _) _ _ _); k_dflt (refine' product_of_c ?k1q142 ?k2q142 ?k3q142 ?k4q142 ?k5q142 ?kKq142 ?kdq142 ?kuq142 ?m0q142 ?m1q142 ?p0q142 ?p1q142 ?p2q142 ?p3q142 ?p4q142 ?_; (case k1q142 => k_asm); (case k2q142 => k_asm); (case k3q142 => k_asm); (case k4q142 => k_asm); (case k5q142 => k_asm); (case kKq142 => first | exact rfl | assumption); (case kdq142 => ktr_room); (case kuq142 => ktr_units); (case m0q142 => k_mem); (case m1q142 => k_mem); (case p0q142 => first | with_reducible assumption | omega); (case p1q142 => ktr_rel); (case p2q142 => ktr_rel); (case p3q142 => ktr_rel); (case p4q142 => ktr_rel); k_whole); intro r9 z9 y9 t9 u9 h9 tk9 e9 f9 F9 N9; (try k_sweep); (try dsimp only); (try k_fold); skip))
  k_with "call ref" => ((k_here; (with_reducible show wpAny _ _ (call (Value.ref 191) _ _) _ _ _); k_dflt (refine' fraction_bounds_c ?k1q143 ?k2q143 ?k3q143 ?k4q143 ?k5q143 ?kKq143 ?kdq143 ?kuq143  ?p0q143 ?p1q143 ?p2q143 ?p3q143 ?p4q143 ?_; (case k1q143 => k_asm); (case k2q143 => k_asm); (case k3q143 => k_asm); (case k4q143 => k_asm); (case k5q143 => k_asm); (case kKq143 => first | exact rfl | assumption); (case kdq143 => ktr_room); (case kuq143 => ktr_units); (case p0q143 => first | with_reducible assumption | omega); (case p1q143 => first | with_reducible assumption | omega); (case p2q143 => ktr_rel); (case p3q143 => first | with_reducible assumption | omega); (case p4q143 => ktr_rel); k_whole); intro r9 z9 y9 t9 u9 h9 tk9 e9 f9 F9 N9; (try k_sweep); (try dsimp only); (try k_fold); skip))
  k_with "call ref" => ((k_here; (with_reducible show wpAny _ _ (call (Value.ref 89) _ _) _ _ _); k_dflt (refine' real_c ?k1q144 ?k2q144 ?k3q144 ?k4q144 ?k5q144 ?kKq144 ?kdq144 ?kuq144   ?_; (case k1q144 => k_asm); (case k2q144 => k_asm); (case k3q144 => k_asm); (case k4q144 => k_asm); (case k5q144 => k_asm); (case kKq144 => first | exact rfl | assumption); (case kdq144 => ktr_room); (case kuq144 => ktr_units); k_whole); intro r9 d9 z9 y9 j9 t9 i9 u9 h9 tk9 e9 f9 F9 N9; (try k_sweep); (try dsimp only); (try k_fold); skip))
  k_with "call ref" => ((k_here; (with_reducible show wpAny _ _ (call (Value.ref 156) _ _) _ _ _); k_dflt (refine' place_of_c ?k1q145 ?k2q145 ?k3q145 ?k4q145 ?k5q145 ?kKq145 ?kdq145 ?kuq145 ?m0q145 ?m1q145  ?_; (case k1q145 => k_asm); (case k2q145 => k_asm); (case k3q145 => k_asm); (case k4q145 => k_asm); (case k5q145 => k_asm); (case kKq145 => first | exact rfl | assumption); (case kdq145 => ktr_room); (case kuq145 => ktr_units); (case m0q145 => k_mem); (case m1q145 => k_mem); k_whole); intro z9 t9 h9 tk9 e9 F9 N9; (try k_sweep); (try dsimp only); (try k_fold); skip))
  k_with "call ref" => ((k_here; (with_reducible show wpAny _ _ (call (Value.ref 163) _ _) _ _ _); k_dflt (refine' sign_of_c ?k1q146 ?k2q146 ?k3q146 ?k4q146 ?k5q146 ?kKq146 ?kdq146 ?kuq146 ?m0q146 ?m1q146  ?_; (case k1q146 => k_asm); (case k2q146 => k_asm); (case k3q146 => k_asm); (case k4q146 => k_asm); (case k5q146 => k_asm); (case kKq146 => first | exact rfl | assumption); (case kdq146 => ktr_room); (case kuq146 => ktr_units); (case m0q146 => k_mem); (case m1q146 => k_mem); k_whole); intro z9 t9 h9 tk9 e9 F9 N9; (try k_sweep); (try dsimp only); (try k_fold); skip))
  k_with "call ref" => ((k_here; (with_reducible show wpAny _ _ (call (Value.ref 170) _ _) _ _ _); k_dflt (refine' same_real_c ?k1q147 ?k2q147 ?k3q147 ?k4q147 ?k5q147 ?kKq147 ?kdq147 ?kuq147 ?m0q147 ?m1q147 ?m2q147 ?m3q147  ?_; (case k1q147 => k_asm); (case k2q147 => k_asm); (case k3q147 => k_asm); (case k4q147 => k_asm); (case k5q147 => k_asm); (case kKq147 => first | exact rfl | assumption); (case kdq147 => ktr_room); (case kuq147 => ktr_units); (case m0q147 => k_mem); (case m1q147 => k_mem); (case m2q147 => k_mem); (case m3q147 => k_mem); k_whole); intro h9 tk9 F9 N9; (try k_sweep); (try dsimp only); (try k_fold); skip))
  k_with "call ref" => ((k_here; (with_reducible show wpAny _ _ (call (Value.ref 247) _ _) _ _ _); k_dflt (refine' fraction_of_c ?k1q148 ?k2q148 ?k3q148 ?k4q148 ?k5q148 ?kKq148 ?kdq148 ?kuq148 ?m0q148 ?m1q148 ?p0q148 ?p1q148 ?p2q148 ?_; (case k1q148 => k_asm); (case k2q148 => k_asm); (case k3q148 => k_asm); (case k4q148 => k_asm); (case k5q148 => k_asm); (case kKq148 => first | exact rfl | assumption); (case kdq148 => ktr_room); (case kuq148 => ktr_units); (case m0q148 => k_mem); (case m1q148 => k_mem); (case p0q148 => ktr_rel); (case p1q148 => first | with_reducible assumption | omega); (case p2q148 => first | with_reducible assumption | omega); k_whole); intro r9 z9 y9 t9 u9 h9 tk9 e9 f9 F9 N9; (try k_sweep); (try dsimp only); (try k_fold); skip))
  trivial
section
variable {w : World} {loose : List Str} {mean : ExcName → Option Value} {mg mb : Str → Option Value}
  {dp un : Nat} {gd : Option (List Code)} {cn : Str} {cs : Scope} {a : Addr} {ccd : Value} {cl : List (Str × Addr)} {outer : List Env} {A₀ : Around} {base h₀ : Heap} {L : Addr} {m : Str → Option Value} {news : List (Addr × Obj)} {s : Shared} {Q E : Value → Shared → Prop}

theorem lean_c {x y : Int} {t1 t2 : Tok} {v : Int × Int}
  (B : Below A₀ base outer h₀) (F : Fr h₀ L s.heap m) (X : (hd.heap_1 w.params).In h₀) (N : News h₀ L s.heap (news)) (T : Top topProg loose mean mg mb h₀) (hk : cs.kind = .function)
  (hdp : dp + 9 < recursionLimit) (hun : un + 120 < cLine)
   (hv : leanF x y = some v)
  (hret : ∀ r d z1 z2 j u1 k u2 h' tk', z1 = (v).1 → z2 = (v).2 → Fr h₀ L h' m → News h₀ L h' ((r, instObj (nat_lit 89) d) :: (d, realO w j z1 u1 k z2 u2) :: news) → Q (.ref r) { s with heap := h', toks := tk' }) :
  wpAny (model Challenge.rw_nt0168_01.row.prog w) (ktrTop dp un gd cn cs L a ccd cl outer) (call (.ref 121) [.int x t1, .int y t2]) Q E s := by
  have hn : leanF x y ≠ none := by rw [hv]; exact nofun
  by_cases hx : x = 0
  · subst hx
    have hv1 := Option.some.inj (hv.symm.trans leanF_zero)
    refine wpAny_call ?_
    k_dflt ktr_enter
    k_steps
    all_goals (refine retR hret (by assumption) (by k_asm) (by k_mem) (by k_mem) (by first | ((repeat (first | exact sub_refl | refine sub_cons ?_)); done) | (intro p hp; first | exact hp | (repeat (first | exact hp | refine List.mem_cons_of_mem _ ?_)))) ?_)
    all_goals ((try law_clear); subst_vars; rfl)
  · obtain ⟨hp1, hp2, hp3⟩ := leanF_parts hn hx
    have hv1 := Option.some.inj (hv.symm.trans hp3)
    refine wpAny_call ?_
    k_dflt ktr_enter
    k_steps
    · exfalso; subst_vars; exact absurd ‹(65536 : Int) < _› (Int.not_lt.mpr hp1)
    all_goals (refine retR hret (by assumption) (by k_asm) (by k_mem) (by k_mem) (by first | ((repeat (first | exact sub_refl | refine sub_cons ?_)); done) | (intro p hp; first | exact hp | (repeat (first | exact hp | refine List.mem_cons_of_mem _ ?_)))) ?_)
    all_goals (rw [hv1, p2_eq]; (try law_clear); subst_vars; rfl)
theorem reg_33 : True := by
  k_with "call ref" => ((k_here; (with_reducible show wpAny _ _ (call (Value.ref 121) _ _) _ _ _); k_dflt (refine' lean_c ?k1q149 ?k2q149 ?k3q149 ?k4q149 ?k5q149 ?kKq149 ?kdq149 ?kuq149  ?p0q149 ?_; (case k1q149 => k_asm); (case k2q149 => k_asm); (case k3q149 => k_asm); (case k4q149 => k_asm); (case k5q149 => k_asm); (case kKq149 => first | exact rfl | assumption); (case kdq149 => ktr_room); (case kuq149 => ktr_units); (case p0q149 => first | with_reducible assumption | k_dflt (have hq := (‹leanF _ _ = some _›); refine Eq.trans ?_ hq; law_clear; subst_vars; exact rfl) | kwd_less); k_whole); intro r9 d9 z9 y9 j9 t9 i9 u9 h9 tk9 e9 f9 F9 N9; (try k_sweep); (try dsimp only); (try k_fold); skip))
  trivial
theorem shifted_round_c {p x y : Int} {t1 t2 t3 : Tok} {v : Int × Int}
  (B : Below A₀ base outer h₀) (F : Fr h₀ L s.heap m) (X : (hd.heap_1 w.params).In h₀) (N : News h₀ L s.heap (news)) (T : Top topProg loose mean mg mb h₀) (hk : cs.kind = .function)
  (hdp : dp + 12 < recursionLimit) (hun : un + 160 < cLine)
   (hv : shiftedF p x y = some v)
  (hret : ∀ r d z1 z2 j u1 k u2 h' tk', z1 = (v).1 → z2 = (v).2 → Fr h₀ L h' m → News h₀ L h' ((r, instObj (nat_lit 89) d) :: (d, realO w j z1 u1 k z2 u2) :: news) → Q (.ref r) { s with heap := h', toks := tk' }) :
  wpAny (model Challenge.rw_nt0168_01.row.prog w) (ktrTop dp un gd cn cs L a ccd cl outer) (call (.ref 135) [.int p t3, .int x t1, .int y t2]) Q E s := by
  have hn : shiftedF p x y ≠ none := by rw [hv]; exact nofun
  by_cases hx : szI x - p ≤ 0
  · rw [shiftedF_lean (e := y) hx] at hv
    refine wpAny_call ?_
    k_dflt ktr_enter
    k_steps
    all_goals (refine retR hret (by assumption) (by k_asm) (by k_mem) (by k_mem) (by first | ((repeat (first | exact sub_refl | refine sub_cons ?_)); done) | (intro p hp; first | exact hp | (repeat (first | exact hp | refine List.mem_cons_of_mem _ ?_)))) ?_)
    all_goals ((try law_clear); subst_vars; rfl)
  · obtain ⟨hp1, hs1, hv1⟩ := shiftedF_parts hn hx
    rw [hv1] at hv
    refine wpAny_call ?_
    k_dflt ktr_enter
    k_steps
    all_goals (refine retR hret (by assumption) (by k_asm) (by k_mem) (by k_mem) (by first | ((repeat (first | exact sub_refl | refine sub_cons ?_)); done) | (intro p hp; first | exact hp | (repeat (first | exact hp | refine List.mem_cons_of_mem _ ?_)))) ?_)
    all_goals ((try law_clear); subst_vars; rfl)
theorem reg_34 : True := by
  k_with "call ref" => ((k_here; (with_reducible show wpAny _ _ (call (Value.ref 135) _ _) _ _ _); k_dflt (refine' shifted_round_c ?k1q150 ?k2q150 ?k3q150 ?k4q150 ?k5q150 ?kKq150 ?kdq150 ?kuq150  ?p0q150 ?_; (case k1q150 => k_asm); (case k2q150 => k_asm); (case k3q150 => k_asm); (case k4q150 => k_asm); (case k5q150 => k_asm); (case kKq150 => first | exact rfl | assumption); (case kdq150 => ktr_room); (case kuq150 => ktr_units); (case p0q150 => first | with_reducible assumption | k_dflt (have hq := (‹shiftedF _ _ _ = some _›); refine Eq.trans ?_ hq; law_clear; subst_vars; exact rfl) | kwd_less); k_whole); intro r9 d9 z9 y9 j9 t9 i9 u9 h9 tk9 e9 f9 F9 N9; (try k_sweep); (try dsimp only); (try k_fold); skip))
  trivial
theorem rounded_c {p x b : Int} {t1 t2 t3 : Tok} {v : Int × Int}
  (B : Below A₀ base outer h₀) (F : Fr h₀ L s.heap m) (X : (hd.heap_1 w.params).In h₀) (N : News h₀ L s.heap (news)) (T : Top topProg loose mean mg mb h₀) (hk : cs.kind = .function)
  (hdp : dp + 15 < recursionLimit) (hun : un + 200 < cLine)
   (hv : roundF p x b = some v)
  (hret : ∀ r d z1 z2 j u1 k u2 h' tk', z1 = (v).1 → z2 = (v).2 → Fr h₀ L h' m → News h₀ L h' ((r, instObj (nat_lit 89) d) :: (d, realO w j z1 u1 k z2 u2) :: news) → Q (.ref r) { s with heap := h', toks := tk' }) :
  wpAny (model Challenge.rw_nt0168_01.row.prog w) (ktrTop dp un gd cn cs L a ccd cl outer) (call (.ref 149) [.int p t3, .int x t1, .int b t2]) Q E s := by
  have hn : roundF p x b ≠ none := by rw [hv]; exact nofun
  by_cases hx : x = 0
  · subst hx
    have hv1 := Option.some.inj (hv.symm.trans roundF_zero)
    refine wpAny_call ?_
    k_dflt ktr_enter
    k_steps
    all_goals (refine retR hret (by assumption) (by k_asm) (by k_mem) (by k_mem) (by first | ((repeat (first | exact sub_refl | refine sub_cons ?_)); done) | (intro p hp; first | exact hp | (repeat (first | exact hp | refine List.mem_cons_of_mem _ ?_)))) ?_)
    all_goals ((try law_clear); subst_vars; rfl)
  · obtain ⟨hb, hs1, hs2, hp1, hp2, ⟨hp3, hs3, hv1⟩ | ⟨hp3, hs3, hs4, hv1⟩⟩ := roundF_parts hn hx
    · rw [hv1] at hv
      simp only [p2_eq] at hs3 hv
      refine wpAny_call ?_
      k_dflt ktr_enter
      k_steps
      all_goals (refine retR hret (by assumption) (by k_asm) (by k_mem) (by k_mem) (by first | ((repeat (first | exact sub_refl | refine sub_cons ?_)); done) | (intro p hp; first | exact hp | (repeat (first | exact hp | refine List.mem_cons_of_mem _ ?_)))) ?_)
      all_goals ((try law_clear); subst_vars; rfl)
    · rw [hv1] at hv
      simp only [p2_eq] at hs3 hs4 hv
      refine wpAny_call ?_
      k_dflt ktr_enter
      k_steps
      all_goals (refine retR hret (by assumption) (by k_asm) (by k_mem) (by k_mem) (by first | ((repeat (first | exact sub_refl | refine sub_cons ?_)); done) | (intro p hp; first | exact hp | (repeat (first | exact hp | refine List.mem_cons_of_mem _ ?_)))) ?_)
      all_goals ((try law_clear); subst_vars; rfl)
theorem reg_35 : True := by
  k_with "call ref" => ((k_here; (with_reducible show wpAny _ _ (call (Value.ref 149) _ _) _ _ _); k_dflt (refine' rounded_c ?k1q151 ?k2q151 ?k3q151 ?k4q151 ?k5q151 ?kKq151 ?kdq151 ?kuq151  ?p0q151 ?_; (case k1q151 => k_asm); (case k2q151 => k_asm); (case k3q151 => k_asm); (case k4q151 => k_asm); (case k5q151 => k_asm); (case kKq151 => first | exact rfl | assumption); (case kdq151 => ktr_room); (case kuq151 => ktr_units); (case p0q151 => first | with_reducible assumption | k_dflt (refine ev3 rfl (by first | with_reducible assumption | exact rfl) (by first | with_reducible assumption | exact rfl) (by assumption)) | kwd_less); k_whole); intro r9 d9 z9 y9 j9 t9 i9 u9 h9 tk9 e9 f9 F9 N9; (try k_sweep); (try dsimp only); (try k_fold); skip))
  trivial
end
end
section
open PySem PySem.W PySem.Spec PySem.Calls PyProof.Rows
set_option Elab.async false
set_option maxRecDepth 100000
set_option maxHeartbeats 0
theorem reg_36 : True := by
  k_with_none
  k_with "lt9" => (first | with_reducible assumption | (refine ltc (by with_reducible assumption) ?_; first | exact pj1 | exact pj2 | exact pj3 | exact pj4 | exact pj5 | exact pj6 | exact pj7 | exact pj8 | exact pj9 | exact pj10 | exact pj11 | exact pj12 | exact pj13 | exact pj14 | exact qj1 | exact qj2 | exact qj3 | exact qj4 | exact qj5 | exact qj6 | exact qj7 | exact qj8 | exact qj9 | exact qj10 | exact qj11 | exact qj12 | exact qj13 | exact qj14))
  k_with "ne9" => (first | decide | (refine Nat.ne_of_lt ?_; walk_at "lt9") | (refine Nat.ne_of_gt ?_; walk_at "lt9") | exact Nat.ne_of_lt (Nat.lt_succ_self _) | exact Nat.ne_of_gt (Nat.lt_succ_self _) | (refine ne_up1 ?_; walk_at "lt9") | (refine ne_up2 ?_; walk_at "lt9") | (refine Ne.symm (ne_up1 ?_); walk_at "lt9") | (refine Ne.symm (ne_up2 ?_); walk_at "lt9"))
  trivial
-- Sm facts
theorem reg_37 : True := by
  k_with "eval Constant int" => (refine const_intN ?_)
  k_with "binaryOp Add int int" => (with_reducible refine add_intN ?_)
  k_with "binaryOp Sub int int" => (with_reducible refine sub_intN ?_)
  k_with "binaryOp Mult int int" => (with_reducible refine mul_intN ?_)
  k_with "binaryOp FloorDiv int int" => ((k_here; (with_reducible refine floordiv_intN ?feq158 ?_ (Sm.py ?fpq158)); (case feq158 => first | decide | omega | assumption); (case fpq158 => ktr_rel)))
  k_with "binaryOp LShift int int" => ((k_here; (with_reducible refine lshift_intN ?feq159 ?fpq159 ?_); (case feq159 => omega); (case fpq159 => exact Sm.shl (by ktr_rel) (by omega))))
  k_with "ite" => ((k_here; k_openite; k_spoken; first
  | (refine ite_pos (by ((try simp only [beq_iff_eq, bne_iff_ne, ne_eq, Bool.not_eq_true', beq_eq_false_iff_ne]); (try law_clear); (try subst_vars); first | assumption | exact decide_eq_true rfl | exact Int.not_le.mp (by assumption) | exact Int.not_lt.mp (by assumption) | (law_clear; omega))) ?_; walk_say "PRUNED own")
  | (refine ite_neg (by ((try simp only [beq_iff_eq, bne_iff_ne, ne_eq, Bool.not_eq_true', beq_eq_false_iff_ne]); (try law_clear); (try subst_vars); first | assumption | exact Int.not_le.mpr (by assumption) | exact Int.not_lt.mpr (by assumption) | (law_clear; omega))) ?_; walk_say "PRUNED own")))
  k_with "subscriptTail" => ((k_here; (with_reducible show wpAny _ _ (subscriptTail _ _ (Value.ref _) (Value.int _ _)) _ _ _); k_dflt (refine' item_tupleT ?tq161 ?aq161 ?bq161 ?cq161 ?dq161 ?_; (case tq161 => exact News.isTup (by k_asm) (by k_mem)); (case aq161 => decide); (case bq161 => decide); (case cq161 => rfl); (case dq161 => rfl); k_whole)))
  k_with "subscriptTail Name Constant ref int" => ((k_here; (with_reducible show wpAny _ _ (subscriptTail _ _ (Value.ref _) (Value.int _ _)) _ _ _); k_dflt (refine' item_tupleT ?tq162 ?aq162 ?bq162 ?cq162 ?dq162 ?_; (case tq162 => exact News.isTup (by k_asm) (by k_mem)); (case aq162 => decide); (case bq162 => decide); (case cq162 => rfl); (case dq162 => rfl); k_whole)))
  k_with "callWith ref" => ((k_here; k_dflt (refine' callWith_K ?k1q163 ?k2q163 ?_; (case k1q163 => k_asm); (case k2q163 => k_is); k_whole)))
  k_with "call builtin:divmod" => ((k_here; (with_reducible show wpAny _ _ (call (Value.builtin _) [Value.int _ _, Value.int _ _]) _ _ _); k_dflt (refine' divmod_N ?k1q164 ?k2q164 ?feq164 ?_ (Or.inl (Sm.py ?fpq164)); (case k1q164 => k_asm); (case k2q164 => k_asm); (case feq164 => first | omega | exact Int.ne_of_gt (Int.mul_pos (by omega) (pow2_pos _))); (case fpq164 => ktr_rel)); intro h' F' N'; (try k_sweep)))
  k_with "call builtin:max" => ((k_here; (with_reducible show wpAny _ _ (call (Value.builtin _) [Value.ref _]) _ _ _); k_dflt (first
  | (refine' max_tup ?k0q165 ?k1q165 ?k2q165 ?k3q165 ?_; (case k0q165 => exact rfl); (case k1q165 => k_asm); (case k2q165 => k_asm); (case k3q165 => exact News.isTup (by k_asm) (by k_mem)))
  | (refine' max_list4 ?k0q165 ?k1q165 ?k2q165 ?k3q165 ?_; (case k0q165 => exact rfl); (case k1q165 => k_asm); (case k2q165 => k_asm); (case k3q165 => exact News.isList (by k_asm) (by k_mem)))); k_whole; intro h' r' tk' F' N'; (try k_sweep)))
  k_with "call builtin:min" => ((k_here; (with_reducible show wpAny _ _ (call (Value.builtin _) [Value.ref _]) _ _ _); k_dflt (first
  | (refine' min_tup ?k0q166 ?k1q166 ?k2q166 ?k3q166 ?_; (case k0q166 => exact rfl); (case k1q166 => k_asm); (case k2q166 => k_asm); (case k3q166 => exact News.isTup (by k_asm) (by k_mem)))
  | (refine' min_list4 ?k0q166 ?k1q166 ?k2q166 ?k3q166 ?_; (case k0q166 => exact rfl); (case k1q166 => k_asm); (case k2q166 => k_asm); (case k3q166 => exact News.isList (by k_asm) (by k_mem)))); k_whole; intro h' r' tk' F' N'; (try k_sweep)))
  k_with "newTuple" => ((k_here; k_dflt (refine' newTupN ?Fq167 ?Nq167 ?_ ?zq167; (case Fq167 => k_asm); (case Nq167 => k_asm); (case zq167 => kmk_size)); intro D' h' F' N'; (try k_sweep)))
  k_with "call ref" => ((k_here; (with_reducible show wpAny _ _ (call (Value.ref 100) _ _) _ _ _); k_dflt (refine' size_of_c ?k1q168 ?k2q168 ?k3q168 ?k4q168 ?k5q168 ?kKq168 ?kdq168 ?kuq168   ?_; (case k1q168 => k_asm); (case k2q168 => k_asm); (case k3q168 => k_asm); (case k4q168 => k_asm); (case k5q168 => k_asm); (case kKq168 => first | exact rfl | assumption); (case kdq168 => ktr_room); (case kuq168 => ktr_units); k_whole); intro z9 t9 h9 tk9 e9 F9 N9; (try k_sweep); (try dsimp only); (try k_fold); skip))
  k_with "call ref" => ((k_here; (with_reducible show wpAny _ _ (call (Value.ref 107) _ _) _ _ _); k_dflt (refine' sign_of_whole_c ?k1q169 ?k2q169 ?k3q169 ?k4q169 ?k5q169 ?kKq169 ?kdq169 ?kuq169   ?_; (case k1q169 => k_asm); (case k2q169 => k_asm); (case k3q169 => k_asm); (case k4q169 => k_asm); (case k5q169 => k_asm); (case kKq169 => first | exact rfl | assumption); (case kdq169 => ktr_room); (case kuq169 => ktr_units); k_whole); intro z9 t9 h9 tk9 e9 F9 N9; (try k_sweep); (try dsimp only); (try k_fold); skip))
  k_with "call ref" => ((k_here; (with_reducible show wpAny _ _ (call (Value.ref 114) _ _) _ _ _); k_dflt (refine' zeros_below_c ?k1q170 ?k2q170 ?k3q170 ?k4q170 ?k5q170 ?kKq170 ?kdq170 ?kuq170   ?_; (case k1q170 => k_asm); (case k2q170 => k_asm); (case k3q170 => k_asm); (case k4q170 => k_asm); (case k5q170 => k_asm); (case kKq170 => first | exact rfl | assumption); (case kdq170 => ktr_room); (case kuq170 => ktr_units); k_whole); intro z9 t9 h9 tk9 e9 F9 N9; (try k_sweep); (try dsimp only); (try k_fold); skip))
  k_with "call ref" => ((k_here; (with_reducible show wpAny _ _ (call (Value.ref 177) _ _) _ _ _); k_dflt (refine' up_shift_c ?k1q171 ?k2q171 ?k3q171 ?k4q171 ?k5q171 ?kKq171 ?kdq171 ?kuq171  ?p0q171 ?_; (case k1q171 => k_asm); (case k2q171 => k_asm); (case k3q171 => k_asm); (case k4q171 => k_asm); (case k5q171 => k_asm); (case kKq171 => first | exact rfl | assumption); (case kdq171 => ktr_room); (case kuq171 => ktr_units); (case p0q171 => first | with_reducible assumption | omega); k_whole); intro z9 t9 h9 tk9 e9 F9 N9; (try k_sweep); (try dsimp only); (try k_fold); skip))
  k_with "call ref" => ((k_here; (with_reducible show wpAny _ _ (call (Value.ref 184) _ _) _ _ _); k_dflt (refine' up_over_c ?k1q172 ?k2q172 ?k3q172 ?k4q172 ?k5q172 ?kKq172 ?kdq172 ?kuq172  ?p0q172 ?p1q172 ?_; (case k1q172 => k_asm); (case k2q172 => k_asm); (case k3q172 => k_asm); (case k4q172 => k_asm); (case k5q172 => k_asm); (case kKq172 => first | exact rfl | assumption); (case kdq172 => ktr_room); (case kuq172 => ktr_units); (case p0q172 => first | with_reducible assumption | omega); (case p1q172 => ktr_rel); k_whole); intro z9 t9 h9 tk9 e9 F9 N9; (try k_sweep); (try dsimp only); (try k_fold); skip))
  k_with "call ref" => ((k_here; (with_reducible show wpAny _ _ (call (Value.ref 142) _ _) _ _ _); k_dflt (refine' with_sticky_c ?k1q173 ?k2q173 ?k3q173 ?k4q173 ?k5q173 ?kKq173 ?kdq173 ?kuq173   ?_; (case k1q173 => k_asm); (case k2q173 => k_asm); (case k3q173 => k_asm); (case k4q173 => k_asm); (case k5q173 => k_asm); (case kKq173 => first | exact rfl | assumption); (case kdq173 => ktr_room); (case kuq173 => ktr_units); k_whole); intro z9 t9 h9 tk9 e9 F9 N9; (try k_sweep); (try dsimp only); (try k_fold); skip))
  k_with "call ref" => ((k_here; (with_reducible show wpAny _ _ (call (Value.ref 128) _ _) _ _ _); k_dflt (refine' nearest_shift_c ?k1q174 ?k2q174 ?k3q174 ?k4q174 ?k5q174 ?kKq174 ?kdq174 ?kuq174  ?p0q174 ?p1q174 ?_; (case k1q174 => k_asm); (case k2q174 => k_asm); (case k3q174 => k_asm); (case k4q174 => k_asm); (case k5q174 => k_asm); (case kKq174 => first | exact rfl | assumption); (case kdq174 => ktr_room); (case kuq174 => ktr_units); (case p0q174 => first | with_reducible assumption | omega); (case p1q174 => first | with_reducible assumption | omega); k_whole); intro z9 t9 h9 tk9 e9 F9 N9; (try k_sweep); (try dsimp only); (try k_fold); skip))
  k_with "call ref" => ((k_here; (with_reducible show wpAny _ _ (call (Value.ref 198) _ _) _ _ _); k_dflt (refine' more_of_c ?k1q175 ?k2q175 ?k3q175 ?k4q175 ?k5q175 ?kKq175 ?kdq175 ?kuq175 ?m0q175 ?m1q175  ?_; (case k1q175 => k_asm); (case k2q175 => k_asm); (case k3q175 => k_asm); (case k4q175 => k_asm); (case k5q175 => k_asm); (case kKq175 => first | exact rfl | assumption); (case kdq175 => ktr_room); (case kuq175 => ktr_units); (case m0q175 => k_mem); (case m1q175 => k_mem); k_whole); intro r9 z9 y9 t9 u9 h9 tk9 e9 f9 F9 N9; (try k_sweep); (try dsimp only); (try k_fold); skip))
  k_with "call ref" => ((k_here; (with_reducible show wpAny _ _ (call (Value.ref 205) _ _) _ _ _); k_dflt (refine' less_of_c ?k1q176 ?k2q176 ?k3q176 ?k4q176 ?k5q176 ?kKq176 ?kdq176 ?kuq176 ?m0q176 ?m1q176  ?_; (case k1q176 => k_asm); (case k2q176 => k_asm); (case k3q176 => k_asm); (case k4q176 => k_asm); (case k5q176 => k_asm); (case kKq176 => first | exact rfl | assumption); (case kdq176 => ktr_room); (case kuq176 => ktr_units); (case m0q176 => k_mem); (case m1q176 => k_mem); k_whole); intro r9 z9 y9 t9 u9 h9 tk9 e9 f9 F9 N9; (try k_sweep); (try dsimp only); (try k_fold); skip))
  k_with "call ref" => ((k_here; (with_reducible show wpAny _ _ (call (Value.ref 212) _ _) _ _ _); k_dflt (refine' often_c ?k1q177 ?k2q177 ?k3q177 ?k4q177 ?k5q177 ?kKq177 ?kdq177 ?kuq177 ?m0q177 ?p0q177 ?p1q177 ?_; (case k1q177 => k_asm); (case k2q177 => k_asm); (case k3q177 => k_asm); (case k4q177 => k_asm); (case k5q177 => k_asm); (case kKq177 => first | exact rfl | assumption); (case kdq177 => ktr_room); (case kuq177 => ktr_units); (case m0q177 => k_mem); (case p0q177 => mul_fits); (case p1q177 => mul_fits); k_whole); intro r9 z9 y9 t9 u9 h9 tk9 e9 f9 F9 N9; (try k_sweep); (try dsimp only); (try k_fold); skip))
  k_with "call ref" => ((k_here; (with_reducible show wpAny _ _ (call (Value.ref 233) _ _) _ _ _); k_dflt (refine' widened_c ?k1q178 ?k2q178 ?k3q178 ?k4q178 ?k5q178 ?kKq178 ?kdq178 ?kuq178 ?m0q178  ?_; (case k1q178 => k_asm); (case k2q178 => k_asm); (case k3q178 => k_asm); (case k4q178 => k_asm); (case k5q178 => k_asm); (case kKq178 => first | exact rfl | assumption); (case kdq178 => ktr_room); (case kuq178 => ktr_units); (case m0q178 => k_mem); k_whole); intro r9 z9 y9 t9 u9 h9 tk9 e9 f9 F9 N9; (try k_sweep); (try dsimp only); (try k_fold); skip))
  k_with "call ref" => ((k_here; (with_reducible show wpAny _ _ (call (Value.ref 240) _ _) _ _ _); k_dflt (refine' greatest_of_c ?k1q179 ?k2q179 ?k3q179 ?k4q179 ?k5q179 ?kKq179 ?kdq179 ?kuq179 ?m0q179  ?_; (case k1q179 => k_asm); (case k2q179 => k_asm); (case k3q179 => k_asm); (case k4q179 => k_asm); (case k5q179 => k_asm); (case kKq179 => first | exact rfl | assumption); (case kdq179 => ktr_room); (case kuq179 => ktr_units); (case m0q179 => k_mem); k_whole); intro z9 t9 h9 tk9 e9 F9 N9; (try k_sweep); (try dsimp only); (try k_fold); skip))
  k_with "call ref" => ((k_here; (with_reducible show wpAny _ _ (call (Value.ref 226) _ _) _ _ _); k_dflt (refine' part_of_c ?k1q180 ?k2q180 ?k3q180 ?k4q180 ?k5q180 ?kKq180 ?kdq180 ?kuq180 ?m0q180 ?p0q180 ?p1q180 ?_; (case k1q180 => k_asm); (case k2q180 => k_asm); (case k3q180 => k_asm); (case k4q180 => k_asm); (case k5q180 => k_asm); (case kKq180 => first | exact rfl | assumption); (case kdq180 => ktr_room); (case kuq180 => ktr_units); (case m0q180 => k_mem); (case p0q180 => first | with_reducible assumption | omega); (case p1q180 => ktr_rel); k_whole); intro r9 z9 y9 t9 u9 h9 tk9 e9 f9 F9 N9; (try k_sweep); (try dsimp only); (try k_fold); skip))
  k_with "call ref" => ((k_here; (with_reducible show wpAny _ _ (call (Value.ref 219) _ _) _ _ _); k_dflt (refine' product_of_c ?k1q181 ?k2q181 ?k3q181 ?k4q181 ?k5q181 ?kKq181 ?kdq181 ?kuq181 ?m0q181 ?m1q181 ?p0q181 ?p1q181 ?p2q181 ?p3q181 ?p4q181 ?_; (case k1q181 => k_asm); (case k2q181 => k_asm); (case k3q181 => k_asm); (case k4q181 => k_asm); (case k5q181 => k_asm); (case kKq181 => first | exact rfl | assumption); (case kdq181 => ktr_room); (case kuq181 => ktr_units); (case m0q181 => k_mem); (case m1q181 => k_mem); (case p0q181 => first | with_reducible assumption | omega); (case p1q181 => ktr_rel); (case p2q181 => ktr_rel); (case p3q181 => ktr_rel); (case p4q181 => ktr_rel); k_whole); intro r9 z9 y9 t9 u9 h9 tk9 e9 f9 F9 N9; (try k_sweep); (try dsimp only); (try k_fold); skip))
  k_with "call ref" => ((k_here; (with_reducible show wpAny _ _ (call (Value.ref 191) _ _) _ _ _); k_dflt (refine' fraction_bounds_c ?k1q182 ?k2q182 ?k3q182 ?k4q182 ?k5q182 ?kKq182 ?kdq182 ?kuq182  ?p0q182 ?p1q182 ?p2q182 ?p3q182 ?p4q182 ?_; (case k1q182 => k_asm); (case k2q182 => k_asm); (case k3q182 => k_asm); (case k4q182 => k_asm); (case k5q182 => k_asm); (case kKq182 => first | exact rfl | assumption); (case kdq182 => ktr_room); (case kuq182 => ktr_units); (case p0q182 => first | with_reducible assumption | omega); (case p1q182 => first | with_reducible assumption | omega); (case p2q182 => ktr_rel); (case p3q182 => first | with_reducible assumption | omega); (case p4q182 => ktr_rel); k_whole); intro r9 z9 y9 t9 u9 h9 tk9 e9 f9 F9 N9; (try k_sweep); (try dsimp only); (try k_fold); skip))
  k_with "call ref" => ((k_here; (with_reducible show wpAny _ _ (call (Value.ref 89) _ _) _ _ _); k_dflt (refine' real_c ?k1q183 ?k2q183 ?k3q183 ?k4q183 ?k5q183 ?kKq183 ?kdq183 ?kuq183   ?_; (case k1q183 => k_asm); (case k2q183 => k_asm); (case k3q183 => k_asm); (case k4q183 => k_asm); (case k5q183 => k_asm); (case kKq183 => first | exact rfl | assumption); (case kdq183 => ktr_room); (case kuq183 => ktr_units); k_whole); intro r9 d9 z9 y9 j9 t9 i9 u9 h9 tk9 e9 f9 F9 N9; (try k_sweep); (try dsimp only); (try k_fold); skip))
  k_with "call ref" => ((k_here; (with_reducible show wpAny _ _ (call (Value.ref 156) _ _) _ _ _); k_dflt (refine' place_of_c ?k1q184 ?k2q184 ?k3q184 ?k4q184 ?k5q184 ?kKq184 ?kdq184 ?kuq184 ?m0q184 ?m1q184  ?_; (case k1q184 => k_asm); (case k2q184 => k_asm); (case k3q184 => k_asm); (case k4q184 => k_asm); (case k5q184 => k_asm); (case kKq184 => first | exact rfl | assumption); (case kdq184 => ktr_room); (case kuq184 => ktr_units); (case m0q184 => k_mem); (case m1q184 => k_mem); k_whole); intro z9 t9 h9 tk9 e9 F9 N9; (try k_sweep); (try dsimp only); (try k_fold); skip))
  k_with "call ref" => ((k_here; (with_reducible show wpAny _ _ (call (Value.ref 163) _ _) _ _ _); k_dflt (refine' sign_of_c ?k1q185 ?k2q185 ?k3q185 ?k4q185 ?k5q185 ?kKq185 ?kdq185 ?kuq185 ?m0q185 ?m1q185  ?_; (case k1q185 => k_asm); (case k2q185 => k_asm); (case k3q185 => k_asm); (case k4q185 => k_asm); (case k5q185 => k_asm); (case kKq185 => first | exact rfl | assumption); (case kdq185 => ktr_room); (case kuq185 => ktr_units); (case m0q185 => k_mem); (case m1q185 => k_mem); k_whole); intro z9 t9 h9 tk9 e9 F9 N9; (try k_sweep); (try dsimp only); (try k_fold); skip))
  k_with "call ref" => ((k_here; (with_reducible show wpAny _ _ (call (Value.ref 170) _ _) _ _ _); k_dflt (refine' same_real_c ?k1q186 ?k2q186 ?k3q186 ?k4q186 ?k5q186 ?kKq186 ?kdq186 ?kuq186 ?m0q186 ?m1q186 ?m2q186 ?m3q186  ?_; (case k1q186 => k_asm); (case k2q186 => k_asm); (case k3q186 => k_asm); (case k4q186 => k_asm); (case k5q186 => k_asm); (case kKq186 => first | exact rfl | assumption); (case kdq186 => ktr_room); (case kuq186 => ktr_units); (case m0q186 => k_mem); (case m1q186 => k_mem); (case m2q186 => k_mem); (case m3q186 => k_mem); k_whole); intro h9 tk9 F9 N9; (try k_sweep); (try dsimp only); (try k_fold); skip))
  k_with "call ref" => ((k_here; (with_reducible show wpAny _ _ (call (Value.ref 247) _ _) _ _ _); k_dflt (refine' fraction_of_c ?k1q187 ?k2q187 ?k3q187 ?k4q187 ?k5q187 ?kKq187 ?kdq187 ?kuq187 ?m0q187 ?m1q187 ?p0q187 ?p1q187 ?p2q187 ?_; (case k1q187 => k_asm); (case k2q187 => k_asm); (case k3q187 => k_asm); (case k4q187 => k_asm); (case k5q187 => k_asm); (case kKq187 => first | exact rfl | assumption); (case kdq187 => ktr_room); (case kuq187 => ktr_units); (case m0q187 => k_mem); (case m1q187 => k_mem); (case p0q187 => ktr_rel); (case p1q187 => first | with_reducible assumption | omega); (case p2q187 => first | with_reducible assumption | omega); k_whole); intro r9 z9 y9 t9 u9 h9 tk9 e9 f9 F9 N9; (try k_sweep); (try dsimp only); (try k_fold); skip))
  k_with "call ref" => ((k_here; (with_reducible show wpAny _ _ (call (Value.ref 254) _ _) _ _ _); k_dflt (refine' inverse_series_c ?k1q188 ?k2q188 ?k3q188 ?k4q188 ?k5q188 ?kKq188 ?kdq188 ?kuq188  ?p0q188 ?p1q188 ?p2q188 ?_; (case k1q188 => k_asm); (case k2q188 => k_asm); (case k3q188 => k_asm); (case k4q188 => k_asm); (case k5q188 => k_asm); (case kKq188 => first | exact rfl | assumption); (case kdq188 => ktr_room); (case kuq188 => ktr_units); (case p0q188 => first | with_reducible assumption | omega); (case p1q188 => first | with_reducible assumption | omega); (case p2q188 => first | with_reducible assumption | k_dflt (have hq := (‹invF _ _ _ _ _ = some _›); refine Eq.trans ?_ hq; law_clear; subst_vars; exact rfl) | kwd_less); k_whole); intro r9 z9 y9 t9 u9 h9 tk9 e9 f9 F9 N9; (try k_sweep); (try dsimp only); (try k_fold); skip))
  k_with "call ref" => ((k_here; (with_reducible show wpAny _ _ (call (Value.ref 261) _ _) _ _ _); k_dflt (refine' log_of_two_c ?k1q189 ?k2q189 ?k3q189 ?k4q189 ?k5q189 ?kKq189 ?kdq189 ?kuq189  ?p0q189 ?p1q189 ?p2q189 ?_; (case k1q189 => k_asm); (case k2q189 => k_asm); (case k3q189 => k_asm); (case k4q189 => k_asm); (case k5q189 => k_asm); (case kKq189 => first | exact rfl | assumption); (case kdq189 => ktr_room); (case kuq189 => ktr_units); (case p0q189 => first | with_reducible assumption | omega); (case p1q189 => first | with_reducible assumption | omega); (case p2q189 => first | with_reducible assumption | k_dflt (have hq := (‹log2F _ = some _›); refine Eq.trans ?_ hq; law_clear; subst_vars; exact rfl) | kwd_less); k_whole); intro r9 z9 y9 t9 u9 h9 tk9 e9 f9 F9 N9; (try k_sweep); (try dsimp only); (try k_fold); skip))
  k_with "call ref" => ((k_here; (with_reducible show wpAny _ _ (call (Value.ref 268) _ _) _ _ _); k_dflt (refine' exp_series_c ?k1q190 ?k2q190 ?k3q190 ?k4q190 ?k5q190 ?kKq190 ?kdq190 ?kuq190 ?m0q190 ?p0q190 ?p1q190 ?p2q190 ?_; (case k1q190 => k_asm); (case k2q190 => k_asm); (case k3q190 => k_asm); (case k4q190 => k_asm); (case k5q190 => k_asm); (case kKq190 => first | exact rfl | assumption); (case kdq190 => ktr_room); (case kuq190 => ktr_units); (case m0q190 => k_mem); (case p0q190 => first | with_reducible assumption | omega); (case p1q190 => first | with_reducible assumption | omega); (case p2q190 => first | with_reducible assumption | k_dflt (have hq := (‹expS _ _ = some _›); refine Eq.trans ?_ hq; law_clear; subst_vars; exact rfl) | kwd_less); k_whole); intro r9 z9 y9 t9 u9 h9 tk9 e9 f9 F9 N9; (try k_sweep); (try dsimp only); (try k_fold); skip))
  k_with "call ref" => ((k_here; (with_reducible show wpAny _ _ (call (Value.ref 121) _ _) _ _ _); k_dflt (refine' lean_c ?k1q191 ?k2q191 ?k3q191 ?k4q191 ?k5q191 ?kKq191 ?kdq191 ?kuq191  ?p0q191 ?_; (case k1q191 => k_asm); (case k2q191 => k_asm); (case k3q191 => k_asm); (case k4q191 => k_asm); (case k5q191 => k_asm); (case kKq191 => first | exact rfl | assumption); (case kdq191 => ktr_room); (case kuq191 => ktr_units); (case p0q191 => first | with_reducible assumption | k_dflt (have hq := (‹leanF _ _ = some _›); refine Eq.trans ?_ hq; law_clear; subst_vars; exact rfl) | kwd_less); k_whole); intro r9 d9 z9 y9 j9 t9 i9 u9 h9 tk9 e9 f9 F9 N9; (try k_sweep); (try dsimp only); (try k_fold); skip))
  k_with "call ref" => ((k_here; (with_reducible show wpAny _ _ (call (Value.ref 135) _ _) _ _ _); k_dflt (refine' shifted_round_c ?k1q192 ?k2q192 ?k3q192 ?k4q192 ?k5q192 ?kKq192 ?kdq192 ?kuq192  ?p0q192 ?_; (case k1q192 => k_asm); (case k2q192 => k_asm); (case k3q192 => k_asm); (case k4q192 => k_asm); (case k5q192 => k_asm); (case kKq192 => first | exact rfl | assumption); (case kdq192 => ktr_room); (case kuq192 => ktr_units); (case p0q192 => first | with_reducible assumption | k_dflt (have hq := (‹shiftedF _ _ _ = some _›); refine Eq.trans ?_ hq; law_clear; subst_vars; exact rfl) | kwd_less); k_whole); intro r9 d9 z9 y9 j9 t9 i9 u9 h9 tk9 e9 f9 F9 N9; (try k_sweep); (try dsimp only); (try k_fold); skip))
  k_with "call ref" => ((k_here; (with_reducible show wpAny _ _ (call (Value.ref 149) _ _) _ _ _); k_dflt (refine' rounded_c ?k1q193 ?k2q193 ?k3q193 ?k4q193 ?k5q193 ?kKq193 ?kdq193 ?kuq193  ?p0q193 ?_; (case k1q193 => k_asm); (case k2q193 => k_asm); (case k3q193 => k_asm); (case k4q193 => k_asm); (case k5q193 => k_asm); (case kKq193 => first | exact rfl | assumption); (case kdq193 => ktr_room); (case kuq193 => ktr_units); (case p0q193 => first | with_reducible assumption | k_dflt (refine ev3 rfl (by first | with_reducible assumption | exact rfl) (by first | with_reducible assumption | exact rfl) (by assumption)) | kwd_less); k_whole); intro r9 d9 z9 y9 j9 t9 i9 u9 h9 tk9 e9 f9 F9 N9; (try k_sweep); (try dsimp only); (try k_fold); skip))
  k_with "call ref" => ((k_here; (with_reducible show wpAny _ _ (call (Value.ref 275) _ _) _ _ _); k_dflt (refine' odd_series_c ?k1q194 ?k2q194 ?k3q194 ?k4q194 ?k5q194 ?kKq194 ?kdq194 ?kuq194  ?p0q194 ?p1q194 ?p2q194 ?_; (case k1q194 => k_asm); (case k2q194 => k_asm); (case k3q194 => k_asm); (case k4q194 => k_asm); (case k5q194 => k_asm); (case kKq194 => first | exact rfl | assumption); (case kdq194 => ktr_room); (case kuq194 => ktr_units); (case p0q194 => first | with_reducible assumption | omega); (case p1q194 => first | with_reducible assumption | omega); (case p2q194 => first | with_reducible assumption | k_dflt (have hq := (‹oddS _ _ _ = some _›); refine Eq.trans ?_ hq; law_clear; subst_vars; exact rfl) | kwd_less); k_whole); intro r9 z9 y9 t9 u9 h9 tk9 e9 f9 F9 N9; (try k_sweep); (try dsimp only); (try k_fold); skip))
  trivial
section
variable {w : World} {loose : List Str} {mean : ExcName → Option Value} {mg mb : Str → Option Value}
  {dp un : Nat} {gd : Option (List Code)} {cn : Str} {cs : Scope} {a : Addr} {ccd : Value} {cl : List (Str × Addr)} {outer : List Env} {A₀ : Around} {base h₀ : Heap} {L : Addr} {m : Str → Option Value} {news : List (Addr × Obj)} {s : Shared} {Q E : Value → Shared → Prop}

theorem reduced_by_twos_c {wk : Int} {t9 : Tok} {v : Int} {x1 y1 : Int} {j1 t1 k1 u1 : Tok} {a1 d1 : Addr}
  (B : Below A₀ base outer h₀) (F : Fr h₀ L s.heap m) (X : (hd.heap_1 w.params).In h₀) (N : News h₀ L s.heap (news)) (T : Top topProg loose mean mg mb h₀) (hk : cs.kind = .function)
  (hdp : dp + 12 < recursionLimit) (hun : un + 160 < cLine)
  (Ma1 : (a1, instObj (nat_lit 89) d1) ∈ news) (Md1 : (d1, realO w j1 x1 t1 k1 y1 u1) ∈ news) (h0 : 0 ≤ wk) (h1 : wk < 9000) (hv : redF wk x1 y1 = some v)
  (hret : ∀ r r2 z1 u1 h' tk', z1 = v → Fr h₀ L h' m → News h₀ L h' ((r, ({ cls := .type "tuple", data := .seq #[.int z1 u1, .ref r2] } : Obj)) :: news) → Q (.ref r) { s with heap := h', toks := tk' }) :
  wpAny (model Challenge.rw_nt0168_01.row.prog w) (ktrTop dp un gd cn cs L a ccd cl outer) (call (.ref 289) [.int wk t9, .ref a1]) Q E s := by
  obtain ⟨x2, y2, hl, g1, g2, g3, g4, g5, g6, g7, g8, g9, g10, hv1⟩ := redF_parts hv
  refine wpAny_call ?_
  k_dflt ktr_enter
  k_steps
  all_goals (refine retRed hret (by assumption) (by k_asm) (by k_mem) (by first | ((repeat (first | exact sub_refl | refine sub_cons ?_)); done) | (intro p hp; first | exact hp | (repeat (first | exact hp | refine List.mem_cons_of_mem _ ?_)))) ?_)
  all_goals ((try law_clear); subst_vars; rfl)
theorem reg_38 : True := by
  k_with "call ref" => ((k_here; (with_reducible show wpAny _ _ (call (Value.ref 289) _ _) _ _ _); k_dflt (refine' reduced_by_twos_c ?k1q195 ?k2q195 ?k3q195 ?k4q195 ?k5q195 ?kKq195 ?kdq195 ?kuq195 ?m0q195 ?m1q195 ?p0q195 ?p1q195 ?p2q195 ?_; (case k1q195 => k_asm); (case k2q195 => k_asm); (case k3q195 => k_asm); (case k4q195 => k_asm); (case k5q195 => k_asm); (case kKq195 => first | exact rfl | assumption); (case kdq195 => ktr_room); (case kuq195 => ktr_units); (case m0q195 => k_mem); (case m1q195 => k_mem); (case p0q195 => first | with_reducible assumption | omega); (case p1q195 => first | with_reducible assumption | omega); (case p2q195 => first | with_reducible assumption | k_dflt (have hq := (‹redF _ _ _ = some _›); refine Eq.trans ?_ hq; law_clear; subst_vars; exact rfl) | kwd_less); k_whole); intro r9 p9 z9 u9 h9 tk9 e9 F9 N9; (try k_sweep); (try dsimp only); (try k_fold); skip))
  trivial
theorem log_bounds_c {wk : Int} {t9 : Tok} {v : Int × Int} {x1 y1 : Int} {j1 t1 k1 u1 : Tok} {a1 d1 : Addr}
  (B : Below A₀ base outer h₀) (F : Fr h₀ L s.heap m) (X : (hd.heap_1 w.params).In h₀) (N : News h₀ L s.heap (news)) (T : Top topProg loose mean mg mb h₀) (hk : cs.kind = .function)
  (hdp : dp + 12 < recursionLimit) (hun : un + 160 < cLine)
  (Ma1 : (a1, instObj (nat_lit 89) d1) ∈ news) (Md1 : (d1, realO w j1 x1 t1 k1 y1 u1) ∈ news) (h0 : 0 ≤ wk) (h1 : wk < 9000) (hb0 : 0 ≤ x1) (hb1 : ((Builtin.Int.intBits x1 : Nat) : Int) < 5000) (hv : logB wk x1 y1 = some v)
  (hret : ∀ r z1 z2 u1 u2 h' tk', z1 = (v).1 → z2 = (v).2 → Fr h₀ L h' m → News h₀ L h' ((r, tupO z1 u1 z2 u2) :: news) → Q (.ref r) { s with heap := h', toks := tk' }) :
  wpAny (model Challenge.rw_nt0168_01.row.prog w) (ktrTop dp un gd cn cs L a ccd cl outer) (call (.ref 303) [.int wk t9, .ref a1]) Q E s := by
  obtain ⟨⟨s1, s2⟩, x2, y2, hl, g1, g2, ⟨g3, g4, g5, hv1⟩ | ⟨g3, g4, g5, hv1⟩⟩ := logB_parts hv
  all_goals simp only [p2_eq] at g3 g4
  · refine wpAny_call ?_
    k_dflt ktr_enter
    k_steps
    all_goals (refine retT hret (by assumption) (by k_asm) (by k_mem) (by first | ((repeat (first | exact sub_refl | refine sub_cons ?_)); done) | (intro p hp; first | exact hp | (repeat (first | exact hp | refine List.mem_cons_of_mem _ ?_)))) ?_)
    all_goals ((try law_clear); subst_vars; rfl)
  · refine wpAny_call ?_
    k_dflt ktr_enter
    k_steps
    all_goals (refine retT hret (by assumption) (by k_asm) (by k_mem) (by first | ((repeat (first | exact sub_refl | refine sub_cons ?_)); done) | (intro p hp; first | exact hp | (repeat (first | exact hp | refine List.mem_cons_of_mem _ ?_)))) ?_)
    all_goals ((try law_clear); subst_vars; rfl)
theorem reg_39 : True := by
  k_with "call ref" => ((k_here; (with_reducible show wpAny _ _ (call (Value.ref 303) _ _) _ _ _); k_dflt (refine' log_bounds_c ?k1q196 ?k2q196 ?k3q196 ?k4q196 ?k5q196 ?kKq196 ?kdq196 ?kuq196 ?m0q196 ?m1q196 ?p0q196 ?p1q196 ?p2q196 ?p3q196 ?p4q196 ?_; (case k1q196 => k_asm); (case k2q196 => k_asm); (case k3q196 => k_asm); (case k4q196 => k_asm); (case k5q196 => k_asm); (case kKq196 => first | exact rfl | assumption); (case kdq196 => ktr_room); (case kuq196 => ktr_units); (case m0q196 => k_mem); (case m1q196 => k_mem); (case p0q196 => first | with_reducible assumption | omega); (case p1q196 => first | with_reducible assumption | omega); (case p2q196 => first | with_reducible assumption | omega); (case p3q196 => first | with_reducible assumption | omega); (case p4q196 => first | with_reducible assumption | k_dflt (have hq := (‹logB _ _ _ = some _›); refine Eq.trans ?_ hq; law_clear; subst_vars; exact rfl) | kwd_less); k_whole); intro r9 z9 y9 t9 u9 h9 tk9 e9 f9 F9 N9; (try k_sweep); (try dsimp only); (try k_fold); skip))
  trivial
end
end
section
open PySem PySem.W PySem.Spec PySem.Calls PyProof.Rows
set_option Elab.async false
set_option maxRecDepth 100000
set_option maxHeartbeats 0
theorem reg_40 : True := by
  k_with_none
  k_with "lt9" => (first | with_reducible assumption | (refine ltc (by with_reducible assumption) ?_; first | exact pj1 | exact pj2 | exact pj3 | exact pj4 | exact pj5 | exact pj6 | exact pj7 | exact pj8 | exact pj9 | exact pj10 | exact pj11 | exact pj12 | exact pj13 | exact pj14 | exact qj1 | exact qj2 | exact qj3 | exact qj4 | exact qj5 | exact qj6 | exact qj7 | exact qj8 | exact qj9 | exact qj10 | exact qj11 | exact qj12 | exact qj13 | exact qj14))
  k_with "ne9" => (first | decide | (refine Nat.ne_of_lt ?_; walk_at "lt9") | (refine Nat.ne_of_gt ?_; walk_at "lt9") | exact Nat.ne_of_lt (Nat.lt_succ_self _) | exact Nat.ne_of_gt (Nat.lt_succ_self _) | (refine ne_up1 ?_; walk_at "lt9") | (refine ne_up2 ?_; walk_at "lt9") | (refine Ne.symm (ne_up1 ?_); walk_at "lt9") | (refine Ne.symm (ne_up2 ?_); walk_at "lt9"))
  trivial
-- Sm facts
theorem reg_41 : True := by
  k_with "eval Constant int" => (refine const_intN ?_)
  k_with "binaryOp Add int int" => (with_reducible refine add_intN ?_)
  k_with "binaryOp Sub int int" => (with_reducible refine sub_intN ?_)
  k_with "binaryOp Mult int int" => (with_reducible refine mul_intN ?_)
  k_with "binaryOp FloorDiv int int" => ((k_here; (with_reducible refine floordiv_intN ?feq203 ?_ (Sm.py ?fpq203)); (case feq203 => first | decide | omega | assumption); (case fpq203 => ktr_rel)))
  k_with "binaryOp LShift int int" => ((k_here; (with_reducible refine lshift_intN ?feq204 ?fpq204 ?_); (case feq204 => omega); (case fpq204 => exact Sm.shl (by ktr_rel) (by omega))))
  k_with "ite" => ((k_here; k_openite; k_spoken; first
  | (refine ite_pos (by ((try simp only [beq_iff_eq, bne_iff_ne, ne_eq, Bool.not_eq_true', beq_eq_false_iff_ne]); (try law_clear); (try subst_vars); first | assumption | exact decide_eq_true rfl | exact Int.not_le.mp (by assumption) | exact Int.not_lt.mp (by assumption) | (law_clear; omega))) ?_; walk_say "PRUNED own")
  | (refine ite_neg (by ((try simp only [beq_iff_eq, bne_iff_ne, ne_eq, Bool.not_eq_true', beq_eq_false_iff_ne]); (try law_clear); (try subst_vars); first | assumption | exact Int.not_le.mpr (by assumption) | exact Int.not_lt.mpr (by assumption) | (law_clear; omega))) ?_; walk_say "PRUNED own")))
  k_with "subscriptTail" => ((k_here; (with_reducible show wpAny _ _ (subscriptTail _ _ (Value.ref _) (Value.int _ _)) _ _ _); k_dflt (refine' item_tupleT ?tq206 ?aq206 ?bq206 ?cq206 ?dq206 ?_; (case tq206 => exact News.isTup (by k_asm) (by k_mem)); (case aq206 => decide); (case bq206 => decide); (case cq206 => rfl); (case dq206 => rfl); k_whole)))
  k_with "subscriptTail Name Constant ref int" => ((k_here; (with_reducible show wpAny _ _ (subscriptTail _ _ (Value.ref _) (Value.int _ _)) _ _ _); k_dflt (refine' item_tupleT ?tq207 ?aq207 ?bq207 ?cq207 ?dq207 ?_; (case tq207 => exact News.isTup (by k_asm) (by k_mem)); (case aq207 => decide); (case bq207 => decide); (case cq207 => rfl); (case dq207 => rfl); k_whole)))
  k_with "callWith ref" => ((k_here; k_dflt (refine' callWith_K ?k1q208 ?k2q208 ?_; (case k1q208 => k_asm); (case k2q208 => k_is); k_whole)))
  k_with "call builtin:divmod" => ((k_here; (with_reducible show wpAny _ _ (call (Value.builtin _) [Value.int _ _, Value.int _ _]) _ _ _); k_dflt (refine' divmod_N ?k1q209 ?k2q209 ?feq209 ?_ (Or.inl (Sm.py ?fpq209)); (case k1q209 => k_asm); (case k2q209 => k_asm); (case feq209 => first | omega | exact Int.ne_of_gt (Int.mul_pos (by omega) (pow2_pos _))); (case fpq209 => ktr_rel)); intro h' F' N'; (try k_sweep)))
  k_with "call builtin:max" => ((k_here; (with_reducible show wpAny _ _ (call (Value.builtin _) [Value.ref _]) _ _ _); k_dflt (first
  | (refine' max_tup ?k0q210 ?k1q210 ?k2q210 ?k3q210 ?_; (case k0q210 => exact rfl); (case k1q210 => k_asm); (case k2q210 => k_asm); (case k3q210 => exact News.isTup (by k_asm) (by k_mem)))
  | (refine' max_list4 ?k0q210 ?k1q210 ?k2q210 ?k3q210 ?_; (case k0q210 => exact rfl); (case k1q210 => k_asm); (case k2q210 => k_asm); (case k3q210 => exact News.isList (by k_asm) (by k_mem)))); k_whole; intro h' r' tk' F' N'; (try k_sweep)))
  k_with "call builtin:min" => ((k_here; (with_reducible show wpAny _ _ (call (Value.builtin _) [Value.ref _]) _ _ _); k_dflt (first
  | (refine' min_tup ?k0q211 ?k1q211 ?k2q211 ?k3q211 ?_; (case k0q211 => exact rfl); (case k1q211 => k_asm); (case k2q211 => k_asm); (case k3q211 => exact News.isTup (by k_asm) (by k_mem)))
  | (refine' min_list4 ?k0q211 ?k1q211 ?k2q211 ?k3q211 ?_; (case k0q211 => exact rfl); (case k1q211 => k_asm); (case k2q211 => k_asm); (case k3q211 => exact News.isList (by k_asm) (by k_mem)))); k_whole; intro h' r' tk' F' N'; (try k_sweep)))
  k_with "newTuple" => ((k_here; k_dflt (refine' newTupL ?Fq212 ?Nq212 ?_ ?zq212; (case Fq212 => k_asm); (case Nq212 => k_asm); (case zq212 => kmk_size)); intro D' h' F' N' l1; (try (replace l1 := allLt_of l1; dsimp only [AllLt] at l1)); (try k_sweep)))
  k_with "storeName" => ((k_here; k_dflt (refine' storeX_S (by k_asm) (by k_asm) rfl (by k_mem) (by assumption) (by repeat' (first | exact Sift.all (by assumption) | exact Sift.all (allLt_ne (And.right (And.right ‹_ ∧ _ ∧ AllLt _ _›)) (by omega)) | exact Sift.all (ltAll (by assumption) (by omega)) | (apply Sift.keep; (case h => first | (refine neN ?_; first | walk_at "ne9" | omega) | exact newsNe (by assumption) (by k_mem) (by k_mem) (by assumption) (by intro _ e; cases e))) | apply Sift.drop)) ?_ rfl rfl; k_whole); intro h' o' F' N' d1'; (try dsimp only)))
  k_with "exec FunctionDef" => ((k_here; k_dflt (refine' nestDef_K ?d0q214 ?k0q214 ?a0q214 ?_; (case d0q214 => exact rfl); (case k0q214 => exact rfl); (case a0q214 => exact rfl)); k_dflt (refine' nest_S (by k_asm) (by k_asm) (by k_asm) (by first | assumption | exact CodeHd.keeps (by assumption) (Fr.keep (by assumption))) rfl (by assumption) (by k_mem) (by k_mem) (by repeat' (first | exact Sift.all (by assumption) | exact Sift.all (allLt_ne (And.right (And.right ‹_ ∧ _ ∧ AllLt _ _›)) (by omega)) | exact Sift.all (ltAll (by assumption) (by omega)) | (apply Sift.keep; (case h => first | (refine neN ?_; first | walk_at "ne9" | omega) | exact newsNe (by assumption) (by k_mem) (by k_mem) (by assumption) (by intro _ e; cases e))) | apply Sift.drop)) (by intro c9; kn_triples) (by intro c9; kn_hit) rfl ?_; k_whole); intro f' c' oc' doc' ct' h' tk' F' N' ok'; (have ok2' := ok'); (obtain ⟨vs', t', d1', d2'⟩ := ok2'); (try dsimp only at N')))
  k_with "eval Lambda" => ((k_here; k_dflt (refine' kla_eval ?d0q215 ?_; (case d0q215 => exact rfl)); k_dflt (refine' lam_S (by k_asm) (by k_asm) (by k_asm) (by first | assumption | exact CodeHd.keeps (by assumption) (Fr.keep (by assumption))) rfl (by assumption) (by k_mem) (by k_mem) (by repeat' (first | exact Sift.all (by assumption) | exact Sift.all (allLt_ne (And.right (And.right ‹_ ∧ _ ∧ AllLt _ _›)) (by omega)) | exact Sift.all (ltAll (by assumption) (by omega)) | (apply Sift.keep; (case h => first | (refine neN ?_; first | walk_at "ne9" | omega) | exact newsNe (by assumption) (by k_mem) (by k_mem) (by assumption) (by intro _ e; cases e))) | apply Sift.drop)) (by intro c9; kn_triples) (by intro c9; kn_hit) rfl ?_; k_whole); intro f' c' oc' ct' h' tk' F' N' ok'; (have ok2' := ok'); (obtain ⟨vs', t', d1', d2'⟩ := ok2'); (try dsimp only at N')))
  k_with "OnceB" => ((dsimp only [OnceB]))
  k_with "exec While" => ((k_here; k_dflt (refine' while_once (by k_asm) (by k_asm) ?_); k_whole; intro h' tk' F' N'; (try dsimp only); (try k_fold)))
  k_with "call ref" => ((k_here; (with_reducible show wpAny _ _ (call (Value.ref 282) _ _) _ _ _); k_dflt (refine wpAny_call ?_; ktr_enter)))
  k_with "call ref" => ((k_here; (with_reducible show wpAny _ _ (call (Value.ref 100) _ _) _ _ _); k_dflt (refine' size_of_c ?k1q219 ?k2q219 ?k3q219 ?k4q219 ?k5q219 ?kKq219 ?kdq219 ?kuq219   ?_; (case k1q219 => k_asm); (case k2q219 => k_asm); (case k3q219 => k_asm); (case k4q219 => k_asm); (case k5q219 => k_asm); (case kKq219 => first | exact rfl | assumption); (case kdq219 => ktr_room); (case kuq219 => ktr_units); k_whole); intro z9 t9 h9 tk9 e9 F9 N9; (try k_sweep); (try dsimp only); (try k_fold); skip))
  k_with "call ref" => ((k_here; (with_reducible show wpAny _ _ (call (Value.ref 107) _ _) _ _ _); k_dflt (refine' sign_of_whole_c ?k1q220 ?k2q220 ?k3q220 ?k4q220 ?k5q220 ?kKq220 ?kdq220 ?kuq220   ?_; (case k1q220 => k_asm); (case k2q220 => k_asm); (case k3q220 => k_asm); (case k4q220 => k_asm); (case k5q220 => k_asm); (case kKq220 => first | exact rfl | assumption); (case kdq220 => ktr_room); (case kuq220 => ktr_units); k_whole); intro z9 t9 h9 tk9 e9 F9 N9; (try k_sweep); (try dsimp only); (try k_fold); skip))
  k_with "call ref" => ((k_here; (with_reducible show wpAny _ _ (call (Value.ref 114) _ _) _ _ _); k_dflt (refine' zeros_below_c ?k1q221 ?k2q221 ?k3q221 ?k4q221 ?k5q221 ?kKq221 ?kdq221 ?kuq221   ?_; (case k1q221 => k_asm); (case k2q221 => k_asm); (case k3q221 => k_asm); (case k4q221 => k_asm); (case k5q221 => k_asm); (case kKq221 => first | exact rfl | assumption); (case kdq221 => ktr_room); (case kuq221 => ktr_units); k_whole); intro z9 t9 h9 tk9 e9 F9 N9; (try k_sweep); (try dsimp only); (try k_fold); skip))
  k_with "call ref" => ((k_here; (with_reducible show wpAny _ _ (call (Value.ref 177) _ _) _ _ _); k_dflt (refine' up_shift_c ?k1q222 ?k2q222 ?k3q222 ?k4q222 ?k5q222 ?kKq222 ?kdq222 ?kuq222  ?p0q222 ?_; (case k1q222 => k_asm); (case k2q222 => k_asm); (case k3q222 => k_asm); (case k4q222 => k_asm); (case k5q222 => k_asm); (case kKq222 => first | exact rfl | assumption); (case kdq222 => ktr_room); (case kuq222 => ktr_units); (case p0q222 => first | with_reducible assumption | omega); k_whole); intro z9 t9 h9 tk9 e9 F9 N9; (try k_sweep); (try dsimp only); (try k_fold); skip))
  k_with "call ref" => ((k_here; (with_reducible show wpAny _ _ (call (Value.ref 184) _ _) _ _ _); k_dflt (refine' up_over_c ?k1q223 ?k2q223 ?k3q223 ?k4q223 ?k5q223 ?kKq223 ?kdq223 ?kuq223  ?p0q223 ?p1q223 ?_; (case k1q223 => k_asm); (case k2q223 => k_asm); (case k3q223 => k_asm); (case k4q223 => k_asm); (case k5q223 => k_asm); (case kKq223 => first | exact rfl | assumption); (case kdq223 => ktr_room); (case kuq223 => ktr_units); (case p0q223 => first | with_reducible assumption | omega); (case p1q223 => ktr_rel); k_whole); intro z9 t9 h9 tk9 e9 F9 N9; (try k_sweep); (try dsimp only); (try k_fold); skip))
  k_with "call ref" => ((k_here; (with_reducible show wpAny _ _ (call (Value.ref 142) _ _) _ _ _); k_dflt (refine' with_sticky_c ?k1q224 ?k2q224 ?k3q224 ?k4q224 ?k5q224 ?kKq224 ?kdq224 ?kuq224   ?_; (case k1q224 => k_asm); (case k2q224 => k_asm); (case k3q224 => k_asm); (case k4q224 => k_asm); (case k5q224 => k_asm); (case kKq224 => first | exact rfl | assumption); (case kdq224 => ktr_room); (case kuq224 => ktr_units); k_whole); intro z9 t9 h9 tk9 e9 F9 N9; (try k_sweep); (try dsimp only); (try k_fold); skip))
  k_with "call ref" => ((k_here; (with_reducible show wpAny _ _ (call (Value.ref 128) _ _) _ _ _); k_dflt (refine' nearest_shift_c ?k1q225 ?k2q225 ?k3q225 ?k4q225 ?k5q225 ?kKq225 ?kdq225 ?kuq225  ?p0q225 ?p1q225 ?_; (case k1q225 => k_asm); (case k2q225 => k_asm); (case k3q225 => k_asm); (case k4q225 => k_asm); (case k5q225 => k_asm); (case kKq225 => first | exact rfl | assumption); (case kdq225 => ktr_room); (case kuq225 => ktr_units); (case p0q225 => first | with_reducible assumption | omega); (case p1q225 => first | with_reducible assumption | omega); k_whole); intro z9 t9 h9 tk9 e9 F9 N9; (try k_sweep); (try dsimp only); (try k_fold); skip))
  k_with "call ref" => ((k_here; (with_reducible show wpAny _ _ (call (Value.ref 198) _ _) _ _ _); k_dflt (refine' more_of_c ?k1q226 ?k2q226 ?k3q226 ?k4q226 ?k5q226 ?kKq226 ?kdq226 ?kuq226 ?m0q226 ?m1q226  ?_; (case k1q226 => k_asm); (case k2q226 => k_asm); (case k3q226 => k_asm); (case k4q226 => k_asm); (case k5q226 => k_asm); (case kKq226 => first | exact rfl | assumption); (case kdq226 => ktr_room); (case kuq226 => ktr_units); (case m0q226 => k_mem); (case m1q226 => k_mem); k_whole); intro r9 z9 y9 t9 u9 h9 tk9 e9 f9 F9 N9; (try k_sweep); (try dsimp only); (try k_fold); skip))
  k_with "call ref" => ((k_here; (with_reducible show wpAny _ _ (call (Value.ref 205) _ _) _ _ _); k_dflt (refine' less_of_c ?k1q227 ?k2q227 ?k3q227 ?k4q227 ?k5q227 ?kKq227 ?kdq227 ?kuq227 ?m0q227 ?m1q227  ?_; (case k1q227 => k_asm); (case k2q227 => k_asm); (case k3q227 => k_asm); (case k4q227 => k_asm); (case k5q227 => k_asm); (case kKq227 => first | exact rfl | assumption); (case kdq227 => ktr_room); (case kuq227 => ktr_units); (case m0q227 => k_mem); (case m1q227 => k_mem); k_whole); intro r9 z9 y9 t9 u9 h9 tk9 e9 f9 F9 N9; (try k_sweep); (try dsimp only); (try k_fold); skip))
  k_with "call ref" => ((k_here; (with_reducible show wpAny _ _ (call (Value.ref 212) _ _) _ _ _); k_dflt (refine' often_c ?k1q228 ?k2q228 ?k3q228 ?k4q228 ?k5q228 ?kKq228 ?kdq228 ?kuq228 ?m0q228 ?p0q228 ?p1q228 ?_; (case k1q228 => k_asm); (case k2q228 => k_asm); (case k3q228 => k_asm); (case k4q228 => k_asm); (case k5q228 => k_asm); (case kKq228 => first | exact rfl | assumption); (case kdq228 => ktr_room); (case kuq228 => ktr_units); (case m0q228 => k_mem); (case p0q228 => mul_fits); (case p1q228 => mul_fits); k_whole); intro r9 z9 y9 t9 u9 h9 tk9 e9 f9 F9 N9; (try k_sweep); (try dsimp only); (try k_fold); skip))
  k_with "call ref" => ((k_here; (with_reducible show wpAny _ _ (call (Value.ref 233) _ _) _ _ _); k_dflt (refine' widened_c ?k1q229 ?k2q229 ?k3q229 ?k4q229 ?k5q229 ?kKq229 ?kdq229 ?kuq229 ?m0q229  ?_; (case k1q229 => k_asm); (case k2q229 => k_asm); (case k3q229 => k_asm); (case k4q229 => k_asm); (case k5q229 => k_asm); (case kKq229 => first | exact rfl | assumption); (case kdq229 => ktr_room); (case kuq229 => ktr_units); (case m0q229 => k_mem); k_whole); intro r9 z9 y9 t9 u9 h9 tk9 e9 f9 F9 N9; (try k_sweep); (try dsimp only); (try k_fold); skip))
  k_with "call ref" => ((k_here; (with_reducible show wpAny _ _ (call (Value.ref 240) _ _) _ _ _); k_dflt (refine' greatest_of_c ?k1q230 ?k2q230 ?k3q230 ?k4q230 ?k5q230 ?kKq230 ?kdq230 ?kuq230 ?m0q230  ?_; (case k1q230 => k_asm); (case k2q230 => k_asm); (case k3q230 => k_asm); (case k4q230 => k_asm); (case k5q230 => k_asm); (case kKq230 => first | exact rfl | assumption); (case kdq230 => ktr_room); (case kuq230 => ktr_units); (case m0q230 => k_mem); k_whole); intro z9 t9 h9 tk9 e9 F9 N9; (try k_sweep); (try dsimp only); (try k_fold); skip))
  k_with "call ref" => ((k_here; (with_reducible show wpAny _ _ (call (Value.ref 226) _ _) _ _ _); k_dflt (refine' part_of_c ?k1q231 ?k2q231 ?k3q231 ?k4q231 ?k5q231 ?kKq231 ?kdq231 ?kuq231 ?m0q231 ?p0q231 ?p1q231 ?_; (case k1q231 => k_asm); (case k2q231 => k_asm); (case k3q231 => k_asm); (case k4q231 => k_asm); (case k5q231 => k_asm); (case kKq231 => first | exact rfl | assumption); (case kdq231 => ktr_room); (case kuq231 => ktr_units); (case m0q231 => k_mem); (case p0q231 => first | with_reducible assumption | omega); (case p1q231 => ktr_rel); k_whole); intro r9 z9 y9 t9 u9 h9 tk9 e9 f9 F9 N9; (try k_sweep); (try dsimp only); (try k_fold); skip))
  k_with "call ref" => ((k_here; (with_reducible show wpAny _ _ (call (Value.ref 219) _ _) _ _ _); k_dflt (refine' product_of_c ?k1q232 ?k2q232 ?k3q232 ?k4q232 ?k5q232 ?kKq232 ?kdq232 ?kuq232 ?m0q232 ?m1q232 ?p0q232 ?p1q232 ?p2q232 ?p3q232 ?p4q232 ?_; (case k1q232 => k_asm); (case k2q232 => k_asm); (case k3q232 => k_asm); (case k4q232 => k_asm); (case k5q232 => k_asm); (case kKq232 => first | exact rfl | assumption); (case kdq232 => ktr_room); (case kuq232 => ktr_units); (case m0q232 => k_mem); (case m1q232 => k_mem); (case p0q232 => first | with_reducible assumption | omega); (case p1q232 => ktr_rel); (case p2q232 => ktr_rel); (case p3q232 => ktr_rel); (case p4q232 => ktr_rel); k_whole); intro r9 z9 y9 t9 u9 h9 tk9 e9 f9 F9 N9; (try k_sweep); (try dsimp only); (try k_fold); skip))
  k_with "call ref" => ((k_here; (with_reducible show wpAny _ _ (call (Value.ref 191) _ _) _ _ _); k_dflt (refine' fraction_bounds_c ?k1q233 ?k2q233 ?k3q233 ?k4q233 ?k5q233 ?kKq233 ?kdq233 ?kuq233  ?p0q233 ?p1q233 ?p2q233 ?p3q233 ?p4q233 ?_; (case k1q233 => k_asm); (case k2q233 => k_asm); (case k3q233 => k_asm); (case k4q233 => k_asm); (case k5q233 => k_asm); (case kKq233 => first | exact rfl | assumption); (case kdq233 => ktr_room); (case kuq233 => ktr_units); (case p0q233 => first | with_reducible assumption | omega); (case p1q233 => first | with_reducible assumption | omega); (case p2q233 => ktr_rel); (case p3q233 => first | with_reducible assumption | omega); (case p4q233 => ktr_rel); k_whole); intro r9 z9 y9 t9 u9 h9 tk9 e9 f9 F9 N9; (try k_sweep); (try dsimp only); (try k_fold); skip))
  k_with "call ref" => ((k_here; (with_reducible show wpAny _ _ (call (Value.ref 89) _ _) _ _ _); k_dflt (refine' real_c ?k1q234 ?k2q234 ?k3q234 ?k4q234 ?k5q234 ?kKq234 ?kdq234 ?kuq234   ?_; (case k1q234 => k_asm); (case k2q234 => k_asm); (case k3q234 => k_asm); (case k4q234 => k_asm); (case k5q234 => k_asm); (case kKq234 => first | exact rfl | assumption); (case kdq234 => ktr_room); (case kuq234 => ktr_units); k_whole); intro r9 d9 z9 y9 j9 t9 i9 u9 h9 tk9 e9 f9 F9 N9; (try k_sweep); (try dsimp only); (try k_fold); skip))
  k_with "call ref" => ((k_here; (with_reducible show wpAny _ _ (call (Value.ref 156) _ _) _ _ _); k_dflt (refine' place_of_c ?k1q235 ?k2q235 ?k3q235 ?k4q235 ?k5q235 ?kKq235 ?kdq235 ?kuq235 ?m0q235 ?m1q235  ?_; (case k1q235 => k_asm); (case k2q235 => k_asm); (case k3q235 => k_asm); (case k4q235 => k_asm); (case k5q235 => k_asm); (case kKq235 => first | exact rfl | assumption); (case kdq235 => ktr_room); (case kuq235 => ktr_units); (case m0q235 => k_mem); (case m1q235 => k_mem); k_whole); intro z9 t9 h9 tk9 e9 F9 N9; (try k_sweep); (try dsimp only); (try k_fold); skip))
  k_with "call ref" => ((k_here; (with_reducible show wpAny _ _ (call (Value.ref 163) _ _) _ _ _); k_dflt (refine' sign_of_c ?k1q236 ?k2q236 ?k3q236 ?k4q236 ?k5q236 ?kKq236 ?kdq236 ?kuq236 ?m0q236 ?m1q236  ?_; (case k1q236 => k_asm); (case k2q236 => k_asm); (case k3q236 => k_asm); (case k4q236 => k_asm); (case k5q236 => k_asm); (case kKq236 => first | exact rfl | assumption); (case kdq236 => ktr_room); (case kuq236 => ktr_units); (case m0q236 => k_mem); (case m1q236 => k_mem); k_whole); intro z9 t9 h9 tk9 e9 F9 N9; (try k_sweep); (try dsimp only); (try k_fold); skip))
  k_with "call ref" => ((k_here; (with_reducible show wpAny _ _ (call (Value.ref 170) _ _) _ _ _); k_dflt (refine' same_real_c ?k1q237 ?k2q237 ?k3q237 ?k4q237 ?k5q237 ?kKq237 ?kdq237 ?kuq237 ?m0q237 ?m1q237 ?m2q237 ?m3q237  ?_; (case k1q237 => k_asm); (case k2q237 => k_asm); (case k3q237 => k_asm); (case k4q237 => k_asm); (case k5q237 => k_asm); (case kKq237 => first | exact rfl | assumption); (case kdq237 => ktr_room); (case kuq237 => ktr_units); (case m0q237 => k_mem); (case m1q237 => k_mem); (case m2q237 => k_mem); (case m3q237 => k_mem); k_whole); intro h9 tk9 F9 N9; (try k_sweep); (try dsimp only); (try k_fold); skip))
  k_with "call ref" => ((k_here; (with_reducible show wpAny _ _ (call (Value.ref 247) _ _) _ _ _); k_dflt (refine' fraction_of_c ?k1q238 ?k2q238 ?k3q238 ?k4q238 ?k5q238 ?kKq238 ?kdq238 ?kuq238 ?m0q238 ?m1q238 ?p0q238 ?p1q238 ?p2q238 ?_; (case k1q238 => k_asm); (case k2q238 => k_asm); (case k3q238 => k_asm); (case k4q238 => k_asm); (case k5q238 => k_asm); (case kKq238 => first | exact rfl | assumption); (case kdq238 => ktr_room); (case kuq238 => ktr_units); (case m0q238 => k_mem); (case m1q238 => k_mem); (case p0q238 => ktr_rel); (case p1q238 => first | with_reducible assumption | omega); (case p2q238 => first | with_reducible assumption | omega); k_whole); intro r9 z9 y9 t9 u9 h9 tk9 e9 f9 F9 N9; (try k_sweep); (try dsimp only); (try k_fold); skip))
  k_with "call ref" => ((k_here; (with_reducible show wpAny _ _ (call (Value.ref 254) _ _) _ _ _); k_dflt (refine' inverse_series_c ?k1q239 ?k2q239 ?k3q239 ?k4q239 ?k5q239 ?kKq239 ?kdq239 ?kuq239  ?p0q239 ?p1q239 ?p2q239 ?_; (case k1q239 => k_asm); (case k2q239 => k_asm); (case k3q239 => k_asm); (case k4q239 => k_asm); (case k5q239 => k_asm); (case kKq239 => first | exact rfl | assumption); (case kdq239 => ktr_room); (case kuq239 => ktr_units); (case p0q239 => first | with_reducible assumption | omega); (case p1q239 => first | with_reducible assumption | omega); (case p2q239 => first | with_reducible assumption | k_dflt (have hq := (‹invF _ _ _ _ _ = some _›); refine Eq.trans ?_ hq; law_clear; subst_vars; exact rfl) | kwd_less); k_whole); intro r9 z9 y9 t9 u9 h9 tk9 e9 f9 F9 N9; (try k_sweep); (try dsimp only); (try k_fold); skip))
  k_with "call ref" => ((k_here; (with_reducible show wpAny _ _ (call (Value.ref 261) _ _) _ _ _); k_dflt (refine' log_of_two_c ?k1q240 ?k2q240 ?k3q240 ?k4q240 ?k5q240 ?kKq240 ?kdq240 ?kuq240  ?p0q240 ?p1q240 ?p2q240 ?_; (case k1q240 => k_asm); (case k2q240 => k_asm); (case k3q240 => k_asm); (case k4q240 => k_asm); (case k5q240 => k_asm); (case kKq240 => first | exact rfl | assumption); (case kdq240 => ktr_room); (case kuq240 => ktr_units); (case p0q240 => first | with_reducible assumption | omega); (case p1q240 => first | with_reducible assumption | omega); (case p2q240 => first | with_reducible assumption | k_dflt (have hq := (‹log2F _ = some _›); refine Eq.trans ?_ hq; law_clear; subst_vars; exact rfl) | kwd_less); k_whole); intro r9 z9 y9 t9 u9 h9 tk9 e9 f9 F9 N9; (try k_sweep); (try dsimp only); (try k_fold); skip))
  k_with "call ref" => ((k_here; (with_reducible show wpAny _ _ (call (Value.ref 268) _ _) _ _ _); k_dflt (refine' exp_series_c ?k1q241 ?k2q241 ?k3q241 ?k4q241 ?k5q241 ?kKq241 ?kdq241 ?kuq241 ?m0q241 ?p0q241 ?p1q241 ?p2q241 ?_; (case k1q241 => k_asm); (case k2q241 => k_asm); (case k3q241 => k_asm); (case k4q241 => k_asm); (case k5q241 => k_asm); (case kKq241 => first | exact rfl | assumption); (case kdq241 => ktr_room); (case kuq241 => ktr_units); (case m0q241 => k_mem); (case p0q241 => first | with_reducible assumption | omega); (case p1q241 => first | with_reducible assumption | omega); (case p2q241 => first | with_reducible assumption | k_dflt (have hq := (‹expS _ _ = some _›); refine Eq.trans ?_ hq; law_clear; subst_vars; exact rfl) | kwd_less); k_whole); intro r9 z9 y9 t9 u9 h9 tk9 e9 f9 F9 N9; (try k_sweep); (try dsimp only); (try k_fold); skip))
  k_with "call ref" => ((k_here; (with_reducible show wpAny _ _ (call (Value.ref 121) _ _) _ _ _); k_dflt (refine' lean_c ?k1q242 ?k2q242 ?k3q242 ?k4q242 ?k5q242 ?kKq242 ?kdq242 ?kuq242  ?p0q242 ?_; (case k1q242 => k_asm); (case k2q242 => k_asm); (case k3q242 => k_asm); (case k4q242 => k_asm); (case k5q242 => k_asm); (case kKq242 => first | exact rfl | assumption); (case kdq242 => ktr_room); (case kuq242 => ktr_units); (case p0q242 => first | with_reducible assumption | k_dflt (have hq := (‹leanF _ _ = some _›); refine Eq.trans ?_ hq; law_clear; subst_vars; exact rfl) | kwd_less); k_whole); intro r9 d9 z9 y9 j9 t9 i9 u9 h9 tk9 e9 f9 F9 N9; (try k_sweep); (try dsimp only); (try k_fold); skip))
  k_with "call ref" => ((k_here; (with_reducible show wpAny _ _ (call (Value.ref 135) _ _) _ _ _); k_dflt (refine' shifted_round_c ?k1q243 ?k2q243 ?k3q243 ?k4q243 ?k5q243 ?kKq243 ?kdq243 ?kuq243  ?p0q243 ?_; (case k1q243 => k_asm); (case k2q243 => k_asm); (case k3q243 => k_asm); (case k4q243 => k_asm); (case k5q243 => k_asm); (case kKq243 => first | exact rfl | assumption); (case kdq243 => ktr_room); (case kuq243 => ktr_units); (case p0q243 => first | with_reducible assumption | k_dflt (have hq := (‹shiftedF _ _ _ = some _›); refine Eq.trans ?_ hq; law_clear; subst_vars; exact rfl) | kwd_less); k_whole); intro r9 d9 z9 y9 j9 t9 i9 u9 h9 tk9 e9 f9 F9 N9; (try k_sweep); (try dsimp only); (try k_fold); skip))
  k_with "call ref" => ((k_here; (with_reducible show wpAny _ _ (call (Value.ref 149) _ _) _ _ _); k_dflt (refine' rounded_c ?k1q244 ?k2q244 ?k3q244 ?k4q244 ?k5q244 ?kKq244 ?kdq244 ?kuq244  ?p0q244 ?_; (case k1q244 => k_asm); (case k2q244 => k_asm); (case k3q244 => k_asm); (case k4q244 => k_asm); (case k5q244 => k_asm); (case kKq244 => first | exact rfl | assumption); (case kdq244 => ktr_room); (case kuq244 => ktr_units); (case p0q244 => first | with_reducible assumption | k_dflt (refine ev3 rfl (by first | with_reducible assumption | exact rfl) (by first | with_reducible assumption | exact rfl) (by assumption)) | kwd_less); k_whole); intro r9 d9 z9 y9 j9 t9 i9 u9 h9 tk9 e9 f9 F9 N9; (try k_sweep); (try dsimp only); (try k_fold); skip))
  k_with "call ref" => ((k_here; (with_reducible show wpAny _ _ (call (Value.ref 275) _ _) _ _ _); k_dflt (refine' odd_series_c ?k1q245 ?k2q245 ?k3q245 ?k4q245 ?k5q245 ?kKq245 ?kdq245 ?kuq245  ?p0q245 ?p1q245 ?p2q245 ?_; (case k1q245 => k_asm); (case k2q245 => k_asm); (case k3q245 => k_asm); (case k4q245 => k_asm); (case k5q245 => k_asm); (case kKq245 => first | exact rfl | assumption); (case kdq245 => ktr_room); (case kuq245 => ktr_units); (case p0q245 => first | with_reducible assumption | omega); (case p1q245 => first | with_reducible assumption | omega); (case p2q245 => first | with_reducible assumption | k_dflt (have hq := (‹oddS _ _ _ = some _›); refine Eq.trans ?_ hq; law_clear; subst_vars; exact rfl) | kwd_less); k_whole); intro r9 z9 y9 t9 u9 h9 tk9 e9 f9 F9 N9; (try k_sweep); (try dsimp only); (try k_fold); skip))
  k_with "call ref" => ((k_here; (with_reducible show wpAny _ _ (call (Value.ref 289) _ _) _ _ _); k_dflt (refine' reduced_by_twos_c ?k1q246 ?k2q246 ?k3q246 ?k4q246 ?k5q246 ?kKq246 ?kdq246 ?kuq246 ?m0q246 ?m1q246 ?p0q246 ?p1q246 ?p2q246 ?_; (case k1q246 => k_asm); (case k2q246 => k_asm); (case k3q246 => k_asm); (case k4q246 => k_asm); (case k5q246 => k_asm); (case kKq246 => first | exact rfl | assumption); (case kdq246 => ktr_room); (case kuq246 => ktr_units); (case m0q246 => k_mem); (case m1q246 => k_mem); (case p0q246 => first | with_reducible assumption | omega); (case p1q246 => first | with_reducible assumption | omega); (case p2q246 => first | with_reducible assumption | k_dflt (have hq := (‹redF _ _ _ = some _›); refine Eq.trans ?_ hq; law_clear; subst_vars; exact rfl) | kwd_less); k_whole); intro r9 p9 z9 u9 h9 tk9 e9 F9 N9; (try k_sweep); (try dsimp only); (try k_fold); skip))
  k_with "call ref" => ((k_here; (with_reducible show wpAny _ _ (call (Value.ref 303) _ _) _ _ _); k_dflt (refine' log_bounds_c ?k1q247 ?k2q247 ?k3q247 ?k4q247 ?k5q247 ?kKq247 ?kdq247 ?kuq247 ?m0q247 ?m1q247 ?p0q247 ?p1q247 ?p2q247 ?p3q247 ?p4q247 ?_; (case k1q247 => k_asm); (case k2q247 => k_asm); (case k3q247 => k_asm); (case k4q247 => k_asm); (case k5q247 => k_asm); (case kKq247 => first | exact rfl | assumption); (case kdq247 => ktr_room); (case kuq247 => ktr_units); (case m0q247 => k_mem); (case m1q247 => k_mem); (case p0q247 => first | with_reducible assumption | omega); (case p1q247 => first | with_reducible assumption | omega); (case p2q247 => first | with_reducible assumption | omega); (case p3q247 => first | with_reducible assumption | omega); (case p4q247 => first | with_reducible assumption | k_dflt (have hq := (‹logB _ _ _ = some _›); refine Eq.trans ?_ hq; law_clear; subst_vars; exact rfl) | kwd_less); k_whole); intro r9 z9 y9 t9 u9 h9 tk9 e9 f9 F9 N9; (try k_sweep); (try dsimp only); (try k_fold); skip))
  trivial
section
variable {w : World} {loose : List Str} {mean : ExcName → Option Value} {mg mb : Str → Option Value}
  {dp un : Nat} {gd : Option (List Code)} {cn : Str} {cs : Scope} {a : Addr} {ccd : Value} {cl : List (Str × Addr)} {outer : List Env} {A₀ : Around} {base h₀ : Heap} {L : Addr} {m : Str → Option Value} {news : List (Addr × Obj)} {s : Shared} {Q E : Value → Shared → Prop}

theorem exp_real_c {p : Int} {t9 : Tok} {v : Int × Int} {ps : Array Value} {c1 : Addr} {o1 : Obj} {x1 y1 : Int} {j1 t1 k1 u1 : Tok} {a1 d1 : Addr}
  (B : Below A₀ base outer h₀) (F : Fr h₀ L s.heap m) (X : (hd.heap_1 w.params).In h₀) (N : News h₀ L s.heap ((291, tabObj ps) :: (c1, o1) :: news)) (T : Top topProg loose mean mg mb h₀) (hk : cs.kind = .function)
  (hdp : dp + 24 < recursionLimit) (hun : un + 320 < cLine)
  (Ma1 : (a1, instObj (nat_lit 89) d1) ∈ news) (Md1 : (d1, realO w j1 x1 t1 k1 y1 u1) ∈ news) (hC : CodeHd h₀ 295 291) (ok : TabOk posE qualE ps c1 o1) (hne : ∀ q ∈ news, q.1 ≠ 291) (h0 : 0 ≤ p) (h1 : p < 1000) (hv : expF p x1 y1 = some v)
  (hret : ∀ r d z1 z2 j u1 k u2 ps' c' oc' h' tk', z1 = (v).1 → z2 = (v).2 → TabOk posE qualE ps' c' oc' → Fr h₀ L h' m → News h₀ L h' ((r, instObj (nat_lit 89) d) :: (d, realO w j z1 u1 k z2 u2) :: (291, tabObj ps') :: (c', oc') :: news) → Q (.ref r) { s with heap := h', toks := tk' }) :
  wpAny (model Challenge.rw_nt0168_01.row.prog w) (ktrTop dp un gd cn cs L a ccd cl outer) (call (.ref 296) [.int p t9, .ref a1]) Q E s := by
  have hn : expF p x1 y1 ≠ none := by rw [hv]; exact nofun
  obtain ⟨g1, g2, g3, tm, ⟨f1, f2⟩, r1, hr, hb, hdc, hv1⟩ := expF_parts hn
  rw [hv1] at hv
  obtain ⟨w1, w2, hl, b1, b2, b3, b4, b5, b6, b7, b8, b9, b10⟩ := bndF_parts hb
  obtain ⟨k1, k2⟩ := decF_parts hdc
  simp only [p2_eq] at k1 k2
  have q1 : 0 ≤ p + 12 + 17 := by omega
  have q2 : p + 12 + 17 < 9000 := by omega
  have q3 : p + 12 + 17 < 10000 := by omega
  refine wpAny_call ?_
  k_dflt (refine' code_defC ?k1 ?k2 ?k3 ?k4 ?k5 ?kA ?kF ?kK ?k6 ?k7 ?k8 ?k9 ?kB ?kD ?_ ?c2 ?c3 ?c4; (case kA => exact rfl); (case kF => exact rfl); (case kK => assumption); (case k1 => k_asm); (case k2 => k_asm); (case k3 => k_asm); (case k4 => k_asm); (case k5 => k_asm); (case k6 => k_is); (case k7 => k_is); (case k8 => ktr_room); (case k9 => exact BindsTo.of_eq rfl); (case kB => exact rfl); (case kD => decide +kernel); (case c2 => exact rfl); (case c3 => exact rfl); (case c4 => exact rfl); k_whole; intro g' L' h' tk' cells' FG' F' N' Y' B' X' T' l1; (try (replace l1 := allLt_of l1; dsimp only [AllLt] at l1)); k_cells Y'; (try simp only [List.cons_append, List.nil_append] at N'); (try dsimp only); (try k_lift B'); (try k_fold))
  k_steps
  all_goals (refine retTR hret (by assumption) (by k_asm) (by k_mem) (by k_mem) (Or.inr ⟨rfl, by assumption⟩) (by k_mem) (by k_mem) (by first | ((repeat (first | exact sub_refl | refine sub_cons ?_)); done) | (intro p hp; first | exact hp | (repeat (first | exact hp | refine List.mem_cons_of_mem _ ?_)))) ?_)
  all_goals ((try law_clear); subst_vars; rfl)
end
end
section
open PySem PySem.W PySem.Spec PySem.Calls PyProof.Rows
set_option Elab.async false
set_option maxRecDepth 100000
set_option maxHeartbeats 0
theorem reg_42 : True := by
  k_with_none
  k_with "lt9" => (first | with_reducible assumption | (refine ltc (by with_reducible assumption) ?_; first | exact pj1 | exact pj2 | exact pj3 | exact pj4 | exact pj5 | exact pj6 | exact pj7 | exact pj8 | exact pj9 | exact pj10 | exact pj11 | exact pj12 | exact pj13 | exact pj14 | exact qj1 | exact qj2 | exact qj3 | exact qj4 | exact qj5 | exact qj6 | exact qj7 | exact qj8 | exact qj9 | exact qj10 | exact qj11 | exact qj12 | exact qj13 | exact qj14))
  k_with "ne9" => (first | decide | (refine Nat.ne_of_lt ?_; walk_at "lt9") | (refine Nat.ne_of_gt ?_; walk_at "lt9") | exact Nat.ne_of_lt (Nat.lt_succ_self _) | exact Nat.ne_of_gt (Nat.lt_succ_self _) | (refine ne_up1 ?_; walk_at "lt9") | (refine ne_up2 ?_; walk_at "lt9") | (refine Ne.symm (ne_up1 ?_); walk_at "lt9") | (refine Ne.symm (ne_up2 ?_); walk_at "lt9"))
  trivial
-- Sm facts
theorem reg_43 : True := by
  k_with "eval Constant int" => (refine const_intN ?_)
  k_with "binaryOp Add int int" => (with_reducible refine add_intN ?_)
  k_with "binaryOp Sub int int" => (with_reducible refine sub_intN ?_)
  k_with "binaryOp Mult int int" => (with_reducible refine mul_intN ?_)
  k_with "binaryOp FloorDiv int int" => ((k_here; (with_reducible refine floordiv_intN ?feq254 ?_ (Sm.py ?fpq254)); (case feq254 => first | decide | omega | assumption); (case fpq254 => ktr_rel)))
  k_with "binaryOp LShift int int" => ((k_here; (with_reducible refine lshift_intN ?feq255 ?fpq255 ?_); (case feq255 => omega); (case fpq255 => exact Sm.shl (by ktr_rel) (by omega))))
  k_with "ite" => ((k_here; k_openite; k_spoken; first
  | (refine ite_pos (by ((try simp only [beq_iff_eq, bne_iff_ne, ne_eq, Bool.not_eq_true', beq_eq_false_iff_ne]); (try law_clear); (try subst_vars); first | assumption | exact decide_eq_true rfl | exact Int.not_le.mp (by assumption) | exact Int.not_lt.mp (by assumption) | (law_clear; omega))) ?_; walk_say "PRUNED own")
  | (refine ite_neg (by ((try simp only [beq_iff_eq, bne_iff_ne, ne_eq, Bool.not_eq_true', beq_eq_false_iff_ne]); (try law_clear); (try subst_vars); first | assumption | exact Int.not_le.mpr (by assumption) | exact Int.not_lt.mpr (by assumption) | (law_clear; omega))) ?_; walk_say "PRUNED own")))
  k_with "subscriptTail" => ((k_here; (with_reducible show wpAny _ _ (subscriptTail _ _ (Value.ref _) (Value.int _ _)) _ _ _); k_dflt (refine' item_tupleT ?tq257 ?aq257 ?bq257 ?cq257 ?dq257 ?_; (case tq257 => exact News.isTup (by k_asm) (by k_mem)); (case aq257 => decide); (case bq257 => decide); (case cq257 => rfl); (case dq257 => rfl); k_whole)))
  k_with "subscriptTail Name Constant ref int" => ((k_here; (with_reducible show wpAny _ _ (subscriptTail _ _ (Value.ref _) (Value.int _ _)) _ _ _); k_dflt (refine' item_tupleT ?tq258 ?aq258 ?bq258 ?cq258 ?dq258 ?_; (case tq258 => exact News.isTup (by k_asm) (by k_mem)); (case aq258 => decide); (case bq258 => decide); (case cq258 => rfl); (case dq258 => rfl); k_whole)))
  k_with "callWith ref" => ((k_here; k_dflt (refine' callWith_K ?k1q259 ?k2q259 ?_; (case k1q259 => k_asm); (case k2q259 => k_is); k_whole)))
  k_with "call builtin:divmod" => ((k_here; (with_reducible show wpAny _ _ (call (Value.builtin _) [Value.int _ _, Value.int _ _]) _ _ _); k_dflt (refine' divmod_N ?k1q260 ?k2q260 ?feq260 ?_ (Or.inl (Sm.py ?fpq260)); (case k1q260 => k_asm); (case k2q260 => k_asm); (case feq260 => first | omega | exact Int.ne_of_gt (Int.mul_pos (by omega) (pow2_pos _))); (case fpq260 => ktr_rel)); intro h' F' N'; (try k_sweep)))
  k_with "call builtin:max" => ((k_here; (with_reducible show wpAny _ _ (call (Value.builtin _) [Value.ref _]) _ _ _); k_dflt (first
  | (refine' max_tup ?k0q261 ?k1q261 ?k2q261 ?k3q261 ?_; (case k0q261 => exact rfl); (case k1q261 => k_asm); (case k2q261 => k_asm); (case k3q261 => exact News.isTup (by k_asm) (by k_mem)))
  | (refine' max_list4 ?k0q261 ?k1q261 ?k2q261 ?k3q261 ?_; (case k0q261 => exact rfl); (case k1q261 => k_asm); (case k2q261 => k_asm); (case k3q261 => exact News.isList (by k_asm) (by k_mem)))); k_whole; intro h' r' tk' F' N'; (try k_sweep)))
  k_with "call builtin:min" => ((k_here; (with_reducible show wpAny _ _ (call (Value.builtin _) [Value.ref _]) _ _ _); k_dflt (first
  | (refine' min_tup ?k0q262 ?k1q262 ?k2q262 ?k3q262 ?_; (case k0q262 => exact rfl); (case k1q262 => k_asm); (case k2q262 => k_asm); (case k3q262 => exact News.isTup (by k_asm) (by k_mem)))
  | (refine' min_list4 ?k0q262 ?k1q262 ?k2q262 ?k3q262 ?_; (case k0q262 => exact rfl); (case k1q262 => k_asm); (case k2q262 => k_asm); (case k3q262 => exact News.isList (by k_asm) (by k_mem)))); k_whole; intro h' r' tk' F' N'; (try k_sweep)))
  k_with "newTuple" => ((k_here; k_dflt (refine' newTupL ?Fq263 ?Nq263 ?_ ?zq263; (case Fq263 => k_asm); (case Nq263 => k_asm); (case zq263 => kmk_size)); intro D' h' F' N' l1; (try (replace l1 := allLt_of l1; dsimp only [AllLt] at l1)); (try k_sweep)))
  k_with "storeName" => ((k_here; k_dflt (refine' storeX_S (by k_asm) (by k_asm) rfl (by k_mem) (by assumption) (by repeat' (first | exact Sift.all (by assumption) | exact Sift.all (allLt_ne (And.right (And.right ‹_ ∧ _ ∧ AllLt _ _›)) (by omega)) | exact Sift.all (ltAll (by assumption) (by omega)) | (apply Sift.keep; (case h => first | (refine neN ?_; first | walk_at "ne9" | omega) | exact newsNe (by assumption) (by k_mem) (by k_mem) (by assumption) (by intro _ e; cases e))) | apply Sift.drop)) ?_ rfl rfl; k_whole); intro h' o' F' N' d1'; (try dsimp only)))
  k_with "exec FunctionDef" => ((k_here; k_dflt (refine' nestDef_K ?d0q265 ?k0q265 ?a0q265 ?_; (case d0q265 => exact rfl); (case k0q265 => exact rfl); (case a0q265 => exact rfl)); k_dflt (refine' nest_S (by k_asm) (by k_asm) (by k_asm) (by first | assumption | exact CodeHd.keeps (by assumption) (Fr.keep (by assumption))) rfl (by assumption) (by k_mem) (by k_mem) (by repeat' (first | exact Sift.all (by assumption) | exact Sift.all (allLt_ne (And.right (And.right ‹_ ∧ _ ∧ AllLt _ _›)) (by omega)) | exact Sift.all (ltAll (by assumption) (by omega)) | (apply Sift.keep; (case h => first | (refine neN ?_; first | walk_at "ne9" | omega) | exact newsNe (by assumption) (by k_mem) (by k_mem) (by assumption) (by intro _ e; cases e))) | apply Sift.drop)) (by intro c9; kn_triples) (by intro c9; kn_hit) rfl ?_; k_whole); intro f' c' oc' doc' ct' h' tk' F' N' ok'; (have ok2' := ok'); (obtain ⟨vs', t', d1', d2'⟩ := ok2'); (try dsimp only at N')))
  k_with "eval Lambda" => ((k_here; k_dflt (refine' kla_eval ?d0q266 ?_; (case d0q266 => exact rfl)); k_dflt (refine' lam_S (by k_asm) (by k_asm) (by k_asm) (by first | assumption | exact CodeHd.keeps (by assumption) (Fr.keep (by assumption))) rfl (by assumption) (by k_mem) (by k_mem) (by repeat' (first | exact Sift.all (by assumption) | exact Sift.all (allLt_ne (And.right (And.right ‹_ ∧ _ ∧ AllLt _ _›)) (by omega)) | exact Sift.all (ltAll (by assumption) (by omega)) | (apply Sift.keep; (case h => first | (refine neN ?_; first | walk_at "ne9" | omega) | exact newsNe (by assumption) (by k_mem) (by k_mem) (by assumption) (by intro _ e; cases e))) | apply Sift.drop)) (by intro c9; kn_triples) (by intro c9; kn_hit) rfl ?_; k_whole); intro f' c' oc' ct' h' tk' F' N' ok'; (have ok2' := ok'); (obtain ⟨vs', t', d1', d2'⟩ := ok2'); (try dsimp only at N')))
  k_with "OnceB" => ((dsimp only [OnceB]))
  k_with "exec While" => ((k_here; k_dflt (refine' while_once (by k_asm) (by k_asm) ?_); k_whole; intro h' tk' F' N'; (try dsimp only); (try k_fold)))
  k_with "call ref" => ((k_here; (with_reducible show wpAny _ _ (call (Value.ref 282) _ _) _ _ _); k_dflt (refine wpAny_call ?_; ktr_enter)))
  k_with "call ref" => ((k_here; (with_reducible show wpAny _ _ (call (Value.ref 100) _ _) _ _ _); k_dflt (refine' size_of_c ?k1q270 ?k2q270 ?k3q270 ?k4q270 ?k5q270 ?kKq270 ?kdq270 ?kuq270   ?_; (case k1q270 => k_asm); (case k2q270 => k_asm); (case k3q270 => k_asm); (case k4q270 => k_asm); (case k5q270 => k_asm); (case kKq270 => first | exact rfl | assumption); (case kdq270 => ktr_room); (case kuq270 => ktr_units); k_whole); intro z9 t9 h9 tk9 e9 F9 N9; (try k_sweep); (try dsimp only); (try k_fold); skip))
  k_with "call ref" => ((k_here; (with_reducible show wpAny _ _ (call (Value.ref 107) _ _) _ _ _); k_dflt (refine' sign_of_whole_c ?k1q271 ?k2q271 ?k3q271 ?k4q271 ?k5q271 ?kKq271 ?kdq271 ?kuq271   ?_; (case k1q271 => k_asm); (case k2q271 => k_asm); (case k3q271 => k_asm); (case k4q271 => k_asm); (case k5q271 => k_asm); (case kKq271 => first | exact rfl | assumption); (case kdq271 => ktr_room); (case kuq271 => ktr_units); k_whole); intro z9 t9 h9 tk9 e9 F9 N9; (try k_sweep); (try dsimp only); (try k_fold); skip))
  k_with "call ref" => ((k_here; (with_reducible show wpAny _ _ (call (Value.ref 114) _ _) _ _ _); k_dflt (refine' zeros_below_c ?k1q272 ?k2q272 ?k3q272 ?k4q272 ?k5q272 ?kKq272 ?kdq272 ?kuq272   ?_; (case k1q272 => k_asm); (case k2q272 => k_asm); (case k3q272 => k_asm); (case k4q272 => k_asm); (case k5q272 => k_asm); (case kKq272 => first | exact rfl | assumption); (case kdq272 => ktr_room); (case kuq272 => ktr_units); k_whole); intro z9 t9 h9 tk9 e9 F9 N9; (try k_sweep); (try dsimp only); (try k_fold); skip))
  k_with "call ref" => ((k_here; (with_reducible show wpAny _ _ (call (Value.ref 177) _ _) _ _ _); k_dflt (refine' up_shift_c ?k1q273 ?k2q273 ?k3q273 ?k4q273 ?k5q273 ?kKq273 ?kdq273 ?kuq273  ?p0q273 ?_; (case k1q273 => k_asm); (case k2q273 => k_asm); (case k3q273 => k_asm); (case k4q273 => k_asm); (case k5q273 => k_asm); (case kKq273 => first | exact rfl | assumption); (case kdq273 => ktr_room); (case kuq273 => ktr_units); (case p0q273 => first | with_reducible assumption | omega); k_whole); intro z9 t9 h9 tk9 e9 F9 N9; (try k_sweep); (try dsimp only); (try k_fold); skip))
  k_with "call ref" => ((k_here; (with_reducible show wpAny _ _ (call (Value.ref 184) _ _) _ _ _); k_dflt (refine' up_over_c ?k1q274 ?k2q274 ?k3q274 ?k4q274 ?k5q274 ?kKq274 ?kdq274 ?kuq274  ?p0q274 ?p1q274 ?_; (case k1q274 => k_asm); (case k2q274 => k_asm); (case k3q274 => k_asm); (case k4q274 => k_asm); (case k5q274 => k_asm); (case kKq274 => first | exact rfl | assumption); (case kdq274 => ktr_room); (case kuq274 => ktr_units); (case p0q274 => first | with_reducible assumption | omega); (case p1q274 => ktr_rel); k_whole); intro z9 t9 h9 tk9 e9 F9 N9; (try k_sweep); (try dsimp only); (try k_fold); skip))
  k_with "call ref" => ((k_here; (with_reducible show wpAny _ _ (call (Value.ref 142) _ _) _ _ _); k_dflt (refine' with_sticky_c ?k1q275 ?k2q275 ?k3q275 ?k4q275 ?k5q275 ?kKq275 ?kdq275 ?kuq275   ?_; (case k1q275 => k_asm); (case k2q275 => k_asm); (case k3q275 => k_asm); (case k4q275 => k_asm); (case k5q275 => k_asm); (case kKq275 => first | exact rfl | assumption); (case kdq275 => ktr_room); (case kuq275 => ktr_units); k_whole); intro z9 t9 h9 tk9 e9 F9 N9; (try k_sweep); (try dsimp only); (try k_fold); skip))
  k_with "call ref" => ((k_here; (with_reducible show wpAny _ _ (call (Value.ref 128) _ _) _ _ _); k_dflt (refine' nearest_shift_c ?k1q276 ?k2q276 ?k3q276 ?k4q276 ?k5q276 ?kKq276 ?kdq276 ?kuq276  ?p0q276 ?p1q276 ?_; (case k1q276 => k_asm); (case k2q276 => k_asm); (case k3q276 => k_asm); (case k4q276 => k_asm); (case k5q276 => k_asm); (case kKq276 => first | exact rfl | assumption); (case kdq276 => ktr_room); (case kuq276 => ktr_units); (case p0q276 => first | with_reducible assumption | omega); (case p1q276 => first | with_reducible assumption | omega); k_whole); intro z9 t9 h9 tk9 e9 F9 N9; (try k_sweep); (try dsimp only); (try k_fold); skip))
  k_with "call ref" => ((k_here; (with_reducible show wpAny _ _ (call (Value.ref 198) _ _) _ _ _); k_dflt (refine' more_of_c ?k1q277 ?k2q277 ?k3q277 ?k4q277 ?k5q277 ?kKq277 ?kdq277 ?kuq277 ?m0q277 ?m1q277  ?_; (case k1q277 => k_asm); (case k2q277 => k_asm); (case k3q277 => k_asm); (case k4q277 => k_asm); (case k5q277 => k_asm); (case kKq277 => first | exact rfl | assumption); (case kdq277 => ktr_room); (case kuq277 => ktr_units); (case m0q277 => k_mem); (case m1q277 => k_mem); k_whole); intro r9 z9 y9 t9 u9 h9 tk9 e9 f9 F9 N9; (try k_sweep); (try dsimp only); (try k_fold); skip))
  k_with "call ref" => ((k_here; (with_reducible show wpAny _ _ (call (Value.ref 205) _ _) _ _ _); k_dflt (refine' less_of_c ?k1q278 ?k2q278 ?k3q278 ?k4q278 ?k5q278 ?kKq278 ?kdq278 ?kuq278 ?m0q278 ?m1q278  ?_; (case k1q278 => k_asm); (case k2q278 => k_asm); (case k3q278 => k_asm); (case k4q278 => k_asm); (case k5q278 => k_asm); (case kKq278 => first | exact rfl | assumption); (case kdq278 => ktr_room); (case kuq278 => ktr_units); (case m0q278 => k_mem); (case m1q278 => k_mem); k_whole); intro r9 z9 y9 t9 u9 h9 tk9 e9 f9 F9 N9; (try k_sweep); (try dsimp only); (try k_fold); skip))
  k_with "call ref" => ((k_here; (with_reducible show wpAny _ _ (call (Value.ref 212) _ _) _ _ _); k_dflt (refine' often_c ?k1q279 ?k2q279 ?k3q279 ?k4q279 ?k5q279 ?kKq279 ?kdq279 ?kuq279 ?m0q279 ?p0q279 ?p1q279 ?_; (case k1q279 => k_asm); (case k2q279 => k_asm); (case k3q279 => k_asm); (case k4q279 => k_asm); (case k5q279 => k_asm); (case kKq279 => first | exact rfl | assumption); (case kdq279 => ktr_room); (case kuq279 => ktr_units); (case m0q279 => k_mem); (case p0q279 => mul_fits); (case p1q279 => mul_fits); k_whole); intro r9 z9 y9 t9 u9 h9 tk9 e9 f9 F9 N9; (try k_sweep); (try dsimp only); (try k_fold); skip))
  k_with "call ref" => ((k_here; (with_reducible show wpAny _ _ (call (Value.ref 233) _ _) _ _ _); k_dflt (refine' widened_c ?k1q280 ?k2q280 ?k3q280 ?k4q280 ?k5q280 ?kKq280 ?kdq280 ?kuq280 ?m0q280  ?_; (case k1q280 => k_asm); (case k2q280 => k_asm); (case k3q280 => k_asm); (case k4q280 => k_asm); (case k5q280 => k_asm); (case kKq280 => first | exact rfl | assumption); (case kdq280 => ktr_room); (case kuq280 => ktr_units); (case m0q280 => k_mem); k_whole); intro r9 z9 y9 t9 u9 h9 tk9 e9 f9 F9 N9; (try k_sweep); (try dsimp only); (try k_fold); skip))
  k_with "call ref" => ((k_here; (with_reducible show wpAny _ _ (call (Value.ref 240) _ _) _ _ _); k_dflt (refine' greatest_of_c ?k1q281 ?k2q281 ?k3q281 ?k4q281 ?k5q281 ?kKq281 ?kdq281 ?kuq281 ?m0q281  ?_; (case k1q281 => k_asm); (case k2q281 => k_asm); (case k3q281 => k_asm); (case k4q281 => k_asm); (case k5q281 => k_asm); (case kKq281 => first | exact rfl | assumption); (case kdq281 => ktr_room); (case kuq281 => ktr_units); (case m0q281 => k_mem); k_whole); intro z9 t9 h9 tk9 e9 F9 N9; (try k_sweep); (try dsimp only); (try k_fold); skip))
  k_with "call ref" => ((k_here; (with_reducible show wpAny _ _ (call (Value.ref 226) _ _) _ _ _); k_dflt (refine' part_of_c ?k1q282 ?k2q282 ?k3q282 ?k4q282 ?k5q282 ?kKq282 ?kdq282 ?kuq282 ?m0q282 ?p0q282 ?p1q282 ?_; (case k1q282 => k_asm); (case k2q282 => k_asm); (case k3q282 => k_asm); (case k4q282 => k_asm); (case k5q282 => k_asm); (case kKq282 => first | exact rfl | assumption); (case kdq282 => ktr_room); (case kuq282 => ktr_units); (case m0q282 => k_mem); (case p0q282 => first | with_reducible assumption | omega); (case p1q282 => ktr_rel); k_whole); intro r9 z9 y9 t9 u9 h9 tk9 e9 f9 F9 N9; (try k_sweep); (try dsimp only); (try k_fold); skip))
  k_with "call ref" => ((k_here; (with_reducible show wpAny _ _ (call (Value.ref 219) _ _) _ _ _); k_dflt (refine' product_of_c ?k1q283 ?k2q283 ?k3q283 ?k4q283 ?k5q283 ?kKq283 ?kdq283 ?kuq283 ?m0q283 ?m1q283 ?p0q283 ?p1q283 ?p2q283 ?p3q283 ?p4q283 ?_; (case k1q283 => k_asm); (case k2q283 => k_asm); (case k3q283 => k_asm); (case k4q283 => k_asm); (case k5q283 => k_asm); (case kKq283 => first | exact rfl | assumption); (case kdq283 => ktr_room); (case kuq283 => ktr_units); (case m0q283 => k_mem); (case m1q283 => k_mem); (case p0q283 => first | with_reducible assumption | omega); (case p1q283 => ktr_rel); (case p2q283 => ktr_rel); (case p3q283 => ktr_rel); (case p4q283 => ktr_rel); k_whole); intro r9 z9 y9 t9 u9 h9 tk9 e9 f9 F9 N9; (try k_sweep); (try dsimp only); (try k_fold); skip))
  k_with "call ref" => ((k_here; (with_reducible show wpAny _ _ (call (Value.ref 191) _ _) _ _ _); k_dflt (refine' fraction_bounds_c ?k1q284 ?k2q284 ?k3q284 ?k4q284 ?k5q284 ?kKq284 ?kdq284 ?kuq284  ?p0q284 ?p1q284 ?p2q284 ?p3q284 ?p4q284 ?_; (case k1q284 => k_asm); (case k2q284 => k_asm); (case k3q284 => k_asm); (case k4q284 => k_asm); (case k5q284 => k_asm); (case kKq284 => first | exact rfl | assumption); (case kdq284 => ktr_room); (case kuq284 => ktr_units); (case p0q284 => first | with_reducible assumption | omega); (case p1q284 => first | with_reducible assumption | omega); (case p2q284 => ktr_rel); (case p3q284 => first | with_reducible assumption | omega); (case p4q284 => ktr_rel); k_whole); intro r9 z9 y9 t9 u9 h9 tk9 e9 f9 F9 N9; (try k_sweep); (try dsimp only); (try k_fold); skip))
  k_with "call ref" => ((k_here; (with_reducible show wpAny _ _ (call (Value.ref 89) _ _) _ _ _); k_dflt (refine' real_c ?k1q285 ?k2q285 ?k3q285 ?k4q285 ?k5q285 ?kKq285 ?kdq285 ?kuq285   ?_; (case k1q285 => k_asm); (case k2q285 => k_asm); (case k3q285 => k_asm); (case k4q285 => k_asm); (case k5q285 => k_asm); (case kKq285 => first | exact rfl | assumption); (case kdq285 => ktr_room); (case kuq285 => ktr_units); k_whole); intro r9 d9 z9 y9 j9 t9 i9 u9 h9 tk9 e9 f9 F9 N9; (try k_sweep); (try dsimp only); (try k_fold); skip))
  k_with "call ref" => ((k_here; (with_reducible show wpAny _ _ (call (Value.ref 156) _ _) _ _ _); k_dflt (refine' place_of_c ?k1q286 ?k2q286 ?k3q286 ?k4q286 ?k5q286 ?kKq286 ?kdq286 ?kuq286 ?m0q286 ?m1q286  ?_; (case k1q286 => k_asm); (case k2q286 => k_asm); (case k3q286 => k_asm); (case k4q286 => k_asm); (case k5q286 => k_asm); (case kKq286 => first | exact rfl | assumption); (case kdq286 => ktr_room); (case kuq286 => ktr_units); (case m0q286 => k_mem); (case m1q286 => k_mem); k_whole); intro z9 t9 h9 tk9 e9 F9 N9; (try k_sweep); (try dsimp only); (try k_fold); skip))
  k_with "call ref" => ((k_here; (with_reducible show wpAny _ _ (call (Value.ref 163) _ _) _ _ _); k_dflt (refine' sign_of_c ?k1q287 ?k2q287 ?k3q287 ?k4q287 ?k5q287 ?kKq287 ?kdq287 ?kuq287 ?m0q287 ?m1q287  ?_; (case k1q287 => k_asm); (case k2q287 => k_asm); (case k3q287 => k_asm); (case k4q287 => k_asm); (case k5q287 => k_asm); (case kKq287 => first | exact rfl | assumption); (case kdq287 => ktr_room); (case kuq287 => ktr_units); (case m0q287 => k_mem); (case m1q287 => k_mem); k_whole); intro z9 t9 h9 tk9 e9 F9 N9; (try k_sweep); (try dsimp only); (try k_fold); skip))
  k_with "call ref" => ((k_here; (with_reducible show wpAny _ _ (call (Value.ref 170) _ _) _ _ _); k_dflt (refine' same_real_c ?k1q288 ?k2q288 ?k3q288 ?k4q288 ?k5q288 ?kKq288 ?kdq288 ?kuq288 ?m0q288 ?m1q288 ?m2q288 ?m3q288  ?_; (case k1q288 => k_asm); (case k2q288 => k_asm); (case k3q288 => k_asm); (case k4q288 => k_asm); (case k5q288 => k_asm); (case kKq288 => first | exact rfl | assumption); (case kdq288 => ktr_room); (case kuq288 => ktr_units); (case m0q288 => k_mem); (case m1q288 => k_mem); (case m2q288 => k_mem); (case m3q288 => k_mem); k_whole); intro h9 tk9 F9 N9; (try k_sweep); (try dsimp only); (try k_fold); skip))
  k_with "call ref" => ((k_here; (with_reducible show wpAny _ _ (call (Value.ref 247) _ _) _ _ _); k_dflt (refine' fraction_of_c ?k1q289 ?k2q289 ?k3q289 ?k4q289 ?k5q289 ?kKq289 ?kdq289 ?kuq289 ?m0q289 ?m1q289 ?p0q289 ?p1q289 ?p2q289 ?_; (case k1q289 => k_asm); (case k2q289 => k_asm); (case k3q289 => k_asm); (case k4q289 => k_asm); (case k5q289 => k_asm); (case kKq289 => first | exact rfl | assumption); (case kdq289 => ktr_room); (case kuq289 => ktr_units); (case m0q289 => k_mem); (case m1q289 => k_mem); (case p0q289 => ktr_rel); (case p1q289 => first | with_reducible assumption | omega); (case p2q289 => first | with_reducible assumption | omega); k_whole); intro r9 z9 y9 t9 u9 h9 tk9 e9 f9 F9 N9; (try k_sweep); (try dsimp only); (try k_fold); skip))
  k_with "call ref" => ((k_here; (with_reducible show wpAny _ _ (call (Value.ref 254) _ _) _ _ _); k_dflt (refine' inverse_series_c ?k1q290 ?k2q290 ?k3q290 ?k4q290 ?k5q290 ?kKq290 ?kdq290 ?kuq290  ?p0q290 ?p1q290 ?p2q290 ?_; (case k1q290 => k_asm); (case k2q290 => k_asm); (case k3q290 => k_asm); (case k4q290 => k_asm); (case k5q290 => k_asm); (case kKq290 => first | exact rfl | assumption); (case kdq290 => ktr_room); (case kuq290 => ktr_units); (case p0q290 => first | with_reducible assumption | omega); (case p1q290 => first | with_reducible assumption | omega); (case p2q290 => first | with_reducible assumption | k_dflt (have hq := (‹invF _ _ _ _ _ = some _›); refine Eq.trans ?_ hq; law_clear; subst_vars; exact rfl) | kwd_less); k_whole); intro r9 z9 y9 t9 u9 h9 tk9 e9 f9 F9 N9; (try k_sweep); (try dsimp only); (try k_fold); skip))
  k_with "call ref" => ((k_here; (with_reducible show wpAny _ _ (call (Value.ref 261) _ _) _ _ _); k_dflt (refine' log_of_two_c ?k1q291 ?k2q291 ?k3q291 ?k4q291 ?k5q291 ?kKq291 ?kdq291 ?kuq291  ?p0q291 ?p1q291 ?p2q291 ?_; (case k1q291 => k_asm); (case k2q291 => k_asm); (case k3q291 => k_asm); (case k4q291 => k_asm); (case k5q291 => k_asm); (case kKq291 => first | exact rfl | assumption); (case kdq291 => ktr_room); (case kuq291 => ktr_units); (case p0q291 => first | with_reducible assumption | omega); (case p1q291 => first | with_reducible assumption | omega); (case p2q291 => first | with_reducible assumption | k_dflt (have hq := (‹log2F _ = some _›); refine Eq.trans ?_ hq; law_clear; subst_vars; exact rfl) | kwd_less); k_whole); intro r9 z9 y9 t9 u9 h9 tk9 e9 f9 F9 N9; (try k_sweep); (try dsimp only); (try k_fold); skip))
  k_with "call ref" => ((k_here; (with_reducible show wpAny _ _ (call (Value.ref 268) _ _) _ _ _); k_dflt (refine' exp_series_c ?k1q292 ?k2q292 ?k3q292 ?k4q292 ?k5q292 ?kKq292 ?kdq292 ?kuq292 ?m0q292 ?p0q292 ?p1q292 ?p2q292 ?_; (case k1q292 => k_asm); (case k2q292 => k_asm); (case k3q292 => k_asm); (case k4q292 => k_asm); (case k5q292 => k_asm); (case kKq292 => first | exact rfl | assumption); (case kdq292 => ktr_room); (case kuq292 => ktr_units); (case m0q292 => k_mem); (case p0q292 => first | with_reducible assumption | omega); (case p1q292 => first | with_reducible assumption | omega); (case p2q292 => first | with_reducible assumption | k_dflt (have hq := (‹expS _ _ = some _›); refine Eq.trans ?_ hq; law_clear; subst_vars; exact rfl) | kwd_less); k_whole); intro r9 z9 y9 t9 u9 h9 tk9 e9 f9 F9 N9; (try k_sweep); (try dsimp only); (try k_fold); skip))
  k_with "call ref" => ((k_here; (with_reducible show wpAny _ _ (call (Value.ref 121) _ _) _ _ _); k_dflt (refine' lean_c ?k1q293 ?k2q293 ?k3q293 ?k4q293 ?k5q293 ?kKq293 ?kdq293 ?kuq293  ?p0q293 ?_; (case k1q293 => k_asm); (case k2q293 => k_asm); (case k3q293 => k_asm); (case k4q293 => k_asm); (case k5q293 => k_asm); (case kKq293 => first | exact rfl | assumption); (case kdq293 => ktr_room); (case kuq293 => ktr_units); (case p0q293 => first | with_reducible assumption | k_dflt (have hq := (‹leanF _ _ = some _›); refine Eq.trans ?_ hq; law_clear; subst_vars; exact rfl) | kwd_less); k_whole); intro r9 d9 z9 y9 j9 t9 i9 u9 h9 tk9 e9 f9 F9 N9; (try k_sweep); (try dsimp only); (try k_fold); skip))
  k_with "call ref" => ((k_here; (with_reducible show wpAny _ _ (call (Value.ref 135) _ _) _ _ _); k_dflt (refine' shifted_round_c ?k1q294 ?k2q294 ?k3q294 ?k4q294 ?k5q294 ?kKq294 ?kdq294 ?kuq294  ?p0q294 ?_; (case k1q294 => k_asm); (case k2q294 => k_asm); (case k3q294 => k_asm); (case k4q294 => k_asm); (case k5q294 => k_asm); (case kKq294 => first | exact rfl | assumption); (case kdq294 => ktr_room); (case kuq294 => ktr_units); (case p0q294 => first | with_reducible assumption | k_dflt (have hq := (‹shiftedF _ _ _ = some _›); refine Eq.trans ?_ hq; law_clear; subst_vars; exact rfl) | kwd_less); k_whole); intro r9 d9 z9 y9 j9 t9 i9 u9 h9 tk9 e9 f9 F9 N9; (try k_sweep); (try dsimp only); (try k_fold); skip))
  k_with "call ref" => ((k_here; (with_reducible show wpAny _ _ (call (Value.ref 149) _ _) _ _ _); k_dflt (refine' rounded_c ?k1q295 ?k2q295 ?k3q295 ?k4q295 ?k5q295 ?kKq295 ?kdq295 ?kuq295  ?p0q295 ?_; (case k1q295 => k_asm); (case k2q295 => k_asm); (case k3q295 => k_asm); (case k4q295 => k_asm); (case k5q295 => k_asm); (case kKq295 => first | exact rfl | assumption); (case kdq295 => ktr_room); (case kuq295 => ktr_units); (case p0q295 => first | with_reducible assumption | k_dflt (refine ev3 rfl (by first | with_reducible assumption | exact rfl) (by first | with_reducible assumption | exact rfl) (by assumption)) | kwd_less); k_whole); intro r9 d9 z9 y9 j9 t9 i9 u9 h9 tk9 e9 f9 F9 N9; (try k_sweep); (try dsimp only); (try k_fold); skip))
  k_with "call ref" => ((k_here; (with_reducible show wpAny _ _ (call (Value.ref 275) _ _) _ _ _); k_dflt (refine' odd_series_c ?k1q296 ?k2q296 ?k3q296 ?k4q296 ?k5q296 ?kKq296 ?kdq296 ?kuq296  ?p0q296 ?p1q296 ?p2q296 ?_; (case k1q296 => k_asm); (case k2q296 => k_asm); (case k3q296 => k_asm); (case k4q296 => k_asm); (case k5q296 => k_asm); (case kKq296 => first | exact rfl | assumption); (case kdq296 => ktr_room); (case kuq296 => ktr_units); (case p0q296 => first | with_reducible assumption | omega); (case p1q296 => first | with_reducible assumption | omega); (case p2q296 => first | with_reducible assumption | k_dflt (have hq := (‹oddS _ _ _ = some _›); refine Eq.trans ?_ hq; law_clear; subst_vars; exact rfl) | kwd_less); k_whole); intro r9 z9 y9 t9 u9 h9 tk9 e9 f9 F9 N9; (try k_sweep); (try dsimp only); (try k_fold); skip))
  k_with "call ref" => ((k_here; (with_reducible show wpAny _ _ (call (Value.ref 289) _ _) _ _ _); k_dflt (refine' reduced_by_twos_c ?k1q297 ?k2q297 ?k3q297 ?k4q297 ?k5q297 ?kKq297 ?kdq297 ?kuq297 ?m0q297 ?m1q297 ?p0q297 ?p1q297 ?p2q297 ?_; (case k1q297 => k_asm); (case k2q297 => k_asm); (case k3q297 => k_asm); (case k4q297 => k_asm); (case k5q297 => k_asm); (case kKq297 => first | exact rfl | assumption); (case kdq297 => ktr_room); (case kuq297 => ktr_units); (case m0q297 => k_mem); (case m1q297 => k_mem); (case p0q297 => first | with_reducible assumption | omega); (case p1q297 => first | with_reducible assumption | omega); (case p2q297 => first | with_reducible assumption | k_dflt (have hq := (‹redF _ _ _ = some _›); refine Eq.trans ?_ hq; law_clear; subst_vars; exact rfl) | kwd_less); k_whole); intro r9 p9 z9 u9 h9 tk9 e9 F9 N9; (try k_sweep); (try dsimp only); (try k_fold); skip))
  k_with "call ref" => ((k_here; (with_reducible show wpAny _ _ (call (Value.ref 303) _ _) _ _ _); k_dflt (refine' log_bounds_c ?k1q298 ?k2q298 ?k3q298 ?k4q298 ?k5q298 ?kKq298 ?kdq298 ?kuq298 ?m0q298 ?m1q298 ?p0q298 ?p1q298 ?p2q298 ?p3q298 ?p4q298 ?_; (case k1q298 => k_asm); (case k2q298 => k_asm); (case k3q298 => k_asm); (case k4q298 => k_asm); (case k5q298 => k_asm); (case kKq298 => first | exact rfl | assumption); (case kdq298 => ktr_room); (case kuq298 => ktr_units); (case m0q298 => k_mem); (case m1q298 => k_mem); (case p0q298 => first | with_reducible assumption | omega); (case p1q298 => first | with_reducible assumption | omega); (case p2q298 => first | with_reducible assumption | omega); (case p3q298 => first | with_reducible assumption | omega); (case p4q298 => first | with_reducible assumption | k_dflt (have hq := (‹logB _ _ _ = some _›); refine Eq.trans ?_ hq; law_clear; subst_vars; exact rfl) | kwd_less); k_whole); intro r9 z9 y9 t9 u9 h9 tk9 e9 f9 F9 N9; (try k_sweep); (try dsimp only); (try k_fold); skip))
  trivial
section
variable {w : World} {loose : List Str} {mean : ExcName → Option Value} {mg mb : Str → Option Value}
  {dp un : Nat} {gd : Option (List Code)} {cn : Str} {cs : Scope} {a : Addr} {ccd : Value} {cl : List (Str × Addr)} {outer : List Env} {A₀ : Around} {base h₀ : Heap} {L : Addr} {m : Str → Option Value} {news : List (Addr × Obj)} {s : Shared} {Q E : Value → Shared → Prop}

theorem log_real_c {p : Int} {t9 : Tok} {v : Int × Int} {ps : Array Value} {c1 : Addr} {o1 : Obj} {x1 y1 : Int} {j1 t1 k1 u1 : Tok} {a1 d1 : Addr}
  (B : Below A₀ base outer h₀) (F : Fr h₀ L s.heap m) (X : (hd.heap_1 w.params).In h₀) (N : News h₀ L s.heap ((305, tabObj ps) :: (c1, o1) :: news)) (T : Top topProg loose mean mg mb h₀) (hk : cs.kind = .function)
  (hdp : dp + 24 < recursionLimit) (hun : un + 320 < cLine)
  (Ma1 : (a1, instObj (nat_lit 89) d1) ∈ news) (Md1 : (d1, realO w j1 x1 t1 k1 y1 u1) ∈ news) (hC : CodeHd h₀ 309 305) (ok : TabOk posL qualL ps c1 o1) (hne : ∀ q ∈ news, q.1 ≠ 305) (h0 : 0 ≤ p) (h1 : p < 1000) (hv : logF p x1 y1 = some v)
  (hret : ∀ r d z1 z2 j u1 k u2 ps' c' oc' h' tk', z1 = (v).1 → z2 = (v).2 → TabOk posL qualL ps' c' oc' → Fr h₀ L h' m → News h₀ L h' ((r, instObj (nat_lit 89) d) :: (d, realO w j z1 u1 k z2 u2) :: (305, tabObj ps') :: (c', oc') :: news) → Q (.ref r) { s with heap := h', toks := tk' }) :
  wpAny (model Challenge.rw_nt0168_01.row.prog w) (ktrTop dp un gd cn cs L a ccd cl outer) (call (.ref 310) [.int p t9, .ref a1]) Q E s := by
  have hn : logF p x1 y1 ≠ none := by rw [hv]; exact nofun
  obtain ⟨g1, gb, ⟨rfl, rfl, hv1⟩ | ⟨g2, ⟨f1, f2⟩, hb, hv1⟩⟩ := logF_parts hn
  · have hv2 := Option.some.inj (hv.symm.trans hv1)
    refine wpAny_call ?_
    k_dflt (refine' code_defC ?k1 ?k2 ?k3 ?k4 ?k5 ?kA ?kF ?kK ?k6 ?k7 ?k8 ?k9 ?kB ?kD ?_ ?c2 ?c3 ?c4; (case kA => exact rfl); (case kF => exact rfl); (case kK => assumption); (case k1 => k_asm); (case k2 => k_asm); (case k3 => k_asm); (case k4 => k_asm); (case k5 => k_asm); (case k6 => k_is); (case k7 => k_is); (case k8 => ktr_room); (case k9 => exact BindsTo.of_eq rfl); (case kB => exact rfl); (case kD => decide +kernel); (case c2 => exact rfl); (case c3 => exact rfl); (case c4 => exact rfl); k_whole; intro g' L' h' tk' cells' FG' F' N' Y' B' X' T' l1; (try (replace l1 := allLt_of l1; dsimp only [AllLt] at l1)); k_cells Y'; (try simp only [List.cons_append, List.nil_append] at N'); (try dsimp only); (try k_lift B'); (try k_fold))
    k_steps
    all_goals (refine retTR hret (by assumption) (by k_asm) (by k_mem) (by k_mem) (by assumption) (by k_mem) (by k_mem) (by first | ((repeat (first | exact sub_refl | refine sub_cons ?_)); done) | (intro p hp; first | exact hp | (repeat (first | exact hp | refine List.mem_cons_of_mem _ ?_)))) ?_)
    all_goals ((try law_clear); subst_vars; rfl)
  · have g3 := sgn_pos g1
    rw [hv1] at hv
    obtain ⟨k1, k2⟩ := decF_parts hv
    simp only [p2_eq] at k1 k2
    refine wpAny_call ?_
    k_dflt (refine' code_defC ?k1 ?k2 ?k3 ?k4 ?k5 ?kA ?kF ?kK ?k6 ?k7 ?k8 ?k9 ?kB ?kD ?_ ?c2 ?c3 ?c4; (case kA => exact rfl); (case kF => exact rfl); (case kK => assumption); (case k1 => k_asm); (case k2 => k_asm); (case k3 => k_asm); (case k4 => k_asm); (case k5 => k_asm); (case k6 => k_is); (case k7 => k_is); (case k8 => ktr_room); (case k9 => exact BindsTo.of_eq rfl); (case kB => exact rfl); (case kD => decide +kernel); (case c2 => exact rfl); (case c3 => exact rfl); (case c4 => exact rfl); k_whole; intro g' L' h' tk' cells' FG' F' N' Y' B' X' T' l1; (try (replace l1 := allLt_of l1; dsimp only [AllLt] at l1)); k_cells Y'; (try simp only [List.cons_append, List.nil_append] at N'); (try dsimp only); (try k_lift B'); (try k_fold))
    k_steps
    all_goals (refine retTR hret (by assumption) (by k_asm) (by k_mem) (by k_mem) (Or.inr ⟨rfl, by assumption⟩) (by k_mem) (by k_mem) (by first | ((repeat (first | exact sub_refl | refine sub_cons ?_)); done) | (intro p hp; first | exact hp | (repeat (first | exact hp | refine List.mem_cons_of_mem _ ?_)))) ?_)
    all_goals ((try law_clear); subst_vars; rfl)
end
end
section
open PySem PySem.W PySem.Spec PySem.Calls PyProof.Rows
set_option Elab.async false
set_option maxRecDepth 100000
set_option maxHeartbeats 0
theorem reg_44 : True := by
  k_with_none
  k_with "lt9" => (first | with_reducible assumption | (refine ltc (by with_reducible assumption) ?_; first | exact pj1 | exact pj2 | exact pj3 | exact pj4 | exact pj5 | exact pj6 | exact pj7 | exact pj8 | exact pj9 | exact pj10 | exact pj11 | exact pj12 | exact pj13 | exact pj14 | exact qj1 | exact qj2 | exact qj3 | exact qj4 | exact qj5 | exact qj6 | exact qj7 | exact qj8 | exact qj9 | exact qj10 | exact qj11 | exact qj12 | exact qj13 | exact qj14))
  k_with "ne9" => (first | decide | (refine Nat.ne_of_lt ?_; walk_at "lt9") | (refine Nat.ne_of_gt ?_; walk_at "lt9") | exact Nat.ne_of_lt (Nat.lt_succ_self _) | exact Nat.ne_of_gt (Nat.lt_succ_self _) | (refine ne_up1 ?_; walk_at "lt9") | (refine ne_up2 ?_; walk_at "lt9") | (refine Ne.symm (ne_up1 ?_); walk_at "lt9") | (refine Ne.symm (ne_up2 ?_); walk_at "lt9"))
  trivial
-- Sm facts
theorem reg_45 : True := by
  k_with "eval Constant int" => (refine const_intN ?_)
  k_with "binaryOp Add int int" => (with_reducible refine add_intN ?_)
  k_with "binaryOp Sub int int" => (with_reducible refine sub_intN ?_)
  k_with "binaryOp Mult int int" => (with_reducible refine mul_intN ?_)
  k_with "binaryOp FloorDiv int int" => ((k_here; (with_reducible refine floordiv_intN ?feq305 ?_ (Sm.py ?fpq305)); (case feq305 => first | decide | omega | assumption); (case fpq305 => ktr_rel)))
  k_with "binaryOp LShift int int" => ((k_here; (with_reducible refine lshift_intN ?feq306 ?fpq306 ?_); (case feq306 => omega); (case fpq306 => exact Sm.shl (by ktr_rel) (by omega))))
  k_with "ite" => ((k_here; k_openite; k_spoken; first
  | (refine ite_pos (by ((try simp only [beq_iff_eq, bne_iff_ne, ne_eq, Bool.not_eq_true', beq_eq_false_iff_ne]); (try law_clear); (try subst_vars); first | assumption | exact decide_eq_true rfl | exact Int.not_le.mp (by assumption) | exact Int.not_lt.mp (by assumption) | (law_clear; omega))) ?_; walk_say "PRUNED own")
  | (refine ite_neg (by ((try simp only [beq_iff_eq, bne_iff_ne, ne_eq, Bool.not_eq_true', beq_eq_false_iff_ne]); (try law_clear); (try subst_vars); first | assumption | exact Int.not_le.mpr (by assumption) | exact Int.not_lt.mpr (by assumption) | (law_clear; omega))) ?_; walk_say "PRUNED own")))
  k_with "subscriptTail" => ((k_here; (with_reducible show wpAny _ _ (subscriptTail _ _ (Value.ref _) (Value.int _ _)) _ _ _); k_dflt (refine' item_tupleT ?tq308 ?aq308 ?bq308 ?cq308 ?dq308 ?_; (case tq308 => exact News.isTup (by k_asm) (by k_mem)); (case aq308 => decide); (case bq308 => decide); (case cq308 => rfl); (case dq308 => rfl); k_whole)))
  k_with "subscriptTail Name Constant ref int" => ((k_here; (with_reducible show wpAny _ _ (subscriptTail _ _ (Value.ref _) (Value.int _ _)) _ _ _); k_dflt (refine' item_tupleT ?tq309 ?aq309 ?bq309 ?cq309 ?dq309 ?_; (case tq309 => exact News.isTup (by k_asm) (by k_mem)); (case aq309 => decide); (case bq309 => decide); (case cq309 => rfl); (case dq309 => rfl); k_whole)))
  k_with "callWith ref" => ((k_here; k_dflt (refine' callWith_K ?k1q310 ?k2q310 ?_; (case k1q310 => k_asm); (case k2q310 => k_is); k_whole)))
  k_with "call builtin:divmod" => ((k_here; (with_reducible show wpAny _ _ (call (Value.builtin _) [Value.int _ _, Value.int _ _]) _ _ _); k_dflt (refine' divmod_N ?k1q311 ?k2q311 ?feq311 ?_ (Or.inl (Sm.py ?fpq311)); (case k1q311 => k_asm); (case k2q311 => k_asm); (case feq311 => first | omega | exact Int.ne_of_gt (Int.mul_pos (by omega) (pow2_pos _))); (case fpq311 => ktr_rel)); intro h' F' N'; (try k_sweep)))
  k_with "call builtin:max" => ((k_here; (with_reducible show wpAny _ _ (call (Value.builtin _) [Value.ref _]) _ _ _); k_dflt (first
  | (refine' max_tup ?k0q312 ?k1q312 ?k2q312 ?k3q312 ?_; (case k0q312 => exact rfl); (case k1q312 => k_asm); (case k2q312 => k_asm); (case k3q312 => exact News.isTup (by k_asm) (by k_mem)))
  | (refine' max_list4 ?k0q312 ?k1q312 ?k2q312 ?k3q312 ?_; (case k0q312 => exact rfl); (case k1q312 => k_asm); (case k2q312 => k_asm); (case k3q312 => exact News.isList (by k_asm) (by k_mem)))); k_whole; intro h' r' tk' F' N'; (try k_sweep)))
  k_with "call builtin:min" => ((k_here; (with_reducible show wpAny _ _ (call (Value.builtin _) [Value.ref _]) _ _ _); k_dflt (first
  | (refine' min_tup ?k0q313 ?k1q313 ?k2q313 ?k3q313 ?_; (case k0q313 => exact rfl); (case k1q313 => k_asm); (case k2q313 => k_asm); (case k3q313 => exact News.isTup (by k_asm) (by k_mem)))
  | (refine' min_list4 ?k0q313 ?k1q313 ?k2q313 ?k3q313 ?_; (case k0q313 => exact rfl); (case k1q313 => k_asm); (case k2q313 => k_asm); (case k3q313 => exact News.isList (by k_asm) (by k_mem)))); k_whole; intro h' r' tk' F' N'; (try k_sweep)))
  k_with "newTuple" => ((k_here; k_dflt (refine' newTupL ?Fq314 ?Nq314 ?_ ?zq314; (case Fq314 => k_asm); (case Nq314 => k_asm); (case zq314 => kmk_size)); intro D' h' F' N' l1; (try (replace l1 := allLt_of l1; dsimp only [AllLt] at l1)); (try k_sweep)))
  trivial
theorem allLt_all {d : Nat} : ∀ {l : List (Addr × Obj)}, AllLt d l → ∀ q ∈ l, q.1 < d
  | [], _ => fun _ h => nomatch h
  | _ :: _, h => fun q hq => (List.mem_cons.mp hq).elim (fun e => e ▸ h.1) (allLt_all h.2 q)
theorem retTF {s : Shared} {Q : Value → Shared → Prop} {h₀ h' : Heap} {L : Addr} {m : Str → Option Value} {news : List (Addr × Obj)} {tk' : Nat} {r : Addr} {v : Int × Int} {y1 y2 : Int} {t1 t2 : Tok} {news' : List (Addr × Obj)} (hret : ∀ r z1 z2 u1 u2 h' tk', z1 = v.1 → z2 = v.2 → (∀ q ∈ news, q.1 < r) → Fr h₀ L h' m → News h₀ L h' ((r, tupO z1 u1 z2 u2) :: news) → Q (.ref r) { s with heap := h', toks := tk' })
    (F : Fr h₀ L h' m) (N : News h₀ L h' news') (hm : (r, tupO y1 t1 y2 t2) ∈ news') (hl : ∀ q ∈ news, q.1 < r) (hs : ∀ p ∈ news, p ∈ news') (e : (y1, y2) = v) : Q (.ref r) { s with heap := h', toks := tk' } :=
  hret _ _ _ _ _ _ _ (congrArg Prod.fst e) (congrArg Prod.snd e) hl F fun p hp => N p ((List.mem_cons.mp hp).elim (fun q => q ▸ hm) (hs p))
theorem mid_eq {a b : Int × Int} {z1 z2 z3 z4 : Int} (h1 : z1 = a.1) (h2 : z2 = a.2) (h3 : z3 = b.1) (h4 : z4 = b.2) : ((z1, z2), (z3, z4)) = (a, b) := by subst h1 h2 h3 h4; rfl
theorem retM {s : Shared} {Q : Value → Shared → Prop} {h₀ h' : Heap} {L : Addr} {m : Str → Option Value} {news : List (Addr × Obj)} {tk' : Nat} {r r1 r2 : Addr} {v : (Int × Int) × (Int × Int)} {y1 y2 y3 y4 : Int} {t1 t2 t3 t4 : Tok} {news' : List (Addr × Obj)}
    (hret : ∀ r r1 r2 z1 z2 z3 z4 u1 u2 u3 u4 h' tk', z1 = v.1.1 → z2 = v.1.2 → z3 = v.2.1 → z4 = v.2.2 → Fr h₀ L h' m → News h₀ L h' ((r, LCg.lst [.ref r1, .ref r2]) :: (r1, tupO z1 u1 z2 u2) :: (r2, tupO z3 u3 z4 u4) :: news) → Q (.ref r) { s with heap := h', toks := tk' })
    (F : Fr h₀ L h' m) (N : News h₀ L h' news') (hm : (r, LCg.lst [.ref r1, .ref r2]) ∈ news') (hm1 : (r1, tupO y1 t1 y2 t2) ∈ news') (hm2 : (r2, tupO y3 t3 y4 t4) ∈ news') (hs : ∀ p ∈ news, p ∈ news')
    (e : ((y1, y2), (y3, y4)) = v) : Q (.ref r) { s with heap := h', toks := tk' } := by
  refine hret r r1 r2 y1 y2 y3 y4 t1 t2 t3 t4 h' tk' (congrArg (·.1.1) e) (congrArg (·.1.2) e) (congrArg (·.2.1) e) (congrArg (·.2.2) e) F fun p hp => N p ?_
  rcases List.mem_cons.mp hp with rfl | hp
  · exact hm
  · rcases List.mem_cons.mp hp with rfl | hp
    · exact hm1
    · rcases List.mem_cons.mp hp with rfl | hp
      · exact hm2
      · exact hs p hp
section
variable {h₀ h' : Heap} {L I C D r : Addr} {m : Str → Option Value} {s₁ : Shared} {o oI oC oD : Obj} {S : List (Addr × Obj) → Prop} {rest : Value → List (Addr × Obj) → Prop} {y : Value} {tk : Nat} {led : List (Addr × Obj)}
theorem compEnd_0 (F : Fr h₀ L h' m) (N : News h₀ L h' ((I, oI) :: (C, oC) :: (D, oD) :: led)) (off : LCg.Off3 I C D led) (hS : S led) (k : rest y led) :
    LCg.CompEnd h₀ L m s₁ I oI C oC D oD S rest y { s₁ with heap := h', toks := tk } := LCg.CompEnd.intro F N led (fun _ h => h) off hS k
theorem compEnd_1 (F : Fr h₀ L h' m) (N : News h₀ L h' ((r, o) :: (I, oI) :: (C, oC) :: (D, oD) :: led)) (off : LCg.Off3 I C D led) (hr : @LT.lt Nat _ I r ∧ @LT.lt Nat _ C r ∧ @LT.lt Nat _ D r) (hS : S ((r, o) :: led)) (k : rest y ((r, o) :: led)) :
    LCg.CompEnd h₀ L m s₁ I oI C oC D oD S rest y { s₁ with heap := h', toks := tk } := by
  refine LCg.CompEnd.intro F N ((r, o) :: led) (fun p hp => ?_) ⟨⟨Nat.ne_of_gt hr.1, Nat.ne_of_gt hr.2.1, Nat.ne_of_gt hr.2.2⟩, off⟩ hS k
  simp only [List.mem_cons] at hp ⊢
  rcases hp with e | e | e | e | e
  · exact .inr (.inl e)
  · exact .inr (.inr (.inl e))
  · exact .inr (.inr (.inr (.inl e)))
  · exact .inl e
  · exact .inr (.inr (.inr (.inr e)))
end
section
variable {w : World} {loose : List Str} {mean : ExcName → Option Value} {mg mb : Str → Option Value}
  {dp un : Nat} {gd : Option (List Code)} {cn : Str} {cs : Scope} {a : Addr} {ccd : Value} {cl : List (Str × Addr)} {outer : List Env} {A₀ : Around} {base h₀ : Heap} {L : Addr} {m : Str → Option Value} {news : List (Addr × Obj)} {s : Shared} {Q E : Value → Shared → Prop}

theorem law_odd_c {x y : Int} {t1 t2 : Tok} {v : Int × Int}
  (B : Below A₀ base outer h₀) (F : Fr h₀ L s.heap m) (X : (hd.heap_1 w.params).In h₀) (N : News h₀ L s.heap (news)) (T : Top topProg loose mean mg mb h₀) (hk : cs.kind = .function)
  (hdp : dp + 6 < recursionLimit) (hun : un + 80 < cLine)
   (hv : lawOdd 10 x y = some v)
  (hret : ∀ r z1 z2 u1 u2 h' tk', z1 = (v).1 → z2 = (v).2 → Fr h₀ L h' m → News h₀ L h' ((r, tupO z1 u1 z2 u2) :: news) → Q (.ref r) { s with heap := h', toks := tk' }) :
  wpAny (model Challenge.rw_nt0168_01.row.prog w) (ktrTop dp un gd cn cs L a ccd cl outer) (call (.ref 317) [.int x t1, .int y t2]) Q E s := by
  have hx0 := lawOdd_ne hv
  obtain ⟨N6, hv⟩ : ∃ N, lawOdd N x y = some v := ⟨10, hv⟩
  k_with "exec While Compare cons nil" => (subst_vars; (rename Fr _ _ _ _ => lF'); (rename News _ _ _ _ => lN'); (with_unfolding_all refine' ksw_while (σ := LS) (fun c => news) (fun c => [(Str.ofString "mantissa", .int c.p c.a), (Str.ofString "exponent", .int c.t c.b)]) (fun _ => True) [] (fun c => lawOdd c.n c.p c.t = some v) (fun c => c.n) ⟨N6, _, _, _, _⟩ lF' ?kn ?kf ?kk ?kp ?_); (case kk => kst_all); (case kn => (exact kst_newsOf lN' (by (try dsimp only); ((repeat (first | exact sub_refl | refine sub_cons ?_)); done)))); (case kf => trivial); (case kp => ((try dsimp only); exact hv)); (clear lF' lN'); intro c u h tk hf hP F' N'; obtain ⟨n, p, t, ta, tb⟩ := c; dsimp only at hf hP F' N'; clear hf; rcases n with _ | n; (· (simp [lawOdd] at hP)); by_cases hg : p.fmod 2 = 0; replace hP := lawOdd_step hg hP; all_goals ((try dsimp only); (try k_fold)))
  refine wpAny_call ?_
  k_dflt ktr_enter
  k_steps
  · ((try dsimp only); (rename News _ _ _ _ => nE'); (rename Fr _ _ _ _ => fE'); refine' ksw_end ⟨n, _, _, _, _⟩ fE' nE' ?kn ?kf ?kk ?kr ?kp (Nat.lt_succ_self _); (case kk => kst_all); (case kn => ((try dsimp only); ((repeat (first | exact sub_refl | refine sub_cons ?_)); done))); (case kf => trivial); (case kr => (intro z h2 h3; simp only [List.forall_mem_cons, List.not_mem_nil, false_implies, implies_true, and_true, ne_eq] at h2; simp [kstB, h2])); (case kp => ((try dsimp only); exact hP)))

  all_goals (refine retT hret (by assumption) (by k_asm) (by k_mem) (by first | ((repeat (first | exact sub_refl | refine sub_cons ?_)); done) | (intro p hp; first | exact hp | (repeat (first | exact hp | refine List.mem_cons_of_mem _ ?_)))) ?_)
  all_goals exact Option.some.inj ((lawOdd_stop hg).symm.trans hP)
theorem reg_46 : True := by
  k_with "call ref" => ((k_here; (with_reducible show wpAny _ _ (call (Value.ref 317) _ _) _ _ _); k_dflt (refine' law_odd_c ?k1q315 ?k2q315 ?k3q315 ?k4q315 ?k5q315 ?kKq315 ?kdq315 ?kuq315  ?p0q315 ?_; (case k1q315 => k_asm); (case k2q315 => k_asm); (case k3q315 => k_asm); (case k4q315 => k_asm); (case k5q315 => k_asm); (case kKq315 => first | exact rfl | assumption); (case kdq315 => ktr_room); (case kuq315 => ktr_units); (case p0q315 => first | with_reducible assumption | k_dflt (have hq := (‹lawOdd _ _ _ = some _›); refine Eq.trans ?_ hq; law_clear; subst_vars; exact rfl) | kwd_less); k_whole); intro r9 z9 y9 t9 u9 h9 tk9 e9 f9 F9 N9; (try k_sweep); (try dsimp only); (try k_fold); skip))
  trivial
theorem law_fractionF_c {x y : Int} {t1 t2 : Tok}
  (B : Below A₀ base outer h₀) (F : Fr h₀ L s.heap m) (X : (hd.heap_1 w.params).In h₀) (N : News h₀ L s.heap (news)) (T : Top topProg loose mean mg mb h₀) (hk : cs.kind = .function)
  (hdp : dp + 6 < recursionLimit) (hun : un + 80 < cLine)
   (h1 : Sm x) (h2 : -1000 ≤ y) (h3 : y ≤ 1000)
  (hret : ∀ r z1 z2 u1 u2 h' tk', z1 = (lawFr x y).1 → z2 = (lawFr x y).2 → (∀ q ∈ news, q.1 < r) → Fr h₀ L h' m → News h₀ L h' ((r, tupO z1 u1 z2 u2) :: news) → Q (.ref r) { s with heap := h', toks := tk' }) :
  wpAny (model Challenge.rw_nt0168_01.row.prog w) (ktrTop dp un gd cn cs L a ccd cl outer) (call (.ref 331) [.int x t1, .int y t2]) Q E s := by
  by_cases hy : y ≥ 0
  · refine wpAny_call ?_
    k_dflt ktr_enter
    k_steps
    all_goals (refine retTF hret (by assumption) (by k_asm) (by k_mem) (by first | assumption | exact allLt_all (by assumption) | exact allLt_all (And.right (by assumption))) (by first | ((repeat (first | exact sub_refl | refine sub_cons ?_)); done) | (intro p hp; first | exact hp | (repeat (first | exact hp | refine List.mem_cons_of_mem _ ?_)))) ?_)
    all_goals (unfold lawFr; rw [if_pos hy, p2_eq])
  · refine wpAny_call ?_
    k_dflt ktr_enter
    k_steps
    all_goals (refine retTF hret (by assumption) (by k_asm) (by k_mem) (by first | assumption | exact allLt_all (by assumption) | exact allLt_all (And.right (by assumption))) (by first | ((repeat (first | exact sub_refl | refine sub_cons ?_)); done) | (intro p hp; first | exact hp | (repeat (first | exact hp | refine List.mem_cons_of_mem _ ?_)))) ?_)
    all_goals (unfold lawFr; rw [if_neg hy, p2_eq])
theorem reg_47 : True := by
  k_with "call ref" => ((k_here; (with_reducible show wpAny _ _ (call (Value.ref 331) _ _) _ _ _); k_dflt (refine' law_fractionF_c ?k1q316 ?k2q316 ?k3q316 ?k4q316 ?k5q316 ?kKq316 ?kdq316 ?kuq316  ?p0q316 ?p1q316 ?p2q316 ?_; (case k1q316 => k_asm); (case k2q316 => k_asm); (case k3q316 => k_asm); (case k4q316 => k_asm); (case k5q316 => k_asm); (case kKq316 => first | exact rfl | assumption); (case kdq316 => ktr_room); (case kuq316 => ktr_units); (case p0q316 => ktr_rel); (case p1q316 => first | with_reducible assumption | omega); (case p2q316 => first | with_reducible assumption | omega); k_whole); intro r9 z9 y9 t9 u9 h9 tk9 e9 f9 l9 F9 N9; (try (replace l9 := allLt_of l9; dsimp only [AllLt] at l9)); (try k_sweep); (try dsimp only); (try k_fold); skip))
  trivial
theorem law_fraction_c {x y : Int} {t1 t2 : Tok}
  (B : Below A₀ base outer h₀) (F : Fr h₀ L s.heap m) (X : (hd.heap_1 w.params).In h₀) (N : News h₀ L s.heap (news)) (T : Top topProg loose mean mg mb h₀) (hk : cs.kind = .function)
  (hdp : dp + 6 < recursionLimit) (hun : un + 80 < cLine)
   (h1 : Sm x) (h2 : -1000 ≤ y) (h3 : y ≤ 1000)
  (hret : ∀ r z1 z2 u1 u2 h' tk', z1 = (lawFr x y).1 → z2 = (lawFr x y).2 → Fr h₀ L h' m → News h₀ L h' ((r, tupO z1 u1 z2 u2) :: news) → Q (.ref r) { s with heap := h', toks := tk' }) :
  wpAny (model Challenge.rw_nt0168_01.row.prog w) (ktrTop dp un gd cn cs L a ccd cl outer) (call (.ref 331) [.int x t1, .int y t2]) Q E s := by
  exact law_fractionF_c B F X N T hk hdp hun h1 h2 h3 fun r z1 z2 u1 u2 h' tk' e f _ F' N' => hret r z1 z2 u1 u2 h' tk' e f F' N'
theorem reg_48 : True := by
  k_with "call ref" => ((k_here; (with_reducible show wpAny _ _ (call (Value.ref 331) _ _) _ _ _); k_dflt (refine' law_fraction_c ?k1q317 ?k2q317 ?k3q317 ?k4q317 ?k5q317 ?kKq317 ?kdq317 ?kuq317  ?p0q317 ?p1q317 ?p2q317 ?_; (case k1q317 => k_asm); (case k2q317 => k_asm); (case k3q317 => k_asm); (case k4q317 => k_asm); (case k5q317 => k_asm); (case kKq317 => first | exact rfl | assumption); (case kdq317 => ktr_room); (case kuq317 => ktr_units); (case p0q317 => ktr_rel); (case p1q317 => first | with_reducible assumption | omega); (case p2q317 => first | with_reducible assumption | omega); k_whole); intro r9 z9 y9 t9 u9 h9 tk9 e9 f9 F9 N9; (try k_sweep); (try dsimp only); (try k_fold); skip))
  trivial
theorem law_pair_c {p x : Int} {t1 t2 : Tok} {v : Int × Int}
  (B : Below A₀ base outer h₀) (F : Fr h₀ L s.heap m) (X : (hd.heap_1 w.params).In h₀) (N : News h₀ L s.heap (news)) (T : Top topProg loose mean mg mb h₀) (hk : cs.kind = .function)
  (hdp : dp + 12 < recursionLimit) (hun : un + 160 < cLine)
   (h0 : 0 ≤ p) (h1 : p < 100) (hv : lawPair p x = some v)
  (hret : ∀ r z1 z2 u1 u2 h' tk', z1 = (v).1 → z2 = (v).2 → Fr h₀ L h' m → News h₀ L h' ((r, tupO z1 u1 z2 u2) :: news) → Q (.ref r) { s with heap := h', toks := tk' }) :
  wpAny (model Challenge.rw_nt0168_01.row.prog w) (ktrTop dp un gd cn cs L a ccd cl outer) (call (.ref 324) [.int p t1, .int x t2]) Q E s := by
  rcases lawPair_parts hv with ⟨g1, g2⟩ | ⟨g1, g2⟩
  all_goals simp only [p2_eq] at g1 g2
  · refine wpAny_call ?_
    k_dflt ktr_enter
    k_steps
    all_goals (refine retT hret (by assumption) (by k_asm) (by k_mem) (by first | ((repeat (first | exact sub_refl | refine sub_cons ?_)); done) | (intro p hp; first | exact hp | (repeat (first | exact hp | refine List.mem_cons_of_mem _ ?_)))) ?_)
    all_goals ((try law_clear); subst_vars; rfl)
  · refine wpAny_call ?_
    k_dflt ktr_enter
    k_steps
    all_goals (refine retT hret (by assumption) (by k_asm) (by k_mem) (by first | ((repeat (first | exact sub_refl | refine sub_cons ?_)); done) | (intro p hp; first | exact hp | (repeat (first | exact hp | refine List.mem_cons_of_mem _ ?_)))) ?_)
    all_goals ((try law_clear); subst_vars; rfl)
theorem reg_49 : True := by
  k_with "call ref" => ((k_here; (with_reducible show wpAny _ _ (call (Value.ref 324) _ _) _ _ _); k_dflt (refine' law_pair_c ?k1q318 ?k2q318 ?k3q318 ?k4q318 ?k5q318 ?kKq318 ?kdq318 ?kuq318  ?p0q318 ?p1q318 ?p2q318 ?_; (case k1q318 => k_asm); (case k2q318 => k_asm); (case k3q318 => k_asm); (case k4q318 => k_asm); (case k5q318 => k_asm); (case kKq318 => first | exact rfl | assumption); (case kdq318 => ktr_room); (case kuq318 => ktr_units); (case p0q318 => first | with_reducible assumption | omega); (case p1q318 => first | with_reducible assumption | omega); (case p2q318 => first | with_reducible assumption | k_dflt (have hq := (‹lawPair _ _ = some _›); refine Eq.trans ?_ hq; law_clear; subst_vars; exact rfl) | kwd_less); k_whole); intro r9 z9 y9 t9 u9 h9 tk9 e9 f9 F9 N9; (try k_sweep); (try dsimp only); (try k_fold); skip))
  trivial
end
end
section
open PySem PySem.W PySem.Spec PySem.Calls PyProof.Rows
set_option Elab.async false
set_option maxRecDepth 100000
set_option maxHeartbeats 0
theorem reg_50 : True := by
  k_with_none
  k_with "lt9" => (first | with_reducible assumption | (refine ltc (by with_reducible assumption) ?_; first | exact pj1 | exact pj2 | exact pj3 | exact pj4 | exact pj5 | exact pj6 | exact pj7 | exact pj8 | exact pj9 | exact pj10 | exact pj11 | exact pj12 | exact pj13 | exact pj14 | exact qj1 | exact qj2 | exact qj3 | exact qj4 | exact qj5 | exact qj6 | exact qj7 | exact qj8 | exact qj9 | exact qj10 | exact qj11 | exact qj12 | exact qj13 | exact qj14))
  k_with "ne9" => (first | decide | (refine Nat.ne_of_lt ?_; walk_at "lt9") | (refine Nat.ne_of_gt ?_; walk_at "lt9") | exact Nat.ne_of_lt (Nat.lt_succ_self _) | exact Nat.ne_of_gt (Nat.lt_succ_self _) | (refine ne_up1 ?_; walk_at "lt9") | (refine ne_up2 ?_; walk_at "lt9") | (refine Ne.symm (ne_up1 ?_); walk_at "lt9") | (refine Ne.symm (ne_up2 ?_); walk_at "lt9"))
  trivial
-- Sm facts
theorem reg_51 : True := by
  k_with "eval Constant int" => (refine const_intN ?_)
  k_with "binaryOp Add int int" => (with_reducible refine add_intN ?_)
  k_with "binaryOp Sub int int" => (with_reducible refine sub_intN ?_)
  k_with "binaryOp Mult int int" => (with_reducible refine mul_intN ?_)
  k_with "binaryOp FloorDiv int int" => ((k_here; (with_reducible refine floordiv_intN ?feq325 ?_ (Sm.py ?fpq325)); (case feq325 => first | decide | omega | assumption); (case fpq325 => ktr_rel)))
  k_with "binaryOp LShift int int" => ((k_here; (with_reducible refine lshift_intN ?feq326 ?fpq326 ?_); (case feq326 => omega); (case fpq326 => exact Sm.shl (by ktr_rel) (by omega))))
  k_with "ite" => ((k_here; k_openite; k_spoken; first
  | (refine ite_pos (by ((try simp only [beq_iff_eq, bne_iff_ne, ne_eq, Bool.not_eq_true', beq_eq_false_iff_ne]); (try law_clear); (try subst_vars); first | assumption | exact decide_eq_true rfl | exact Int.not_le.mp (by assumption) | exact Int.not_lt.mp (by assumption) | (law_clear; omega))) ?_; walk_say "PRUNED own")
  | (refine ite_neg (by ((try simp only [beq_iff_eq, bne_iff_ne, ne_eq, Bool.not_eq_true', beq_eq_false_iff_ne]); (try law_clear); (try subst_vars); first | assumption | exact Int.not_le.mpr (by assumption) | exact Int.not_lt.mpr (by assumption) | (law_clear; omega))) ?_; walk_say "PRUNED own")))
  k_with "subscriptTail" => ((k_here; (with_reducible show wpAny _ _ (subscriptTail _ _ (Value.ref _) (Value.int _ _)) _ _ _); k_dflt (refine' item_tupleT ?tq328 ?aq328 ?bq328 ?cq328 ?dq328 ?_; (case tq328 => exact News.isTup (by k_asm) (by k_mem)); (case aq328 => decide); (case bq328 => decide); (case cq328 => rfl); (case dq328 => rfl); k_whole)))
  k_with "subscriptTail Name Constant ref int" => ((k_here; (with_reducible show wpAny _ _ (subscriptTail _ _ (Value.ref _) (Value.int _ _)) _ _ _); k_dflt (refine' item_tupleT ?tq329 ?aq329 ?bq329 ?cq329 ?dq329 ?_; (case tq329 => exact News.isTup (by k_asm) (by k_mem)); (case aq329 => decide); (case bq329 => decide); (case cq329 => rfl); (case dq329 => rfl); k_whole)))
  k_with "callWith ref" => ((k_here; k_dflt (refine' callWith_K ?k1q330 ?k2q330 ?_; (case k1q330 => k_asm); (case k2q330 => k_is); k_whole)))
  k_with "call builtin:divmod" => ((k_here; (with_reducible show wpAny _ _ (call (Value.builtin _) [Value.int _ _, Value.int _ _]) _ _ _); k_dflt (refine' divmod_N ?k1q331 ?k2q331 ?feq331 ?_ (Or.inl (Sm.py ?fpq331)); (case k1q331 => k_asm); (case k2q331 => k_asm); (case feq331 => first | omega | exact Int.ne_of_gt (Int.mul_pos (by omega) (pow2_pos _))); (case fpq331 => ktr_rel)); intro h' F' N'; (try k_sweep)))
  k_with "call builtin:max" => ((k_here; (with_reducible show wpAny _ _ (call (Value.builtin _) [Value.ref _]) _ _ _); k_dflt (first
  | (refine' max_tup ?k0q332 ?k1q332 ?k2q332 ?k3q332 ?_; (case k0q332 => exact rfl); (case k1q332 => k_asm); (case k2q332 => k_asm); (case k3q332 => exact News.isTup (by k_asm) (by k_mem)))
  | (refine' max_list4 ?k0q332 ?k1q332 ?k2q332 ?k3q332 ?_; (case k0q332 => exact rfl); (case k1q332 => k_asm); (case k2q332 => k_asm); (case k3q332 => exact News.isList (by k_asm) (by k_mem)))); k_whole; intro h' r' tk' F' N'; (try k_sweep)))
  k_with "call builtin:min" => ((k_here; (with_reducible show wpAny _ _ (call (Value.builtin _) [Value.ref _]) _ _ _); k_dflt (first
  | (refine' min_tup ?k0q333 ?k1q333 ?k2q333 ?k3q333 ?_; (case k0q333 => exact rfl); (case k1q333 => k_asm); (case k2q333 => k_asm); (case k3q333 => exact News.isTup (by k_asm) (by k_mem)))
  | (refine' min_list4 ?k0q333 ?k1q333 ?k2q333 ?k3q333 ?_; (case k0q333 => exact rfl); (case k1q333 => k_asm); (case k2q333 => k_asm); (case k3q333 => exact News.isList (by k_asm) (by k_mem)))); k_whole; intro h' r' tk' F' N'; (try k_sweep)))
  k_with "newTuple" => ((k_here; k_dflt (refine' newTupN ?Fq334 ?Nq334 ?_ ?zq334; (case Fq334 => k_asm); (case Nq334 => k_asm); (case zq334 => kmk_size)); intro D' h' F' N'; (try k_sweep)))
  trivial
section
variable {w : World} {loose : List Str} {mean : ExcName → Option Value} {mg mb : Str → Option Value}
  {dp un : Nat} {gd : Option (List Code)} {cn : Str} {cs : Scope} {a : Addr} {ccd : Value} {cl : List (Str × Addr)} {outer : List Env} {A₀ : Around} {base h₀ : Heap} {L : Addr} {m : Str → Option Value} {news : List (Addr × Obj)} {s : Shared} {Q E : Value → Shared → Prop}

theorem law_power_side_c {x b y z v : Int} {t1 t2 t3 t4 : Tok}
  (B : Below A₀ base outer h₀) (F : Fr h₀ L s.heap m) (X : (hd.heap_1 w.params).In h₀) (N : News h₀ L s.heap (news)) (T : Top topProg loose mean mg mb h₀) (hk : cs.kind = .function)
  (hdp : dp + 6 < recursionLimit) (hun : un + 80 < cLine)
   (hv : powF x b y z = some v)
  (hret : ∀ z t h' tk', z = v → Fr h₀ L h' m → News h₀ L h' news → Q (.int z t) { s with heap := h', toks := tk' }) :
  wpAny (model Challenge.rw_nt0168_01.row.prog w) (ktrTop dp un gd cn cs L a ccd cl outer) (call (.ref 343) [.int x t1, .int b t2, .int y t3, .int z t4]) Q E s := by
  obtain ⟨s1, s2, s3, s4, N6, hv⟩ := powF_parts hv
  k_with "exec While Constant cons nil" => (subst_vars; (rename Fr _ _ _ _ => lF'); (rename News _ _ _ _ => lN'); (with_unfolding_all refine' ksw_while (σ := PS) (fun c => news) (fun c => [(Str.ofString "term", .int c.te c.a), (Str.ofString "total", .int c.to c.b), (Str.ofString "under", .int c.un c.c), (Str.ofString "count", .int c.co c.d)]) (fun _ => True) [] (fun c => powL c.n x b y z c.te c.to c.un c.co = some v) (fun c => c.n) ⟨N6, _, _, _, _, _, _, _, _⟩ lF' ?kn ?kf ?kk ?kp ?_); (case kk => kst_all); (case kn => (exact kst_newsOf lN' (by (try dsimp only); ((repeat (first | exact sub_refl | refine sub_cons ?_)); done)))); (case kf => trivial); (case kp => ((try dsimp only); exact hv)); (clear lF' lN'); intro c u h tk hf hP F' N'; obtain ⟨n, te, to, un, co, ta, tb, tc, td⟩ := c; dsimp only at hf hP F' N'; clear hf; rcases n with _ | n; (· (simp [powL] at hP)); obtain ⟨q1, q2, q3, q4, q5, q6, q7, q8, q9, ⟨q10, q11⟩ | ⟨q10, ⟨⟨q12, q13⟩, q11⟩ | ⟨q12, hP⟩⟩⟩ := powL_step hP; all_goals ((try dsimp only); (try k_fold)))
  refine wpAny_call ?_
  k_dflt ktr_enter
  k_steps
  · refine retI hret (by assumption) (by k_asm) (by first | ((repeat (first | exact sub_refl | refine sub_cons ?_)); done) | (intro p hp; first | exact hp | (repeat (first | exact hp | refine List.mem_cons_of_mem _ ?_)))) ?_
    exact q11.symm
  · refine retI hret (by assumption) (by k_asm) (by first | ((repeat (first | exact sub_refl | refine sub_cons ?_)); done) | (intro p hp; first | exact hp | (repeat (first | exact hp | refine List.mem_cons_of_mem _ ?_)))) ?_
    exact q11.symm
  · ((try dsimp only); (rename News _ _ _ _ => nE'); (rename Fr _ _ _ _ => fE'); refine' ksw_end ⟨n, _, _, _, _, _, _, _, _⟩ fE' nE' ?kn ?kf ?kk ?kr ?kp (Nat.lt_succ_self _); (case kk => kst_all); (case kn => ((try dsimp only); ((repeat (first | exact sub_refl | refine sub_cons ?_)); done))); (case kf => trivial); (case kr => (intro z h2 h3; simp only [List.forall_mem_cons, List.not_mem_nil, false_implies, implies_true, and_true, ne_eq] at h2; simp [kstB, h2])); (case kp => ((try dsimp only); exact hP)))
  · ((try dsimp only); (rename News _ _ _ _ => nE'); (rename Fr _ _ _ _ => fE'); refine' ksw_end ⟨n, _, _, _, _, _, _, _, _⟩ fE' nE' ?kn ?kf ?kk ?kr ?kp (Nat.lt_succ_self _); (case kk => kst_all); (case kn => ((try dsimp only); ((repeat (first | exact sub_refl | refine sub_cons ?_)); done))); (case kf => trivial); (case kr => (intro z h2 h3; simp only [List.forall_mem_cons, List.not_mem_nil, false_implies, implies_true, and_true, ne_eq] at h2; simp [kstB, h2])); (case kp => ((try dsimp only); exact hP)))

theorem reg_52 : True := by
  k_with "call ref" => ((k_here; (with_reducible show wpAny _ _ (call (Value.ref 343) _ _) _ _ _); k_dflt (refine' law_power_side_c ?k1q335 ?k2q335 ?k3q335 ?k4q335 ?k5q335 ?kKq335 ?kdq335 ?kuq335  ?p0q335 ?_; (case k1q335 => k_asm); (case k2q335 => k_asm); (case k3q335 => k_asm); (case k4q335 => k_asm); (case k5q335 => k_asm); (case kKq335 => first | exact rfl | assumption); (case kdq335 => ktr_room); (case kuq335 => ktr_units); (case p0q335 => first | with_reducible assumption | k_dflt (have hq := (‹powF _ _ _ _ = some _›); refine Eq.trans ?_ hq; law_clear; subst_vars; exact rfl) | kwd_less); k_whole); intro z9 t9 h9 tk9 e9 F9 N9; (try k_sweep); (try dsimp only); (try k_fold); skip))
  trivial
theorem law_side_c {x1 y1 x2 y2 v : Int} {t1 u1 t2 u2 : Tok} {a1 a2 : Addr}
  (B : Below A₀ base outer h₀) (F : Fr h₀ L s.heap m) (X : (hd.heap_1 w.params).In h₀) (N : News h₀ L s.heap (news)) (T : Top topProg loose mean mg mb h₀) (hk : cs.kind = .function)
  (hdp : dp + 9 < recursionLimit) (hun : un + 120 < cLine)
  (Ma1 : (a1, tupO x1 t1 y1 u1) ∈ news) (Ma2 : (a2, tupO x2 t2 y2 u2) ∈ news) (hv : sideF (x1, y1) (x2, y2) = some v)
  (hret : ∀ z t h' tk', z = v → Fr h₀ L h' m → News h₀ L h' news → Q (.int z t) { s with heap := h', toks := tk' }) :
  wpAny (model Challenge.rw_nt0168_01.row.prog w) (ktrTop dp un gd cn cs L a ccd cl outer) (call (.ref 350) [.ref a1, .ref a2]) Q E s := by
  rcases sideF_parts hv with ⟨g1, g2⟩ | ⟨g1, ⟨g2, g3⟩ | ⟨g2, u, g3, g4⟩⟩
  all_goals dsimp only at g1 g2
  · refine wpAny_call ?_
    k_dflt ktr_enter
    k_steps
    all_goals (refine retI hret (by assumption) (by k_asm) (by first | ((repeat (first | exact sub_refl | refine sub_cons ?_)); done) | (intro p hp; first | exact hp | (repeat (first | exact hp | refine List.mem_cons_of_mem _ ?_)))) ?_)
    all_goals ((try law_clear); subst_vars; rfl)
  · dsimp only at g3
    refine wpAny_call ?_
    k_dflt ktr_enter
    k_steps
    all_goals (refine retI hret (by assumption) (by k_asm) (by first | ((repeat (first | exact sub_refl | refine sub_cons ?_)); done) | (intro p hp; first | exact hp | (repeat (first | exact hp | refine List.mem_cons_of_mem _ ?_)))) ?_)
    all_goals ((try law_clear); subst_vars; rfl)
  · dsimp only at g3
    refine wpAny_call ?_
    k_dflt ktr_enter
    k_steps
    all_goals (refine retI hret (by assumption) (by k_asm) (by first | ((repeat (first | exact sub_refl | refine sub_cons ?_)); done) | (intro p hp; first | exact hp | (repeat (first | exact hp | refine List.mem_cons_of_mem _ ?_)))) ?_)
    all_goals ((try law_clear); subst_vars; rfl)
theorem reg_53 : True := by
  k_with "call ref" => ((k_here; (with_reducible show wpAny _ _ (call (Value.ref 350) _ _) _ _ _); k_dflt (refine' law_side_c ?k1q336 ?k2q336 ?k3q336 ?k4q336 ?k5q336 ?kKq336 ?kdq336 ?kuq336 ?m0q336 ?m1q336 ?p0q336 ?_; (case k1q336 => k_asm); (case k2q336 => k_asm); (case k3q336 => k_asm); (case k4q336 => k_asm); (case k5q336 => k_asm); (case kKq336 => first | exact rfl | assumption); (case kdq336 => ktr_room); (case kuq336 => ktr_units); (case m0q336 => k_mem); (case m1q336 => k_mem); (case p0q336 => first | with_reducible assumption | k_dflt (have hq := (‹sideF _ _ = some 1›); refine Eq.trans ?_ hq; law_clear; subst_vars; with_reducible rfl) | k_dflt (have hq := (‹sideF _ _ = some (-1)›); refine Eq.trans ?_ hq; law_clear; subst_vars; with_reducible rfl) | kwd_less); k_whole); intro z9 t9 h9 tk9 e9 F9 N9; (try k_sweep); (try dsimp only); (try k_fold); skip))
  trivial
end
end
section
open PySem PySem.W PySem.Spec PySem.Calls PyProof.Rows
set_option Elab.async false
set_option maxRecDepth 100000
set_option maxHeartbeats 0
theorem reg_54 : True := by
  k_with_none
  k_with "lt9" => (first | with_reducible assumption | (refine ltc (by with_reducible assumption) ?_; first | exact pj1 | exact pj2 | exact pj3 | exact pj4 | exact pj5 | exact pj6 | exact pj7 | exact pj8 | exact pj9 | exact pj10 | exact pj11 | exact pj12 | exact pj13 | exact pj14 | exact qj1 | exact qj2 | exact qj3 | exact qj4 | exact qj5 | exact qj6 | exact qj7 | exact qj8 | exact qj9 | exact qj10 | exact qj11 | exact qj12 | exact qj13 | exact qj14))
  k_with "ne9" => (first | decide | (refine Nat.ne_of_lt ?_; walk_at "lt9") | (refine Nat.ne_of_gt ?_; walk_at "lt9") | exact Nat.ne_of_lt (Nat.lt_succ_self _) | exact Nat.ne_of_gt (Nat.lt_succ_self _) | (refine ne_up1 ?_; walk_at "lt9") | (refine ne_up2 ?_; walk_at "lt9") | (refine Ne.symm (ne_up1 ?_); walk_at "lt9") | (refine Ne.symm (ne_up2 ?_); walk_at "lt9"))
  trivial
-- Sm facts
theorem reg_55 : True := by
  k_with "eval Constant int" => (refine const_intN ?_)
  k_with "binaryOp Add int int" => (with_reducible refine add_intN ?_)
  k_with "binaryOp Sub int int" => (with_reducible refine sub_intN ?_)
  k_with "binaryOp Mult int int" => (with_reducible refine mul_intN ?_)
  k_with "binaryOp FloorDiv int int" => ((k_here; (with_reducible refine floordiv_intN ?feq343 ?_ (Sm.py ?fpq343)); (case feq343 => first | decide | omega | assumption); (case fpq343 => ktr_rel)))
  k_with "binaryOp LShift int int" => ((k_here; (with_reducible refine lshift_intN ?feq344 ?fpq344 ?_); (case feq344 => omega); (case fpq344 => exact Sm.shl (by ktr_rel) (by omega))))
  k_with "ite" => ((k_here; k_openite; k_spoken; first
  | (refine ite_pos (by ((try simp only [beq_iff_eq, bne_iff_ne, ne_eq, Bool.not_eq_true', beq_eq_false_iff_ne]); (try law_clear); (try subst_vars); first | assumption | exact decide_eq_true rfl | exact Int.not_le.mp (by assumption) | exact Int.not_lt.mp (by assumption) | (law_clear; omega))) ?_; walk_say "PRUNED own")
  | (refine ite_neg (by ((try simp only [beq_iff_eq, bne_iff_ne, ne_eq, Bool.not_eq_true', beq_eq_false_iff_ne]); (try law_clear); (try subst_vars); first | assumption | exact Int.not_le.mpr (by assumption) | exact Int.not_lt.mpr (by assumption) | (law_clear; omega))) ?_; walk_say "PRUNED own")))
  k_with "subscriptTail" => ((k_here; (with_reducible show wpAny _ _ (subscriptTail _ _ (Value.ref _) (Value.int _ _)) _ _ _); k_dflt (refine' item_tupleT ?tq346 ?aq346 ?bq346 ?cq346 ?dq346 ?_; (case tq346 => exact News.isTup (by k_asm) (by k_mem)); (case aq346 => decide); (case bq346 => decide); (case cq346 => rfl); (case dq346 => rfl); k_whole)))
  k_with "subscriptTail Name Constant ref int" => ((k_here; (with_reducible show wpAny _ _ (subscriptTail _ _ (Value.ref _) (Value.int _ _)) _ _ _); k_dflt (refine' item_tupleT ?tq347 ?aq347 ?bq347 ?cq347 ?dq347 ?_; (case tq347 => exact News.isTup (by k_asm) (by k_mem)); (case aq347 => decide); (case bq347 => decide); (case cq347 => rfl); (case dq347 => rfl); k_whole)))
  k_with "callWith ref" => ((k_here; k_dflt (refine' callWith_K ?k1q348 ?k2q348 ?_; (case k1q348 => k_asm); (case k2q348 => k_is); k_whole)))
  k_with "call builtin:divmod" => ((k_here; (with_reducible show wpAny _ _ (call (Value.builtin _) [Value.int _ _, Value.int _ _]) _ _ _); k_dflt (refine' divmod_N ?k1q349 ?k2q349 ?feq349 ?_ (Or.inl (Sm.py ?fpq349)); (case k1q349 => k_asm); (case k2q349 => k_asm); (case feq349 => first | omega | exact Int.ne_of_gt (Int.mul_pos (by omega) (pow2_pos _))); (case fpq349 => ktr_rel)); intro h' F' N'; (try k_sweep)))
  k_with "call builtin:max" => ((k_here; (with_reducible show wpAny _ _ (call (Value.builtin _) [Value.ref _]) _ _ _); k_dflt (first
  | (refine' max_tup ?k0q350 ?k1q350 ?k2q350 ?k3q350 ?_; (case k0q350 => exact rfl); (case k1q350 => k_asm); (case k2q350 => k_asm); (case k3q350 => exact News.isTup (by k_asm) (by k_mem)))
  | (refine' max_list4 ?k0q350 ?k1q350 ?k2q350 ?k3q350 ?_; (case k0q350 => exact rfl); (case k1q350 => k_asm); (case k2q350 => k_asm); (case k3q350 => exact News.isList (by k_asm) (by k_mem)))); k_whole; intro h' r' tk' F' N'; (try k_sweep)))
  k_with "call builtin:min" => ((k_here; (with_reducible show wpAny _ _ (call (Value.builtin _) [Value.ref _]) _ _ _); k_dflt (first
  | (refine' min_tup ?k0q351 ?k1q351 ?k2q351 ?k3q351 ?_; (case k0q351 => exact rfl); (case k1q351 => k_asm); (case k2q351 => k_asm); (case k3q351 => exact News.isTup (by k_asm) (by k_mem)))
  | (refine' min_list4 ?k0q351 ?k1q351 ?k2q351 ?k3q351 ?_; (case k0q351 => exact rfl); (case k1q351 => k_asm); (case k2q351 => k_asm); (case k3q351 => exact News.isList (by k_asm) (by k_mem)))); k_whole; intro h' r' tk' F' N'; (try k_sweep)))
  k_with "newTuple" => ((k_here; k_dflt (refine' newTupL ?Fq352 ?Nq352 ?_ ?zq352; (case Fq352 => k_asm); (case Nq352 => k_asm); (case zq352 => kmk_size)); intro D' h' F' N' l1; (try (replace l1 := allLt_of l1; dsimp only [AllLt] at l1)); (try k_sweep)))
  k_with "storeName" => ((k_here; k_dflt (refine' storeX_S (by k_asm) (by k_asm) rfl (by k_mem) (by assumption) (by repeat' (first | exact Sift.all (by assumption) | exact Sift.all (allLt_ne (And.right (And.right ‹_ ∧ _ ∧ AllLt _ _›)) (by omega)) | exact Sift.all (ltAll (by assumption) (by omega)) | (apply Sift.keep; (case h => first | (refine neN ?_; first | walk_at "ne9" | omega) | exact newsNe (by assumption) (by k_mem) (by k_mem) (by assumption) (by intro _ e; cases e))) | apply Sift.drop)) ?_ rfl rfl; k_whole); intro h' o' F' N' d1'; (try dsimp only)))
  k_with "exec FunctionDef" => ((k_here; k_dflt (refine' nestDef_K ?d0q354 ?k0q354 ?a0q354 ?_; (case d0q354 => exact rfl); (case k0q354 => exact rfl); (case a0q354 => exact rfl)); k_dflt (refine' nest_S (by k_asm) (by k_asm) (by k_asm) (by first | assumption | exact CodeHd.keeps (by assumption) (Fr.keep (by assumption))) rfl (by assumption) (by k_mem) (by k_mem) (by repeat' (first | exact Sift.all (by assumption) | exact Sift.all (allLt_ne (And.right (And.right ‹_ ∧ _ ∧ AllLt _ _›)) (by omega)) | exact Sift.all (ltAll (by assumption) (by omega)) | (apply Sift.keep; (case h => first | (refine neN ?_; first | walk_at "ne9" | omega) | exact newsNe (by assumption) (by k_mem) (by k_mem) (by assumption) (by intro _ e; cases e))) | apply Sift.drop)) (by intro c9; kn_triples) (by intro c9; kn_hit) rfl ?_; k_whole); intro f' c' oc' doc' ct' h' tk' F' N' ok'; (have ok2' := ok'); (obtain ⟨vs', t', d1', d2'⟩ := ok2'); (try dsimp only at N')))
  k_with "eval Lambda" => ((k_here; k_dflt (refine' kla_eval ?d0q355 ?_; (case d0q355 => exact rfl)); k_dflt (refine' lam_S (by k_asm) (by k_asm) (by k_asm) (by first | assumption | exact CodeHd.keeps (by assumption) (Fr.keep (by assumption))) rfl (by assumption) (by k_mem) (by k_mem) (by repeat' (first | exact Sift.all (by assumption) | exact Sift.all (allLt_ne (And.right (And.right ‹_ ∧ _ ∧ AllLt _ _›)) (by omega)) | exact Sift.all (ltAll (by assumption) (by omega)) | (apply Sift.keep; (case h => first | (refine neN ?_; first | walk_at "ne9" | omega) | exact newsNe (by assumption) (by k_mem) (by k_mem) (by assumption) (by intro _ e; cases e))) | apply Sift.drop)) (by intro c9; kn_triples) (by intro c9; kn_hit) rfl ?_; k_whole); intro f' c' oc' ct' h' tk' F' N' ok'; (have ok2' := ok'); (obtain ⟨vs', t', d1', d2'⟩ := ok2'); (try dsimp only at N')))
  k_with "OnceB" => ((dsimp only [OnceB]))
  k_with "call ref" => ((k_here; (with_reducible show wpAny _ _ (call (Value.ref 282) _ _) _ _ _); k_dflt (refine wpAny_call ?_; ktr_enter)))
  k_with "CompEnd" => ((k_dflt (first
  | (refine' compEnd_1 ?Fq358 ?Nq358 ?offq358 ?hrq358 ?hSq358 ?_; (case Fq358 => k_asm); (case Nq358 => assumption); (case offq358 => assumption); (case hrq358 => (refine ⟨?_, ?_, ?_⟩ <;> first | walk_at "lt9" | omega)); (case hSq358 => exact Or.inr ⟨_, by k_mem, rfl, _, rfl⟩))
  | (refine' compEnd_0 ?Fq358 ?Nq358 ?offq358 ?hSq358 ?_; (case Fq358 => k_asm); (case Nq358 => assumption); (case offq358 => assumption); (case hSq358 => exact Or.inr ⟨_, by k_mem, rfl, _, rfl⟩)))))
  k_with "CompSrc" => ((k_here; k_dflt (refine LCg.CompSrc.ledger (by rfl) (by k_asm) (by k_asm) (by k_mem) (by first | size_fits | exact Nat.le_of_ble_eq_true rfl) ?_; intro g'; lcg_lit)))
  k_with "eval ListComp" => ((k_here; lcf_look; k_dflt (refine LCg.ListComp_U (F₀ := by k_asm) (by with_unfolding_all rfl) (by decide) (by rfl) (by decide) (by rfl) ?_); k_dflt lcg_toSrc))
  trivial
noncomputable def StopW (P : Prop) : Prop := P
theorem stopW {P : Prop} (h : StopW P) : P := h
theorem reg_56 : True := by
  k_with "exec While Compare cons nil" => (refine stopW ?_)
  k_with "call ref" => ((k_here; (with_reducible show wpAny _ _ (call (Value.ref 100) _ _) _ _ _); k_dflt (refine' size_of_c ?k1q362 ?k2q362 ?k3q362 ?k4q362 ?k5q362 ?kKq362 ?kdq362 ?kuq362   ?_; (case k1q362 => k_asm); (case k2q362 => k_asm); (case k3q362 => k_asm); (case k4q362 => k_asm); (case k5q362 => k_asm); (case kKq362 => first | exact rfl | assumption); (case kdq362 => ktr_room); (case kuq362 => ktr_units); k_whole); intro z9 t9 h9 tk9 e9 F9 N9; (try k_sweep); (try dsimp only); (try k_fold); skip))
  k_with "call ref" => ((k_here; (with_reducible show wpAny _ _ (call (Value.ref 331) _ _) _ _ _); k_dflt (refine' law_fractionF_c ?k1q363 ?k2q363 ?k3q363 ?k4q363 ?k5q363 ?kKq363 ?kdq363 ?kuq363  ?p0q363 ?p1q363 ?p2q363 ?_; (case k1q363 => k_asm); (case k2q363 => k_asm); (case k3q363 => k_asm); (case k4q363 => k_asm); (case k5q363 => k_asm); (case kKq363 => first | exact rfl | assumption); (case kdq363 => ktr_room); (case kuq363 => ktr_units); (case p0q363 => ktr_rel); (case p1q363 => first | with_reducible assumption | omega); (case p2q363 => first | with_reducible assumption | omega); k_whole); intro r9 z9 y9 t9 u9 h9 tk9 e9 f9 l9 F9 N9; (try (replace l9 := allLt_of l9; dsimp only [AllLt] at l9)); (try k_sweep); (try dsimp only); (try k_fold); skip))
  trivial
section
variable {w : World} {loose : List Str} {mean : ExcName → Option Value} {mg mb : Str → Option Value}
  {dp un : Nat} {gd : Option (List Code)} {cn : Str} {cs : Scope} {a : Addr} {ccd : Value} {cl : List (Str × Addr)} {outer : List Env} {A₀ : Around} {base h₀ : Heap} {L : Addr} {m : Str → Option Value} {news : List (Addr × Obj)} {s : Shared} {Q E : Value → Shared → Prop}

theorem law_middles_c {p : Int} {t9 : Tok} {v : (Int × Int) × (Int × Int)} {x1 y1 : Int} {j1 t1 k1 u1 : Tok} {a1 d1 : Addr}
  (B : Below A₀ base outer h₀) (F : Fr h₀ L s.heap m) (X : (hd.heap_1 w.params).In h₀) (N : News h₀ L s.heap (news)) (T : Top topProg loose mean mg mb h₀) (hk : cs.kind = .function)
  (hdp : dp + 15 < recursionLimit) (hun : un + 200 < cLine)
  (Ma1 : (a1, instObj (nat_lit 89) d1) ∈ news) (Md1 : (d1, realO w j1 x1 t1 k1 y1 u1) ∈ news) (h0 : 1 ≤ p) (h1 : p < 100) (hv : midF p x1 y1 = some v)
  (hret : ∀ r r1 r2 z1 z2 z3 z4 u1 u2 u3 u4 h' tk', z1 = (v).1.1 → z2 = (v).1.2 → z3 = (v).2.1 → z4 = (v).2.2 → Fr h₀ L h' m → News h₀ L h' ((r, LCg.lst [.ref r1, .ref r2]) :: (r1, tupO z1 u1 z2 u2) :: (r2, tupO z3 u3 z4 u4) :: news) → Q (.ref r) { s with heap := h', toks := tk' }) :
  wpAny (model Challenge.rw_nt0168_01.row.prog w) (ktrTop dp un gd cn cs L a ccd cl outer) (call (.ref 336) [.int p t9, .ref a1]) Q E s := by
  obtain ⟨g1, g2, N6, k, x, hm, s1, s2, s3, s4, s5, s6, hv1⟩ := midF_parts hv
  have hp2 := p2_eq p
  have hp3 := p2_eq (p - 1)
  rw [hp2] at g2
  have g3 : (if x1 < 0 then -x1 else x1).fmod 2 ≠ 0 := g1
  have g4 : ¬ 2 ^ p.toNat ≤ (if x1 < 0 then -x1 else x1) := g2
  refine wpAny_call ?_
  k_dflt (refine' code_defC ?k1 ?k2 ?k3 ?k4 ?k5 ?kA ?kF ?kK ?k6 ?k7 ?k8 ?k9 ?kB ?kD ?_ ?c2 ?c3 ?c4; (case kA => exact rfl); (case kF => exact rfl); (case kK => assumption); (case k1 => k_asm); (case k2 => k_asm); (case k3 => k_asm); (case k4 => k_asm); (case k5 => k_asm); (case k6 => k_is); (case k7 => k_is); (case k8 => ktr_room); (case k9 => exact BindsTo.of_eq rfl); (case kB => exact rfl); (case kD => decide +kernel); (case c2 => exact rfl); (case c3 => exact rfl); (case c4 => exact rfl); k_whole; intro g' L' h' tk' cells' FG' F' N' Y' B' X' T' l1; (try (replace l1 := allLt_of l1; dsimp only [AllLt] at l1)); k_cells Y'; (try simp only [List.cons_append, List.nil_append] at N'); (try dsimp only); (try k_lift B'); (try k_fold))
  k_steps
  show wpAny _ _ _ _ _ _
  (subst_vars; (rename Fr _ _ _ _ => lF'); (rename News _ _ _ _ => lN'); (with_unfolding_all refine' ksw_while (σ := MS) (fun c => (L' + 1, c.o) :: news) (fun c => [(Str.ofString "mantissa", .int c.p c.a)]) (fun c => c.o.data = .cell (some (.int c.t c.b))) [] (fun c => midL c.n p c.p c.t = some (k, x)) (fun c => c.n) ⟨N6, _, _, _, _, _⟩ lF' ?kn ?kf ?kk ?kp ?_); (case kk => kst_all); (case kn => (exact kst_newsOf lN' (by (try dsimp only); (refine List.forall_mem_cons.mpr ⟨by k_mem, ?_⟩; (repeat (first | exact sub_refl | refine sub_cons ?_)); done)))); (case kf => assumption); (case kp => ((try dsimp only); k_dflt (exact hm))); (clear lF' lN'); intro c u h tk hf hP F' N'; obtain ⟨n, q, t, ta, tb, oo⟩ := c; dsimp only at hf hP F' N'; skip; rcases n with _ | n; (· (simp [midL] at hP)); by_cases hg : q < p2 (p - 1); all_goals (first | (replace hP := midL_step hg hP) | (obtain ⟨rfl, rfl⟩ := Prod.mk.inj (Option.some.inj ((midL_stop hg).symm.trans hP)); by_cases hq : q = p2 (p - 1); all_goals ((first | (have s7 : nearV p q = 4 * q - 1 := by rw [nearV, if_pos hq]) | (have s7 : nearV p q = 4 * q - 2 := by rw [nearV, if_neg hq])); rw [s7] at s3 s6 hv1; rw [hp3] at hq))); all_goals rw [hp3] at hg; all_goals ((try dsimp only); (try k_fold)))
  all_goals k_steps
  focus ((try dsimp only); (rename News _ _ _ _ => nE'); (rename Fr _ _ _ _ => fE'); refine' ksw_end ⟨n, _, _, _, _, _⟩ fE' nE' ?kn ?kf ?kk ?kr ?kp (Nat.lt_succ_self _); (case kk => kst_all); (case kn => ((try dsimp only); (refine List.forall_mem_cons.mpr ⟨by k_mem, ?_⟩; (repeat (first | exact sub_refl | refine sub_cons ?_)); done))); (case kf => assumption); (case kr => (intro z h2 h3; simp only [List.forall_mem_cons, List.not_mem_nil, false_implies, implies_true, and_true, ne_eq] at h2; simp [kstB, h2])); (case kp => ((try dsimp only); exact hP)))

  all_goals (refine retM hret (by assumption) (by k_asm) (by k_mem) (by k_mem) (by k_mem) (by first | ((repeat (first | exact sub_refl | refine sub_cons ?_)); done) | (intro p hp; first | exact hp | (repeat (first | exact hp | refine List.mem_cons_of_mem _ ?_)))) ?_)
  all_goals (rcases hv1 with ⟨hx, rfl⟩ | ⟨hx, rfl⟩ <;> first | exact absurd ‹x1 < 0› ‹¬ x1 < 0› | exact mid_eq (by assumption) (by assumption) (by assumption) (by assumption))
theorem reg_57 : True := by
  k_with "call ref" => ((k_here; (with_reducible show wpAny _ _ (call (Value.ref 336) _ _) _ _ _); k_dflt (refine' law_middles_c ?k1q364 ?k2q364 ?k3q364 ?k4q364 ?k5q364 ?kKq364 ?kdq364 ?kuq364 ?m0q364 ?m1q364 ?p0q364 ?p1q364 ?p2q364 ?_; (case k1q364 => k_asm); (case k2q364 => k_asm); (case k3q364 => k_asm); (case k4q364 => k_asm); (case k5q364 => k_asm); (case kKq364 => first | exact rfl | assumption); (case kdq364 => ktr_room); (case kuq364 => ktr_units); (case m0q364 => k_mem); (case m1q364 => k_mem); (case p0q364 => first | with_reducible assumption | omega); (case p1q364 => first | with_reducible assumption | omega); (case p2q364 => first | with_reducible assumption | k_dflt (have hq := (‹midF _ _ _ = some _›); refine Eq.trans ?_ hq; law_clear; subst_vars; exact rfl) | kwd_less); k_whole); intro r9 p9 q9 z9 y9 x9 w9 t9 u9 j9 k9 h9 tk9 e9 f9 c9 d9 F9 N9; (try k_sweep); (try dsimp only); (try k_fold); skip))
  trivial
end
end
section
open PySem PySem.W PySem.Spec PySem.Calls PyProof.Rows
set_option Elab.async false
set_option maxRecDepth 100000
set_option maxHeartbeats 0
theorem reg_58 : True := by
  k_with_none
  k_with "lt9" => (first | with_reducible assumption | (refine ltc (by with_reducible assumption) ?_; first | exact pj1 | exact pj2 | exact pj3 | exact pj4 | exact pj5 | exact pj6 | exact pj7 | exact pj8 | exact pj9 | exact pj10 | exact pj11 | exact pj12 | exact pj13 | exact pj14 | exact qj1 | exact qj2 | exact qj3 | exact qj4 | exact qj5 | exact qj6 | exact qj7 | exact qj8 | exact qj9 | exact qj10 | exact qj11 | exact qj12 | exact qj13 | exact qj14))
  k_with "ne9" => (first | decide | (refine Nat.ne_of_lt ?_; walk_at "lt9") | (refine Nat.ne_of_gt ?_; walk_at "lt9") | exact Nat.ne_of_lt (Nat.lt_succ_self _) | exact Nat.ne_of_gt (Nat.lt_succ_self _) | (refine ne_up1 ?_; walk_at "lt9") | (refine ne_up2 ?_; walk_at "lt9") | (refine Ne.symm (ne_up1 ?_); walk_at "lt9") | (refine Ne.symm (ne_up2 ?_); walk_at "lt9"))
  trivial
-- Sm facts
theorem reg_59 : True := by
  k_with "eval Constant int" => (refine const_intN ?_)
  k_with "binaryOp Add int int" => (with_reducible refine add_intN ?_)
  k_with "binaryOp Sub int int" => (with_reducible refine sub_intN ?_)
  k_with "binaryOp Mult int int" => (with_reducible refine mul_intN ?_)
  k_with "binaryOp FloorDiv int int" => ((k_here; (with_reducible refine floordiv_intN ?feq371 ?_ (Sm.py ?fpq371)); (case feq371 => first | decide | omega | assumption); (case fpq371 => ktr_rel)))
  k_with "binaryOp LShift int int" => ((k_here; (with_reducible refine lshift_intN ?feq372 ?fpq372 ?_); (case feq372 => omega); (case fpq372 => exact Sm.shl (by ktr_rel) (by omega))))
  k_with "ite" => ((k_here; k_openite; k_spoken; first
  | (refine ite_pos (by ((try simp only [beq_iff_eq, bne_iff_ne, ne_eq, Bool.not_eq_true', beq_eq_false_iff_ne]); (try law_clear); (try subst_vars); first | assumption | exact decide_eq_true rfl | exact Int.not_le.mp (by assumption) | exact Int.not_lt.mp (by assumption) | (law_clear; omega))) ?_; walk_say "PRUNED own")
  | (refine ite_neg (by ((try simp only [beq_iff_eq, bne_iff_ne, ne_eq, Bool.not_eq_true', beq_eq_false_iff_ne]); (try law_clear); (try subst_vars); first | assumption | exact Int.not_le.mpr (by assumption) | exact Int.not_lt.mpr (by assumption) | (law_clear; omega))) ?_; walk_say "PRUNED own")))
  k_with "subscriptTail" => ((k_here; (with_reducible show wpAny _ _ (subscriptTail _ _ (Value.ref _) (Value.int _ _)) _ _ _); k_dflt (refine' item_tupleT ?tq374 ?aq374 ?bq374 ?cq374 ?dq374 ?_; (case tq374 => exact News.isTup (by k_asm) (by k_mem)); (case aq374 => decide); (case bq374 => decide); (case cq374 => rfl); (case dq374 => rfl); k_whole)))
  k_with "subscriptTail Name Constant ref int" => ((k_here; (with_reducible show wpAny _ _ (subscriptTail _ _ (Value.ref _) (Value.int _ _)) _ _ _); k_dflt (refine' item_tupleT ?tq375 ?aq375 ?bq375 ?cq375 ?dq375 ?_; (case tq375 => exact News.isTup (by k_asm) (by k_mem)); (case aq375 => decide); (case bq375 => decide); (case cq375 => rfl); (case dq375 => rfl); k_whole)))
  k_with "callWith ref" => ((k_here; k_dflt (refine' callWith_K ?k1q376 ?k2q376 ?_; (case k1q376 => k_asm); (case k2q376 => k_is); k_whole)))
  k_with "call builtin:divmod" => ((k_here; (with_reducible show wpAny _ _ (call (Value.builtin _) [Value.int _ _, Value.int _ _]) _ _ _); k_dflt (refine' divmod_N ?k1q377 ?k2q377 ?feq377 ?_ (Or.inl (Sm.py ?fpq377)); (case k1q377 => k_asm); (case k2q377 => k_asm); (case feq377 => first | omega | exact Int.ne_of_gt (Int.mul_pos (by omega) (pow2_pos _))); (case fpq377 => ktr_rel)); intro h' F' N'; (try k_sweep)))
  k_with "call builtin:max" => ((k_here; (with_reducible show wpAny _ _ (call (Value.builtin _) [Value.ref _]) _ _ _); k_dflt (first
  | (refine' max_tup ?k0q378 ?k1q378 ?k2q378 ?k3q378 ?_; (case k0q378 => exact rfl); (case k1q378 => k_asm); (case k2q378 => k_asm); (case k3q378 => exact News.isTup (by k_asm) (by k_mem)))
  | (refine' max_list4 ?k0q378 ?k1q378 ?k2q378 ?k3q378 ?_; (case k0q378 => exact rfl); (case k1q378 => k_asm); (case k2q378 => k_asm); (case k3q378 => exact News.isList (by k_asm) (by k_mem)))); k_whole; intro h' r' tk' F' N'; (try k_sweep)))
  k_with "call builtin:min" => ((k_here; (with_reducible show wpAny _ _ (call (Value.builtin _) [Value.ref _]) _ _ _); k_dflt (first
  | (refine' min_tup ?k0q379 ?k1q379 ?k2q379 ?k3q379 ?_; (case k0q379 => exact rfl); (case k1q379 => k_asm); (case k2q379 => k_asm); (case k3q379 => exact News.isTup (by k_asm) (by k_mem)))
  | (refine' min_list4 ?k0q379 ?k1q379 ?k2q379 ?k3q379 ?_; (case k0q379 => exact rfl); (case k1q379 => k_asm); (case k2q379 => k_asm); (case k3q379 => exact News.isList (by k_asm) (by k_mem)))); k_whole; intro h' r' tk' F' N'; (try k_sweep)))
  k_with "newTuple" => ((k_here; k_dflt (refine' newTupL ?Fq380 ?Nq380 ?_ ?zq380; (case Fq380 => k_asm); (case Nq380 => k_asm); (case zq380 => kmk_size)); intro D' h' F' N' l1; (try (replace l1 := allLt_of l1; dsimp only [AllLt] at l1)); (try k_sweep)))
  k_with "exec Raise some none" => ((k_here; k_dflt (refine' raise_own (C := 51) ?hhq381 ?_; (case hhq381 => exact rfl); k_whole)))
  k_with "call ref" => ((k_here; (with_reducible show wpAny _ _ (call (Value.ref 51) _ _) _ _ _); k_dflt (refine wpAny_call ?_); k_dflt (refine' make_excH (fI := 48) ?k1q382 ?k2q382 ?k3q382 ?k4q382 ?k5q382 ?k6q382 ?k7q382 ?_; (case k1q382 => k_asm); (case k2q382 => k_asm); (case k3q382 => k_asm); (case k4q382 => kernel_rfl); (case k5q382 => k_is); (case k6q382 => k_is); (case k7q382 => size_fits); k_whole); intro x' t' h' F' N' l1 l2; (try (replace l1 := allLt_of l1; dsimp only [AllLt] at l1)); (try k_lt2 l2); (try k_sweep); k_dflt (refine' code_def ?k1q382 ?k2q382 ?k3q382 ?k4q382 ?k5q382 ?kAq382 ?kFq382 ?kKq382 ?k6q382 ?k7q382 ?k8q382 ?k9q382 ?kBq382 ?_ ?c2q382 ?c3q382 ?c4q382 ?c5q382; (case kAq382 => exact rfl); (case kFq382 => exact rfl); (case kKq382 => first | exact rfl | assumption); (case k1q382 => k_asm); (case k2q382 => k_asm); (case k3q382 => k_asm); (case k4q382 => k_asm); (case k5q382 => k_asm); (case k6q382 => k_is); (case k7q382 => k_is); (case k8q382 => ktr_room); (case k9q382 => exact BindsTo.of_eq rfl); (case c5q382 => decide); (case kBq382 => exact locs rfl); (case c2q382 => exact rfl); (case c3q382 => exact rfl); (case c4q382 => exact rfl); k_whole; intro g' L' h' FG' F' N' B' X' T'; (try dsimp only); (try k_fold))))
  k_with "RaiseP" => ((k_dflt (refine' raiseP_of (C := 51) ?k1q383 ?k2q383 ?k3q383 ?k4q383 ?m1q383 ?_; (case k1q383 => k_asm); (case k2q383 => k_asm); (case k3q383 => kernel_rfl); (case k4q383 => k_asm); (case m1q383 => k_mem)); k_whole; (try dsimp only)))
  k_with "leaving ref" => ((k_here; k_dflt (refine' leave_exc (C := 51) ?k1q384 ?k2q384 ?k3q384 ?m1q384 ?sfq384 ?k4q384 ?k5q384 ?_; (case k1q384 => k_asm); (case k2q384 => k_asm); (case k3q384 => k_asm); (case m1q384 => k_mem); (case sfq384 => repeat' (first | exact Sift.all (by assumption) | exact Sift.all (allLt_ne (And.right (And.right ‹_ ∧ _ ∧ AllLt _ _›)) (by omega)) | exact Sift.all (ltAll (by assumption) (by omega)) | (apply Sift.keep; (case h => first | (refine neN ?_; first | walk_at "ne9" | omega) | exact newsNe (by assumption) (by k_mem) (by k_mem) (by assumption) (by intro _ e; cases e))) | apply Sift.drop)); (case k4q384 => exact rfl); (case k5q384 => first | exact rfl | assumption)); k_whole; intro h9 R9 U9; (try dsimp only)))
  k_with "setAttr ref" => ((k_here; k_dflt (first
  | (refine' setExc_none (C := 51) ?k1q385 ?k2q385 ?k3q385 ?k4q385 ?k5q385 ?k6q385 ?m1q385 ?sfq385 ?_; (case k1q385 => k_asm); (case k2q385 => k_asm); (case k3q385 => k_asm); (case k4q385 => kernel_rfl); (case k5q385 => kernel_rfl); (case k6q385 => kernel_rfl); (case m1q385 => k_mem); (case sfq385 => repeat' (first | exact Sift.all (by assumption) | exact Sift.all (allLt_ne (And.right (And.right ‹_ ∧ _ ∧ AllLt _ _›)) (by omega)) | exact Sift.all (ltAll (by assumption) (by omega)) | (apply Sift.keep; (case h => first | (refine neN ?_; first | walk_at "ne9" | omega) | exact newsNe (by assumption) (by k_mem) (by k_mem) (by assumption) (by intro _ e; cases e))) | apply Sift.drop)); k_whole; intro h' dx' od' tk' F' N' D' l1; (try (replace l1 := allLt_of l1; dsimp only [AllLt] at l1)); (try dsimp only))
  | (refine' setExc_some (C := 51) ?k1q385 ?k2q385 ?k3q385 ?k4q385 ?k5q385 ?k6q385 ?m1q385 ?m2q385 ?dnq385 ?sfq385 ?lnq385 ?_; (case k1q385 => k_asm); (case k2q385 => k_asm); (case k3q385 => k_asm); (case k4q385 => kernel_rfl); (case k5q385 => kernel_rfl); (case k6q385 => kernel_rfl); (case m1q385 => k_mem); (case m2q385 => k_mem); (case dnq385 => assumption); (case sfq385 => repeat' (first | exact Sift.all (by assumption) | exact Sift.all (allLt_ne (And.right (And.right ‹_ ∧ _ ∧ AllLt _ _›)) (by omega)) | exact Sift.all (ltAll (by assumption) (by omega)) | (apply Sift.keep; (case h => first | (refine neN ?_; first | walk_at "ne9" | omega) | exact newsNe (by assumption) (by k_mem) (by k_mem) (by assumption) (by intro _ e; cases e))) | apply Sift.drop)); (case lnq385 => decide); k_whole; intro h' od' tk' F' N' D'; (try dsimp only)))))
  k_with "call ref" => ((k_here; (with_reducible show wpAny _ _ (call (Value.ref 163) _ _) _ _ _); k_dflt (refine' sign_of_c ?k1q386 ?k2q386 ?k3q386 ?k4q386 ?k5q386 ?kKq386 ?kdq386 ?kuq386 ?m0q386 ?m1q386  ?_; (case k1q386 => k_asm); (case k2q386 => k_asm); (case k3q386 => k_asm); (case k4q386 => k_asm); (case k5q386 => k_asm); (case kKq386 => first | exact rfl | assumption); (case kdq386 => ktr_room); (case kuq386 => ktr_units); (case m0q386 => k_mem); (case m1q386 => k_mem); k_whole); intro z9 t9 h9 tk9 e9 F9 N9; (try k_sweep); (try dsimp only); (try k_fold); skip))
  k_with "call ref" => ((k_here; (with_reducible show wpAny _ _ (call (Value.ref 156) _ _) _ _ _); k_dflt (refine' place_of_c ?k1q387 ?k2q387 ?k3q387 ?k4q387 ?k5q387 ?kKq387 ?kdq387 ?kuq387 ?m0q387 ?m1q387  ?_; (case k1q387 => k_asm); (case k2q387 => k_asm); (case k3q387 => k_asm); (case k4q387 => k_asm); (case k5q387 => k_asm); (case kKq387 => first | exact rfl | assumption); (case kdq387 => ktr_room); (case kuq387 => ktr_units); (case m0q387 => k_mem); (case m1q387 => k_mem); k_whole); intro z9 t9 h9 tk9 e9 F9 N9; (try k_sweep); (try dsimp only); (try k_fold); skip))
  trivial
section
variable {w : World} {loose : List Str} {mean : ExcName → Option Value} {mg mb : Str → Option Value}
  {dp un : Nat} {gd : Option (List Code)} {cn : Str} {cs : Scope} {a : Addr} {ccd : Value} {cl : List (Str × Addr)} {outer : List Env} {A₀ : Around} {base h₀ : Heap} {L : Addr} {m : Str → Option Value} {news : List (Addr × Obj)} {s : Shared} {Q E : Value → Shared → Prop}

theorem exp_raise_c {p : Int} {t9 : Tok} {x1 y1 : Int} {j1 t1 k1 u1 : Tok} {a1 d1 : Addr}
  (B : Below A₀ base outer h₀) (F : Fr h₀ L s.heap m) (X : (hd.heap_1 w.params).In h₀) (N : News h₀ L s.heap (news)) (T : Top topProg loose mean mg mb h₀) (hk : cs.kind = .function)
  (hdp : dp + 24 < recursionLimit) (hun : un + 320 < cLine)
  (Ma1 : (a1, instObj (nat_lit 89) d1) ∈ news) (Md1 : (d1, realO w j1 x1 t1 k1 y1 u1) ∈ news) (g1 : sgn x1 ≠ 0) (g2 : 17 < placeI x1 y1)
  (hraise : ∀ g e h' tk', Fr h₀ L g m → RaisedSN base g (envX cn cs L a ccd cl :: outer) e (.ref 51) news h' → g.UpToSlots h' → E (.ref e) { s with heap := h', toks := tk' }) :
  wpAny (model Challenge.rw_nt0168_01.row.prog w) (ktrTop dp un gd cn cs L a ccd cl outer) (call (.ref 296) [.int p t9, .ref a1]) Q E s := by
  refine wpAny_call ?_
  k_dflt (refine' code_defC ?k1 ?k2 ?k3 ?k4 ?k5 ?kA ?kF ?kK ?k6 ?k7 ?k8 ?k9 ?kB ?kD ?_ ?c2 ?c3 ?c4; (case kA => exact rfl); (case kF => exact rfl); (case kK => assumption); (case k1 => k_asm); (case k2 => k_asm); (case k3 => k_asm); (case k4 => k_asm); (case k5 => k_asm); (case k6 => k_is); (case k7 => k_is); (case k8 => ktr_room); (case k9 => exact BindsTo.of_eq rfl); (case kB => exact rfl); (case kD => decide +kernel); (case c2 => exact rfl); (case c3 => exact rfl); (case c4 => exact rfl); k_whole; intro g' L' h' tk' cells' FG' F' N' Y' B' X' T' l1; (try (replace l1 := allLt_of l1; dsimp only [AllLt] at l1)); k_cells Y'; (try simp only [List.cons_append, List.nil_append] at N'); (try dsimp only); (try k_lift B'); (try k_fold))
  k_steps
  exact hraise _ _ _ _ (by assumption) (raised_sub (by assumption) (by first | ((repeat (first | exact sub_refl | refine sub_cons ?_)); done) | (intro p hp; first | exact hp | (repeat (first | exact hp | refine List.mem_cons_of_mem _ ?_))))) (by assumption)
theorem reg_60 : True := by
  k_with "call ref" => ((k_here; (with_reducible show wpAny _ _ (call (Value.ref 296) _ _) _ _ _); k_dflt (refine' exp_raise_c ?k1q388 ?k2q388 ?k3q388 ?k4q388 ?k5q388 ?kKq388 ?kdq388 ?kuq388 ?m0q388 ?m1q388 ?p0q388 ?p1q388 ?_; (case k1q388 => k_asm); (case k2q388 => k_asm); (case k3q388 => k_asm); (case k4q388 => k_asm); (case k5q388 => k_asm); (case kKq388 => first | exact rfl | assumption); (case kdq388 => ktr_room); (case kuq388 => ktr_units); (case m0q388 => k_mem); (case m1q388 => k_mem); (case p0q388 => (try law_clear); subst_vars; decide); (case p1q388 => (try law_clear); subst_vars; decide); k_whole); intro g9 e9 h9 tk9 F9 R9 U9; (try k_sweep); (try dsimp only); (try k_fold); skip))
  trivial
end
end
section
open PySem PySem.W PySem.Spec PySem.Calls PyProof.Rows
set_option Elab.async false
set_option maxRecDepth 100000
set_option maxHeartbeats 0
theorem reg_61 : True := by
  k_with_none
  k_with "lt9" => (first | with_reducible assumption | (refine ltc (by with_reducible assumption) ?_; first | exact pj1 | exact pj2 | exact pj3 | exact pj4 | exact pj5 | exact pj6 | exact pj7 | exact pj8 | exact pj9 | exact pj10 | exact pj11 | exact pj12 | exact pj13 | exact pj14 | exact qj1 | exact qj2 | exact qj3 | exact qj4 | exact qj5 | exact qj6 | exact qj7 | exact qj8 | exact qj9 | exact qj10 | exact qj11 | exact qj12 | exact qj13 | exact qj14))
  k_with "ne9" => (first | decide | (refine Nat.ne_of_lt ?_; walk_at "lt9") | (refine Nat.ne_of_gt ?_; walk_at "lt9") | exact Nat.ne_of_lt (Nat.lt_succ_self _) | exact Nat.ne_of_gt (Nat.lt_succ_self _) | (refine ne_up1 ?_; walk_at "lt9") | (refine ne_up2 ?_; walk_at "lt9") | (refine Ne.symm (ne_up1 ?_); walk_at "lt9") | (refine Ne.symm (ne_up2 ?_); walk_at "lt9"))
  trivial
-- Sm facts
theorem reg_62 : True := by
  k_with "eval Constant int" => (refine const_intN ?_)
  k_with "binaryOp Add int int" => (with_reducible refine add_intN ?_)
  k_with "binaryOp Sub int int" => (with_reducible refine sub_intN ?_)
  k_with "binaryOp Mult int int" => (with_reducible refine mul_intN ?_)
  k_with "binaryOp FloorDiv int int" => ((k_here; (with_reducible refine floordiv_intN ?feq395 ?_ (Sm.py ?fpq395)); (case feq395 => first | decide | omega | assumption); (case fpq395 => ktr_rel)))
  k_with "binaryOp LShift int int" => ((k_here; (with_reducible refine lshift_intN ?feq396 ?fpq396 ?_); (case feq396 => omega); (case fpq396 => exact Sm.shl (by ktr_rel) (by omega))))
  k_with "ite" => ((k_here; k_openite; k_spoken; first
  | (refine ite_pos (by ((try simp only [beq_iff_eq, bne_iff_ne, ne_eq, Bool.not_eq_true', beq_eq_false_iff_ne]); (try law_clear); (try subst_vars); first | assumption | exact decide_eq_true rfl | exact Int.not_le.mp (by assumption) | exact Int.not_lt.mp (by assumption) | (law_clear; omega))) ?_; walk_say "PRUNED own")
  | (refine ite_neg (by ((try simp only [beq_iff_eq, bne_iff_ne, ne_eq, Bool.not_eq_true', beq_eq_false_iff_ne]); (try law_clear); (try subst_vars); first | assumption | exact Int.not_le.mpr (by assumption) | exact Int.not_lt.mpr (by assumption) | (law_clear; omega))) ?_; walk_say "PRUNED own")))
  k_with "subscriptTail" => ((k_here; (with_reducible show wpAny _ _ (subscriptTail _ _ (Value.ref _) (Value.int _ _)) _ _ _); k_dflt (refine' item_tupleT ?tq398 ?aq398 ?bq398 ?cq398 ?dq398 ?_; (case tq398 => exact News.isTup (by k_asm) (by k_mem)); (case aq398 => decide); (case bq398 => decide); (case cq398 => rfl); (case dq398 => rfl); k_whole)))
  k_with "subscriptTail Name Constant ref int" => ((k_here; (with_reducible show wpAny _ _ (subscriptTail _ _ (Value.ref _) (Value.int _ _)) _ _ _); k_dflt (refine' item_tupleT ?tq399 ?aq399 ?bq399 ?cq399 ?dq399 ?_; (case tq399 => exact News.isTup (by k_asm) (by k_mem)); (case aq399 => decide); (case bq399 => decide); (case cq399 => rfl); (case dq399 => rfl); k_whole)))
  k_with "callWith ref" => ((k_here; k_dflt (refine' callWith_K ?k1q400 ?k2q400 ?_; (case k1q400 => k_asm); (case k2q400 => k_is); k_whole)))
  k_with "call builtin:divmod" => ((k_here; (with_reducible show wpAny _ _ (call (Value.builtin _) [Value.int _ _, Value.int _ _]) _ _ _); k_dflt (refine' divmod_N ?k1q401 ?k2q401 ?feq401 ?_ (Or.inl (Sm.py ?fpq401)); (case k1q401 => k_asm); (case k2q401 => k_asm); (case feq401 => first | omega | exact Int.ne_of_gt (Int.mul_pos (by omega) (pow2_pos _))); (case fpq401 => ktr_rel)); intro h' F' N'; (try k_sweep)))
  k_with "call builtin:max" => ((k_here; (with_reducible show wpAny _ _ (call (Value.builtin _) [Value.ref _]) _ _ _); k_dflt (first
  | (refine' max_tup ?k0q402 ?k1q402 ?k2q402 ?k3q402 ?_; (case k0q402 => exact rfl); (case k1q402 => k_asm); (case k2q402 => k_asm); (case k3q402 => exact News.isTup (by k_asm) (by k_mem)))
  | (refine' max_list4 ?k0q402 ?k1q402 ?k2q402 ?k3q402 ?_; (case k0q402 => exact rfl); (case k1q402 => k_asm); (case k2q402 => k_asm); (case k3q402 => exact News.isList (by k_asm) (by k_mem)))); k_whole; intro h' r' tk' F' N'; (try k_sweep)))
  k_with "call builtin:min" => ((k_here; (with_reducible show wpAny _ _ (call (Value.builtin _) [Value.ref _]) _ _ _); k_dflt (first
  | (refine' min_tup ?k0q403 ?k1q403 ?k2q403 ?k3q403 ?_; (case k0q403 => exact rfl); (case k1q403 => k_asm); (case k2q403 => k_asm); (case k3q403 => exact News.isTup (by k_asm) (by k_mem)))
  | (refine' min_list4 ?k0q403 ?k1q403 ?k2q403 ?k3q403 ?_; (case k0q403 => exact rfl); (case k1q403 => k_asm); (case k2q403 => k_asm); (case k3q403 => exact News.isList (by k_asm) (by k_mem)))); k_whole; intro h' r' tk' F' N'; (try k_sweep)))
  k_with "newTuple" => ((k_here; k_dflt (refine' newTupL ?Fq404 ?Nq404 ?_ ?zq404; (case Fq404 => k_asm); (case Nq404 => k_asm); (case zq404 => kmk_size)); intro D' h' F' N' l1; (try (replace l1 := allLt_of l1; dsimp only [AllLt] at l1)); (try k_sweep)))
  k_with "exec Raise some none" => ((k_here; k_dflt (refine' raise_own (C := 70) ?hhq405 ?_; (case hhq405 => exact rfl); k_whole)))
  k_with "call ref" => ((k_here; (with_reducible show wpAny _ _ (call (Value.ref 70) _ _) _ _ _); k_dflt (refine wpAny_call ?_); k_dflt (refine' make_excH (fI := 67) ?k1q406 ?k2q406 ?k3q406 ?k4q406 ?k5q406 ?k6q406 ?k7q406 ?_; (case k1q406 => k_asm); (case k2q406 => k_asm); (case k3q406 => k_asm); (case k4q406 => kernel_rfl); (case k5q406 => k_is); (case k6q406 => k_is); (case k7q406 => size_fits); k_whole); intro x' t' h' F' N' l1 l2; (try (replace l1 := allLt_of l1; dsimp only [AllLt] at l1)); (try k_lt2 l2); (try k_sweep); k_dflt (refine' code_def ?k1q406 ?k2q406 ?k3q406 ?k4q406 ?k5q406 ?kAq406 ?kFq406 ?kKq406 ?k6q406 ?k7q406 ?k8q406 ?k9q406 ?kBq406 ?_ ?c2q406 ?c3q406 ?c4q406 ?c5q406; (case kAq406 => exact rfl); (case kFq406 => exact rfl); (case kKq406 => first | exact rfl | assumption); (case k1q406 => k_asm); (case k2q406 => k_asm); (case k3q406 => k_asm); (case k4q406 => k_asm); (case k5q406 => k_asm); (case k6q406 => k_is); (case k7q406 => k_is); (case k8q406 => ktr_room); (case k9q406 => exact BindsTo.of_eq rfl); (case c5q406 => decide); (case kBq406 => exact locs rfl); (case c2q406 => exact rfl); (case c3q406 => exact rfl); (case c4q406 => exact rfl); k_whole; intro g' L' h' FG' F' N' B' X' T'; (try dsimp only); (try k_fold))))
  k_with "RaiseP" => ((k_dflt (refine' raiseP_of (C := 70) ?k1q407 ?k2q407 ?k3q407 ?k4q407 ?m1q407 ?_; (case k1q407 => k_asm); (case k2q407 => k_asm); (case k3q407 => kernel_rfl); (case k4q407 => k_asm); (case m1q407 => k_mem)); k_whole; (try dsimp only)))
  k_with "leaving ref" => ((k_here; k_dflt (refine' leave_exc (C := 70) ?k1q408 ?k2q408 ?k3q408 ?m1q408 ?sfq408 ?k4q408 ?k5q408 ?_; (case k1q408 => k_asm); (case k2q408 => k_asm); (case k3q408 => k_asm); (case m1q408 => k_mem); (case sfq408 => repeat' (first | exact Sift.all (by assumption) | exact Sift.all (allLt_ne (And.right (And.right ‹_ ∧ _ ∧ AllLt _ _›)) (by omega)) | exact Sift.all (ltAll (by assumption) (by omega)) | (apply Sift.keep; (case h => first | (refine neN ?_; first | walk_at "ne9" | omega) | exact newsNe (by assumption) (by k_mem) (by k_mem) (by assumption) (by intro _ e; cases e))) | apply Sift.drop)); (case k4q408 => exact rfl); (case k5q408 => first | exact rfl | assumption)); k_whole; intro h9 R9 U9; (try dsimp only)))
  k_with "setAttr ref" => ((k_here; k_dflt (first
  | (refine' setExc_none (C := 70) ?k1q409 ?k2q409 ?k3q409 ?k4q409 ?k5q409 ?k6q409 ?m1q409 ?sfq409 ?_; (case k1q409 => k_asm); (case k2q409 => k_asm); (case k3q409 => k_asm); (case k4q409 => kernel_rfl); (case k5q409 => kernel_rfl); (case k6q409 => kernel_rfl); (case m1q409 => k_mem); (case sfq409 => repeat' (first | exact Sift.all (by assumption) | exact Sift.all (allLt_ne (And.right (And.right ‹_ ∧ _ ∧ AllLt _ _›)) (by omega)) | exact Sift.all (ltAll (by assumption) (by omega)) | (apply Sift.keep; (case h => first | (refine neN ?_; first | walk_at "ne9" | omega) | exact newsNe (by assumption) (by k_mem) (by k_mem) (by assumption) (by intro _ e; cases e))) | apply Sift.drop)); k_whole; intro h' dx' od' tk' F' N' D' l1; (try (replace l1 := allLt_of l1; dsimp only [AllLt] at l1)); (try dsimp only))
  | (refine' setExc_some (C := 70) ?k1q409 ?k2q409 ?k3q409 ?k4q409 ?k5q409 ?k6q409 ?m1q409 ?m2q409 ?dnq409 ?sfq409 ?lnq409 ?_; (case k1q409 => k_asm); (case k2q409 => k_asm); (case k3q409 => k_asm); (case k4q409 => kernel_rfl); (case k5q409 => kernel_rfl); (case k6q409 => kernel_rfl); (case m1q409 => k_mem); (case m2q409 => k_mem); (case dnq409 => assumption); (case sfq409 => repeat' (first | exact Sift.all (by assumption) | exact Sift.all (allLt_ne (And.right (And.right ‹_ ∧ _ ∧ AllLt _ _›)) (by omega)) | exact Sift.all (ltAll (by assumption) (by omega)) | (apply Sift.keep; (case h => first | (refine neN ?_; first | walk_at "ne9" | omega) | exact newsNe (by assumption) (by k_mem) (by k_mem) (by assumption) (by intro _ e; cases e))) | apply Sift.drop)); (case lnq409 => decide); k_whole; intro h' od' tk' F' N' D'; (try dsimp only)))))
  k_with "call ref" => ((k_here; (with_reducible show wpAny _ _ (call (Value.ref 163) _ _) _ _ _); k_dflt (refine' sign_of_c ?k1q410 ?k2q410 ?k3q410 ?k4q410 ?k5q410 ?kKq410 ?kdq410 ?kuq410 ?m0q410 ?m1q410  ?_; (case k1q410 => k_asm); (case k2q410 => k_asm); (case k3q410 => k_asm); (case k4q410 => k_asm); (case k5q410 => k_asm); (case kKq410 => first | exact rfl | assumption); (case kdq410 => ktr_room); (case kuq410 => ktr_units); (case m0q410 => k_mem); (case m1q410 => k_mem); k_whole); intro z9 t9 h9 tk9 e9 F9 N9; (try k_sweep); (try dsimp only); (try k_fold); skip))
  k_with "call ref" => ((k_here; (with_reducible show wpAny _ _ (call (Value.ref 156) _ _) _ _ _); k_dflt (refine' place_of_c ?k1q411 ?k2q411 ?k3q411 ?k4q411 ?k5q411 ?kKq411 ?kdq411 ?kuq411 ?m0q411 ?m1q411  ?_; (case k1q411 => k_asm); (case k2q411 => k_asm); (case k3q411 => k_asm); (case k4q411 => k_asm); (case k5q411 => k_asm); (case kKq411 => first | exact rfl | assumption); (case kdq411 => ktr_room); (case kuq411 => ktr_units); (case m0q411 => k_mem); (case m1q411 => k_mem); k_whole); intro z9 t9 h9 tk9 e9 F9 N9; (try k_sweep); (try dsimp only); (try k_fold); skip))
  trivial
section
variable {w : World} {loose : List Str} {mean : ExcName → Option Value} {mg mb : Str → Option Value}
  {dp un : Nat} {gd : Option (List Code)} {cn : Str} {cs : Scope} {a : Addr} {ccd : Value} {cl : List (Str × Addr)} {outer : List Env} {A₀ : Around} {base h₀ : Heap} {L : Addr} {m : Str → Option Value} {news : List (Addr × Obj)} {s : Shared} {Q E : Value → Shared → Prop}

theorem log_raise_c {p : Int} {t9 : Tok} {x1 y1 : Int} {j1 t1 k1 u1 : Tok} {a1 d1 : Addr}
  (B : Below A₀ base outer h₀) (F : Fr h₀ L s.heap m) (X : (hd.heap_1 w.params).In h₀) (N : News h₀ L s.heap (news)) (T : Top topProg loose mean mg mb h₀) (hk : cs.kind = .function)
  (hdp : dp + 24 < recursionLimit) (hun : un + 320 < cLine)
  (Ma1 : (a1, instObj (nat_lit 89) d1) ∈ news) (Md1 : (d1, realO w j1 x1 t1 k1 y1 u1) ∈ news) (g1 : sgn x1 ≤ 0)
  (hraise : ∀ g e h' tk', Fr h₀ L g m → RaisedSN base g (envX cn cs L a ccd cl :: outer) e (.ref 70) news h' → g.UpToSlots h' → E (.ref e) { s with heap := h', toks := tk' }) :
  wpAny (model Challenge.rw_nt0168_01.row.prog w) (ktrTop dp un gd cn cs L a ccd cl outer) (call (.ref 310) [.int p t9, .ref a1]) Q E s := by
  refine wpAny_call ?_
  k_dflt (refine' code_defC ?k1 ?k2 ?k3 ?k4 ?k5 ?kA ?kF ?kK ?k6 ?k7 ?k8 ?k9 ?kB ?kD ?_ ?c2 ?c3 ?c4; (case kA => exact rfl); (case kF => exact rfl); (case kK => assumption); (case k1 => k_asm); (case k2 => k_asm); (case k3 => k_asm); (case k4 => k_asm); (case k5 => k_asm); (case k6 => k_is); (case k7 => k_is); (case k8 => ktr_room); (case k9 => exact BindsTo.of_eq rfl); (case kB => exact rfl); (case kD => decide +kernel); (case c2 => exact rfl); (case c3 => exact rfl); (case c4 => exact rfl); k_whole; intro g' L' h' tk' cells' FG' F' N' Y' B' X' T' l1; (try (replace l1 := allLt_of l1; dsimp only [AllLt] at l1)); k_cells Y'; (try simp only [List.cons_append, List.nil_append] at N'); (try dsimp only); (try k_lift B'); (try k_fold))
  k_steps
  exact hraise _ _ _ _ (by assumption) (raised_sub (by assumption) (by first | ((repeat (first | exact sub_refl | refine sub_cons ?_)); done) | (intro p hp; first | exact hp | (repeat (first | exact hp | refine List.mem_cons_of_mem _ ?_))))) (by assumption)
theorem reg_63 : True := by
  k_with "call ref" => ((k_here; (with_reducible show wpAny _ _ (call (Value.ref 310) _ _) _ _ _); k_dflt (refine' log_raise_c ?k1q412 ?k2q412 ?k3q412 ?k4q412 ?k5q412 ?kKq412 ?kdq412 ?kuq412 ?m0q412 ?m1q412 ?p0q412 ?_; (case k1q412 => k_asm); (case k2q412 => k_asm); (case k3q412 => k_asm); (case k4q412 => k_asm); (case k5q412 => k_asm); (case kKq412 => first | exact rfl | assumption); (case kdq412 => ktr_room); (case kuq412 => ktr_units); (case m0q412 => k_mem); (case m1q412 => k_mem); (case p0q412 => (try law_clear); subst_vars; first | decide | exact sgn_abs); k_whole); intro g9 e9 h9 tk9 F9 R9 U9; (try k_sweep); (try dsimp only); (try k_fold); skip))
  trivial
end
end
section
open PySem PySem.W PySem.Spec PySem.Calls PyProof.Rows
set_option Elab.async false
set_option maxRecDepth 100000
set_option maxHeartbeats 0
theorem reg_64 : True := by
  k_with_none
  k_with "lt9" => (first | with_reducible assumption | (refine ltc (by with_reducible assumption) ?_; first | exact pj1 | exact pj2 | exact pj3 | exact pj4 | exact pj5 | exact pj6 | exact pj7 | exact pj8 | exact pj9 | exact pj10 | exact pj11 | exact pj12 | exact pj13 | exact pj14 | exact qj1 | exact qj2 | exact qj3 | exact qj4 | exact qj5 | exact qj6 | exact qj7 | exact qj8 | exact qj9 | exact qj10 | exact qj11 | exact qj12 | exact qj13 | exact qj14))
  k_with "ne9" => (first | decide | (refine Nat.ne_of_lt ?_; walk_at "lt9") | (refine Nat.ne_of_gt ?_; walk_at "lt9") | exact Nat.ne_of_lt (Nat.lt_succ_self _) | exact Nat.ne_of_gt (Nat.lt_succ_self _) | (refine ne_up1 ?_; walk_at "lt9") | (refine ne_up2 ?_; walk_at "lt9") | (refine Ne.symm (ne_up1 ?_); walk_at "lt9") | (refine Ne.symm (ne_up2 ?_); walk_at "lt9"))
  trivial
-- Sm facts
theorem reg_65 : True := by
  k_with "eval Constant int" => (refine const_intN ?_)
  k_with "binaryOp Add int int" => (with_reducible refine add_intN ?_)
  k_with "binaryOp Sub int int" => (with_reducible refine sub_intN ?_)
  k_with "binaryOp Mult int int" => (with_reducible refine mul_intN ?_)
  k_with "binaryOp FloorDiv int int" => ((k_here; (with_reducible refine floordiv_intN ?feq419 ?_ (Sm.py ?fpq419)); (case feq419 => first | decide | omega | assumption); (case fpq419 => ktr_rel)))
  k_with "binaryOp LShift int int" => ((k_here; (with_reducible refine lshift_intN ?feq420 ?fpq420 ?_); (case feq420 => omega); (case fpq420 => exact Sm.shl (by ktr_rel) (by omega))))
  k_with "ite" => ((k_here; k_openite; k_spoken; first
  | (refine ite_pos (by ((try simp only [beq_iff_eq, bne_iff_ne, ne_eq, Bool.not_eq_true', beq_eq_false_iff_ne]); (try law_clear); (try subst_vars); first | assumption | exact decide_eq_true rfl | exact Int.not_le.mp (by assumption) | exact Int.not_lt.mp (by assumption) | (law_clear; omega))) ?_; walk_say "PRUNED own")
  | (refine ite_neg (by ((try simp only [beq_iff_eq, bne_iff_ne, ne_eq, Bool.not_eq_true', beq_eq_false_iff_ne]); (try law_clear); (try subst_vars); first | assumption | exact Int.not_le.mpr (by assumption) | exact Int.not_lt.mpr (by assumption) | (law_clear; omega))) ?_; walk_say "PRUNED own")))
  k_with "subscriptTail" => ((k_here; (with_reducible show wpAny _ _ (subscriptTail _ _ (Value.ref _) (Value.int _ _)) _ _ _); k_dflt (refine' item_tupleT ?tq422 ?aq422 ?bq422 ?cq422 ?dq422 ?_; (case tq422 => exact News.isTup (by k_asm) (by k_mem)); (case aq422 => decide); (case bq422 => decide); (case cq422 => rfl); (case dq422 => rfl); k_whole)))
  k_with "subscriptTail Name Constant ref int" => ((k_here; (with_reducible show wpAny _ _ (subscriptTail _ _ (Value.ref _) (Value.int _ _)) _ _ _); k_dflt (refine' item_tupleT ?tq423 ?aq423 ?bq423 ?cq423 ?dq423 ?_; (case tq423 => exact News.isTup (by k_asm) (by k_mem)); (case aq423 => decide); (case bq423 => decide); (case cq423 => rfl); (case dq423 => rfl); k_whole)))
  k_with "callWith ref" => ((k_here; k_dflt (refine' callWith_K ?k1q424 ?k2q424 ?_; (case k1q424 => k_asm); (case k2q424 => k_is); k_whole)))
  k_with "call builtin:divmod" => ((k_here; (with_reducible show wpAny _ _ (call (Value.builtin _) [Value.int _ _, Value.int _ _]) _ _ _); k_dflt (refine' divmod_N ?k1q425 ?k2q425 ?feq425 ?_ (Or.inl (Sm.py ?fpq425)); (case k1q425 => k_asm); (case k2q425 => k_asm); (case feq425 => first | omega | exact Int.ne_of_gt (Int.mul_pos (by omega) (pow2_pos _))); (case fpq425 => ktr_rel)); intro h' F' N'; (try k_sweep)))
  k_with "call builtin:max" => ((k_here; (with_reducible show wpAny _ _ (call (Value.builtin _) [Value.ref _]) _ _ _); k_dflt (first
  | (refine' max_tup ?k0q426 ?k1q426 ?k2q426 ?k3q426 ?_; (case k0q426 => exact rfl); (case k1q426 => k_asm); (case k2q426 => k_asm); (case k3q426 => exact News.isTup (by k_asm) (by k_mem)))
  | (refine' max_list4 ?k0q426 ?k1q426 ?k2q426 ?k3q426 ?_; (case k0q426 => exact rfl); (case k1q426 => k_asm); (case k2q426 => k_asm); (case k3q426 => exact News.isList (by k_asm) (by k_mem)))); k_whole; intro h' r' tk' F' N'; (try k_sweep)))
  k_with "call builtin:min" => ((k_here; (with_reducible show wpAny _ _ (call (Value.builtin _) [Value.ref _]) _ _ _); k_dflt (first
  | (refine' min_tup ?k0q427 ?k1q427 ?k2q427 ?k3q427 ?_; (case k0q427 => exact rfl); (case k1q427 => k_asm); (case k2q427 => k_asm); (case k3q427 => exact News.isTup (by k_asm) (by k_mem)))
  | (refine' min_list4 ?k0q427 ?k1q427 ?k2q427 ?k3q427 ?_; (case k0q427 => exact rfl); (case k1q427 => k_asm); (case k2q427 => k_asm); (case k3q427 => exact News.isList (by k_asm) (by k_mem)))); k_whole; intro h' r' tk' F' N'; (try k_sweep)))
  k_with "newTuple" => ((k_here; k_dflt (refine' newTupL ?Fq428 ?Nq428 ?_ ?zq428; (case Fq428 => k_asm); (case Nq428 => k_asm); (case zq428 => kmk_size)); intro D' h' F' N' l1; (try (replace l1 := allLt_of l1; dsimp only [AllLt] at l1)); (try k_sweep)))
  k_with "call ref" => ((k_here; (with_reducible show wpAny _ _ (call (Value.ref 163) _ _) _ _ _); k_dflt (refine' sign_of_c ?k1q429 ?k2q429 ?k3q429 ?k4q429 ?k5q429 ?kKq429 ?kdq429 ?kuq429 ?m0q429 ?m1q429  ?_; (case k1q429 => k_asm); (case k2q429 => k_asm); (case k3q429 => k_asm); (case k4q429 => k_asm); (case k5q429 => k_asm); (case kKq429 => first | exact rfl | assumption); (case kdq429 => ktr_room); (case kuq429 => ktr_units); (case m0q429 => k_mem); (case m1q429 => k_mem); k_whole); intro z9 t9 h9 tk9 e9 F9 N9; (try k_sweep); (try dsimp only); (try k_fold); skip))
  k_with "call ref" => ((k_here; (with_reducible show wpAny _ _ (call (Value.ref 156) _ _) _ _ _); k_dflt (refine' place_of_c ?k1q430 ?k2q430 ?k3q430 ?k4q430 ?k5q430 ?kKq430 ?kdq430 ?kuq430 ?m0q430 ?m1q430  ?_; (case k1q430 => k_asm); (case k2q430 => k_asm); (case k3q430 => k_asm); (case k4q430 => k_asm); (case k5q430 => k_asm); (case kKq430 => first | exact rfl | assumption); (case kdq430 => ktr_room); (case kuq430 => ktr_units); (case m0q430 => k_mem); (case m1q430 => k_mem); k_whole); intro z9 t9 h9 tk9 e9 F9 N9; (try k_sweep); (try dsimp only); (try k_fold); skip))
  k_with "call ref" => ((k_here; (with_reducible show wpAny _ _ (call (Value.ref 89) _ _) _ _ _); k_dflt (refine' real_c ?k1q431 ?k2q431 ?k3q431 ?k4q431 ?k5q431 ?kKq431 ?kdq431 ?kuq431   ?_; (case k1q431 => k_asm); (case k2q431 => k_asm); (case k3q431 => k_asm); (case k4q431 => k_asm); (case k5q431 => k_asm); (case kKq431 => first | exact rfl | assumption); (case kdq431 => ktr_room); (case kuq431 => ktr_units); k_whole); intro r9 d9 z9 y9 j9 t9 i9 u9 h9 tk9 e9 f9 F9 N9; (try k_sweep); (try dsimp only); (try k_fold); skip))
  trivial
section
variable {w : World} {loose : List Str} {mean : ExcName → Option Value} {mg mb : Str → Option Value}
  {dp un : Nat} {gd : Option (List Code)} {cn : Str} {cs : Scope} {a : Addr} {ccd : Value} {cl : List (Str × Addr)} {outer : List Env} {A₀ : Around} {base h₀ : Heap} {L : Addr} {m : Str → Option Value} {news : List (Addr × Obj)} {s : Shared} {Q E : Value → Shared → Prop}

theorem exp_zero_c {p : Int} {t9 : Tok} {x1 y1 : Int} {j1 t1 k1 u1 : Tok} {a1 d1 : Addr}
  (B : Below A₀ base outer h₀) (F : Fr h₀ L s.heap m) (X : (hd.heap_1 w.params).In h₀) (N : News h₀ L s.heap (news)) (T : Top topProg loose mean mg mb h₀) (hk : cs.kind = .function)
  (hdp : dp + 24 < recursionLimit) (hun : un + 320 < cLine)
  (Ma1 : (a1, instObj (nat_lit 89) d1) ∈ news) (Md1 : (d1, realO w j1 x1 t1 k1 y1 u1) ∈ news) (g1 : sgn x1 = 0)
  (hret : ∀ r d z1 z2 j u1 k u2 h' tk', z1 = ((1, 0)).1 → z2 = ((1, 0)).2 → Fr h₀ L h' m → News h₀ L h' ((r, instObj (nat_lit 89) d) :: (d, realO w j z1 u1 k z2 u2) :: news) → Q (.ref r) { s with heap := h', toks := tk' }) :
  wpAny (model Challenge.rw_nt0168_01.row.prog w) (ktrTop dp un gd cn cs L a ccd cl outer) (call (.ref 296) [.int p t9, .ref a1]) Q E s := by
  refine wpAny_call ?_
  k_dflt (refine' code_defC ?k1 ?k2 ?k3 ?k4 ?k5 ?kA ?kF ?kK ?k6 ?k7 ?k8 ?k9 ?kB ?kD ?_ ?c2 ?c3 ?c4; (case kA => exact rfl); (case kF => exact rfl); (case kK => assumption); (case k1 => k_asm); (case k2 => k_asm); (case k3 => k_asm); (case k4 => k_asm); (case k5 => k_asm); (case k6 => k_is); (case k7 => k_is); (case k8 => ktr_room); (case k9 => exact BindsTo.of_eq rfl); (case kB => exact rfl); (case kD => decide +kernel); (case c2 => exact rfl); (case c3 => exact rfl); (case c4 => exact rfl); k_whole; intro g' L' h' tk' cells' FG' F' N' Y' B' X' T' l1; (try (replace l1 := allLt_of l1; dsimp only [AllLt] at l1)); k_cells Y'; (try simp only [List.cons_append, List.nil_append] at N'); (try dsimp only); (try k_lift B'); (try k_fold))
  k_steps
  all_goals (refine retR (v := (1, 0)) hret (by assumption) (by k_asm) (by k_mem) (by k_mem) (by first | ((repeat (first | exact sub_refl | refine sub_cons ?_)); done) | (intro p hp; first | exact hp | (repeat (first | exact hp | refine List.mem_cons_of_mem _ ?_)))) ?_)
  all_goals ((try law_clear); subst_vars; rfl)
theorem reg_66 : True := by
  k_with "call ref" => ((k_here; (with_reducible show wpAny _ _ (call (Value.ref 296) _ _) _ _ _); k_dflt (refine' exp_zero_c ?k1q432 ?k2q432 ?k3q432 ?k4q432 ?k5q432 ?kKq432 ?kdq432 ?kuq432 ?m0q432 ?m1q432 ?p0q432 ?_; (case k1q432 => k_asm); (case k2q432 => k_asm); (case k3q432 => k_asm); (case k4q432 => k_asm); (case k5q432 => k_asm); (case kKq432 => first | exact rfl | assumption); (case kdq432 => ktr_room); (case kuq432 => ktr_units); (case m0q432 => k_mem); (case m1q432 => k_mem); (case p0q432 => (try law_clear); subst_vars; decide); k_whole); intro r9 d9 z9 y9 j9 t9 i9 u9 h9 tk9 e9 f9 F9 N9; (try k_sweep); (try dsimp only); (try k_fold); skip))
  trivial
end
end
section
open PySem PySem.W PySem.Spec PySem.Calls PyProof.Rows
set_option Elab.async false
set_option maxRecDepth 100000
set_option maxHeartbeats 0
/-- a call from a frame above the law's own raises an object of one class -/
noncomputable def Throws (w : World) (loose : List Str) (mean : ExcName → Option Value) (mg mb : Str → Option Value) (gd : Option (List Code)) (base : Heap) (env : Env) (news : List (Addr × Obj)) (C f : Addr) : Prop :=
  ∀ (dp un : Nat) (cn : Str) (cs : Scope) (L a : Addr) (ccd : Value) (A : Around) (h₀ : Heap) (m : Str → Option Value) (s : Shared) (Q E : Value → Shared → Prop),
    Below A base [env] h₀ → Fr h₀ L s.heap m → (hd.heap_1 w.params).In h₀ → News h₀ L s.heap news → Top topProg loose mean mg mb h₀ → cs.kind = .function → dp + 36 < recursionLimit → un + 480 < cLine →
    (∀ g e h' tk', Fr h₀ L g m → RaisedSN base g [envX cn cs L a ccd [], env] e (.ref C) news h' → g.UpToSlots h' → E (.ref e) { s with heap := h', toks := tk' }) →
    wpAny (model Challenge.rw_nt0168_01.row.prog w) (ktrTop dp un gd cn cs L a ccd [] [env]) (call (.ref f) []) Q E s
theorem reg_67 : True := by
  k_with_none
  k_with "lt9" => (first | with_reducible assumption | (refine ltc (by with_reducible assumption) ?_; first | exact pj1 | exact pj2 | exact pj3 | exact pj4 | exact pj5 | exact pj6 | exact pj7 | exact pj8 | exact pj9 | exact pj10 | exact pj11 | exact pj12 | exact pj13 | exact pj14 | exact qj1 | exact qj2 | exact qj3 | exact qj4 | exact qj5 | exact qj6 | exact qj7 | exact qj8 | exact qj9 | exact qj10 | exact qj11 | exact qj12 | exact qj13 | exact qj14))
  k_with "ne9" => (first | decide | (refine Nat.ne_of_lt ?_; walk_at "lt9") | (refine Nat.ne_of_gt ?_; walk_at "lt9") | exact Nat.ne_of_lt (Nat.lt_succ_self _) | exact Nat.ne_of_gt (Nat.lt_succ_self _) | (refine ne_up1 ?_; walk_at "lt9") | (refine ne_up2 ?_; walk_at "lt9") | (refine Ne.symm (ne_up1 ?_); walk_at "lt9") | (refine Ne.symm (ne_up2 ?_); walk_at "lt9"))
  trivial
-- Sm facts
theorem reg_68 : True := by
  k_with "eval Constant int" => (refine const_intN ?_)
  k_with "binaryOp Add int int" => (with_reducible refine add_intN ?_)
  k_with "binaryOp Sub int int" => (with_reducible refine sub_intN ?_)
  k_with "binaryOp Mult int int" => (with_reducible refine mul_intN ?_)
  k_with "binaryOp FloorDiv int int" => ((k_here; (with_reducible refine floordiv_intN ?feq439 ?_ (Sm.py ?fpq439)); (case feq439 => first | decide | omega | assumption); (case fpq439 => ktr_rel)))
  k_with "binaryOp LShift int int" => ((k_here; (with_reducible refine lshift_intN ?feq440 ?fpq440 ?_); (case feq440 => omega); (case fpq440 => exact Sm.shl (by ktr_rel) (by omega))))
  k_with "ite" => ((k_here; k_openite; k_spoken; first
  | (refine ite_pos (by ((try simp only [beq_iff_eq, bne_iff_ne, ne_eq, Bool.not_eq_true', beq_eq_false_iff_ne]); (try law_clear); (try subst_vars); first | assumption | exact decide_eq_true rfl | exact Int.not_le.mp (by assumption) | exact Int.not_lt.mp (by assumption) | (law_clear; omega))) ?_; walk_say "PRUNED own")
  | (refine ite_neg (by ((try simp only [beq_iff_eq, bne_iff_ne, ne_eq, Bool.not_eq_true', beq_eq_false_iff_ne]); (try law_clear); (try subst_vars); first | assumption | exact Int.not_le.mpr (by assumption) | exact Int.not_lt.mpr (by assumption) | (law_clear; omega))) ?_; walk_say "PRUNED own")))
  k_with "subscriptTail" => ((k_here; (with_reducible show wpAny _ _ (subscriptTail _ _ (Value.ref _) (Value.int _ _)) _ _ _); k_dflt (refine' item_tupleT ?tq442 ?aq442 ?bq442 ?cq442 ?dq442 ?_; (case tq442 => exact News.isTup (by k_asm) (by k_mem)); (case aq442 => decide); (case bq442 => decide); (case cq442 => rfl); (case dq442 => rfl); k_whole)))
  k_with "subscriptTail Name Constant ref int" => ((k_here; (with_reducible show wpAny _ _ (subscriptTail _ _ (Value.ref _) (Value.int _ _)) _ _ _); k_dflt (refine' item_tupleT ?tq443 ?aq443 ?bq443 ?cq443 ?dq443 ?_; (case tq443 => exact News.isTup (by k_asm) (by k_mem)); (case aq443 => decide); (case bq443 => decide); (case cq443 => rfl); (case dq443 => rfl); k_whole)))
  k_with "callWith ref" => ((k_here; k_dflt (refine' callWith_K ?k1q444 ?k2q444 ?_; (case k1q444 => k_asm); (case k2q444 => k_is); k_whole)))
  k_with "call builtin:divmod" => ((k_here; (with_reducible show wpAny _ _ (call (Value.builtin _) [Value.int _ _, Value.int _ _]) _ _ _); k_dflt (refine' divmod_N ?k1q445 ?k2q445 ?feq445 ?_ (Or.inl (Sm.py ?fpq445)); (case k1q445 => k_asm); (case k2q445 => k_asm); (case feq445 => first | omega | exact Int.ne_of_gt (Int.mul_pos (by omega) (pow2_pos _))); (case fpq445 => ktr_rel)); intro h' F' N'; (try k_sweep)))
  k_with "call builtin:max" => ((k_here; (with_reducible show wpAny _ _ (call (Value.builtin _) [Value.ref _]) _ _ _); k_dflt (first
  | (refine' max_tup ?k0q446 ?k1q446 ?k2q446 ?k3q446 ?_; (case k0q446 => exact rfl); (case k1q446 => k_asm); (case k2q446 => k_asm); (case k3q446 => exact News.isTup (by k_asm) (by k_mem)))
  | (refine' max_list4 ?k0q446 ?k1q446 ?k2q446 ?k3q446 ?_; (case k0q446 => exact rfl); (case k1q446 => k_asm); (case k2q446 => k_asm); (case k3q446 => exact News.isList (by k_asm) (by k_mem)))); k_whole; intro h' r' tk' F' N'; (try k_sweep)))
  k_with "call builtin:min" => ((k_here; (with_reducible show wpAny _ _ (call (Value.builtin _) [Value.ref _]) _ _ _); k_dflt (first
  | (refine' min_tup ?k0q447 ?k1q447 ?k2q447 ?k3q447 ?_; (case k0q447 => exact rfl); (case k1q447 => k_asm); (case k2q447 => k_asm); (case k3q447 => exact News.isTup (by k_asm) (by k_mem)))
  | (refine' min_list4 ?k0q447 ?k1q447 ?k2q447 ?k3q447 ?_; (case k0q447 => exact rfl); (case k1q447 => k_asm); (case k2q447 => k_asm); (case k3q447 => exact News.isList (by k_asm) (by k_mem)))); k_whole; intro h' r' tk' F' N'; (try k_sweep)))
  k_with "newTuple" => ((k_here; k_dflt (refine' newTupL ?Fq448 ?Nq448 ?_ ?zq448; (case Fq448 => k_asm); (case Nq448 => k_asm); (case zq448 => kmk_size)); intro D' h' F' N' l1; (try (replace l1 := allLt_of l1; dsimp only [AllLt] at l1)); (try k_sweep)))
  k_with "callWith ref" => ((k_here; k_dflt (refine' callWith_F0 ?k1q449 ?_; (case k1q449 => exact FnAt.of (by k_asm) (by k_mem)); k_whole; try dsimp only [List.nil_append, List.cons_append])))
  k_with "call ref" => ((k_here; (with_reducible rename Throws _ _ _ _ _ _ _ _ _ _ _ => hcX); k_dflt (refine' hcX _ _ _ _ _ _ _ _ _ _ _ _ _ ?k1q450 ?k2q450 ?k3q450 ?k4q450 ?k5q450 ?kKq450 ?kdq450 ?kuq450 ?_; (case k1q450 => k_asm); (case k2q450 => k_asm); (case k3q450 => k_asm); (case k4q450 => k_asm); (case k5q450 => k_asm); (case kKq450 => first | exact rfl | assumption); (case kdq450 => ktr_room); (case kuq450 => ktr_units); k_whole); intro g9 e9 h9 tk9 F9 R9 U9; (try dsimp only)))
  trivial
section
variable {w : World} {loose : List Str} {mean : ExcName → Option Value} {mg mb : Str → Option Value}
  {dp un : Nat} {gd : Option (List Code)} {cn : Str} {cs : Scope} {a : Addr} {ccd : Value} {cl : List (Str × Addr)} {outer : List Env} {A₀ : Around} {base h₀ : Heap} {L : Addr} {m : Str → Option Value} {news : List (Addr × Obj)} {s : Shared} {Q E : Value → Shared → Prop}

theorem law_refused_domain_c {f : Addr} {nm ql : Str} {prm : Arguments} {bd : Expr} {scp : Scope} {cls : List (Str × Addr)} {pm : Value} {cf : Addr} {ctf : Value}
  (B : Below A₀ base [] h₀) (F : Fr h₀ L s.heap m) (X : (hd.heap_1 w.params).In h₀) (N : News h₀ L s.heap news) (T : Top topProg loose mean mg mb h₀) (hk : cs.kind = .function)
  (XB : (hd.heap_1 w.params).In base) (TB : Top topProg loose mean mg mb base) (hdp : dp + 45 < recursionLimit) (hun : un + 600 < cLine)
  (Mf : (f, kla_obj nm ql prm bd scp cls pm cf ctf) ∈ news) (hcall : Throws w loose mean mg mb gd base (envX cn cs L a ccd cl) news 70 f)
  (hret : ∀ t h' tk', Fr h₀ L h' m → News h₀ L h' news → Q (.str "domain" t) { s with heap := h', toks := tk' }) :
  wpAny (model Challenge.rw_nt0168_01.row.prog w) (ktrTop dp un gd cn cs L a ccd cl []) (call (.ref 367) [.ref f]) Q E s := by
  refine wpAny_call ?_
  k_dflt (refine' code_defT ?k1 ?k2 ?k3 ?k4 ?k5 ?kA ?kF ?kK ?k6 ?k7 ?k8 ?k9 ?kB ?_ ?c2 ?c3 ?c4 ?c5; (case kA => exact rfl); (case kF => exact rfl); (case kK => first | exact rfl | assumption); (case k1 => k_asm); (case k2 => k_asm); (case k3 => k_asm); (case k4 => k_asm); (case k5 => k_asm); (case k6 => k_is); (case k7 => k_is); (case k8 => ktr_room); (case k9 => exact BindsTo.of_eq rfl); (case c5 => decide); (case kB => exact locs rfl); (case c2 => exact rfl); (case c3 => exact rfl); (case c4 => exact rfl); k_whole; intro g' L' h' FG' F' N' B' X' T' D'; (try dsimp only); (try k_fold))
  k_steps
  exact hret _ _ _ (by assumption) (by k_asm)

theorem law_refused_range_c {f : Addr} {nm ql : Str} {prm : Arguments} {bd : Expr} {scp : Scope} {cls : List (Str × Addr)} {pm : Value} {cf : Addr} {ctf : Value}
  (B : Below A₀ base [] h₀) (F : Fr h₀ L s.heap m) (X : (hd.heap_1 w.params).In h₀) (N : News h₀ L s.heap news) (T : Top topProg loose mean mg mb h₀) (hk : cs.kind = .function)
  (XB : (hd.heap_1 w.params).In base) (TB : Top topProg loose mean mg mb base) (hdp : dp + 45 < recursionLimit) (hun : un + 600 < cLine)
  (Mf : (f, kla_obj nm ql prm bd scp cls pm cf ctf) ∈ news) (hcall : Throws w loose mean mg mb gd base (envX cn cs L a ccd cl) news 51 f)
  (hret : ∀ t h' tk', Fr h₀ L h' m → News h₀ L h' news → Q (.str "range" t) { s with heap := h', toks := tk' }) :
  wpAny (model Challenge.rw_nt0168_01.row.prog w) (ktrTop dp un gd cn cs L a ccd cl []) (call (.ref 367) [.ref f]) Q E s := by
  refine wpAny_call ?_
  k_dflt (refine' code_defT ?k1 ?k2 ?k3 ?k4 ?k5 ?kA ?kF ?kK ?k6 ?k7 ?k8 ?k9 ?kB ?_ ?c2 ?c3 ?c4 ?c5; (case kA => exact rfl); (case kF => exact rfl); (case kK => first | exact rfl | assumption); (case k1 => k_asm); (case k2 => k_asm); (case k3 => k_asm); (case k4 => k_asm); (case k5 => k_asm); (case k6 => k_is); (case k7 => k_is); (case k8 => ktr_room); (case k9 => exact BindsTo.of_eq rfl); (case c5 => decide); (case kB => exact locs rfl); (case c2 => exact rfl); (case c3 => exact rfl); (case c4 => exact rfl); k_whole; intro g' L' h' FG' F' N' B' X' T' D'; (try dsimp only); (try k_fold))
  k_steps
  exact hret _ _ _ (by assumption) (by k_asm)
end
end
section
open PySem PySem.W PySem.Spec PySem.Calls PyProof.Rows
set_option Elab.async false
set_option maxRecDepth 100000
set_option maxHeartbeats 0
theorem reg_69 : True := by
  k_with_none
  k_with "lt9" => (first | with_reducible assumption | (refine ltc (by with_reducible assumption) ?_; first | exact pj1 | exact pj2 | exact pj3 | exact pj4 | exact pj5 | exact pj6 | exact pj7 | exact pj8 | exact pj9 | exact pj10 | exact pj11 | exact pj12 | exact pj13 | exact pj14 | exact qj1 | exact qj2 | exact qj3 | exact qj4 | exact qj5 | exact qj6 | exact qj7 | exact qj8 | exact qj9 | exact qj10 | exact qj11 | exact qj12 | exact qj13 | exact qj14))
  k_with "ne9" => (first | decide | (refine Nat.ne_of_lt ?_; walk_at "lt9") | (refine Nat.ne_of_gt ?_; walk_at "lt9") | exact Nat.ne_of_lt (Nat.lt_succ_self _) | exact Nat.ne_of_gt (Nat.lt_succ_self _) | (refine ne_up1 ?_; walk_at "lt9") | (refine ne_up2 ?_; walk_at "lt9") | (refine Ne.symm (ne_up1 ?_); walk_at "lt9") | (refine Ne.symm (ne_up2 ?_); walk_at "lt9"))
  trivial
-- Sm facts
theorem reg_70 : True := by
  k_with "eval Constant int" => (refine const_intN ?_)
  k_with "binaryOp Add int int" => (with_reducible refine add_intN ?_)
  k_with "binaryOp Sub int int" => (with_reducible refine sub_intN ?_)
  k_with "binaryOp Mult int int" => (with_reducible refine mul_intN ?_)
  k_with "binaryOp FloorDiv int int" => ((k_here; (with_reducible refine floordiv_intN ?feq457 ?_ (Sm.py ?fpq457)); (case feq457 => first | decide | omega | assumption); (case fpq457 => ktr_rel)))
  k_with "binaryOp LShift int int" => ((k_here; (with_reducible refine lshift_intN ?feq458 ?fpq458 ?_); (case feq458 => omega); (case fpq458 => exact Sm.shl (by ktr_rel) (by omega))))
  k_with "ite" => ((k_here; k_openite; k_spoken; first
  | (refine ite_pos (by ((try simp only [beq_iff_eq, bne_iff_ne, ne_eq, Bool.not_eq_true', beq_eq_false_iff_ne]); (try law_clear); (try subst_vars); first | assumption | exact decide_eq_true rfl | exact Int.not_le.mp (by assumption) | exact Int.not_lt.mp (by assumption) | (law_clear; omega))) ?_; walk_say "PRUNED own")
  | (refine ite_neg (by ((try simp only [beq_iff_eq, bne_iff_ne, ne_eq, Bool.not_eq_true', beq_eq_false_iff_ne]); (try law_clear); (try subst_vars); first | assumption | exact Int.not_le.mpr (by assumption) | exact Int.not_lt.mpr (by assumption) | (law_clear; omega))) ?_; walk_say "PRUNED own")))
  k_with "subscriptTail" => ((k_here; (with_reducible show wpAny _ _ (subscriptTail _ _ (Value.ref _) (Value.int _ _)) _ _ _); k_dflt (refine' item_tupleT ?tq460 ?aq460 ?bq460 ?cq460 ?dq460 ?_; (case tq460 => exact News.isTup (by k_asm) (by k_mem)); (case aq460 => decide); (case bq460 => decide); (case cq460 => rfl); (case dq460 => rfl); k_whole)))
  k_with "subscriptTail Name Constant ref int" => ((k_here; (with_reducible show wpAny _ _ (subscriptTail _ _ (Value.ref _) (Value.int _ _)) _ _ _); k_dflt (refine' item_tupleT ?tq461 ?aq461 ?bq461 ?cq461 ?dq461 ?_; (case tq461 => exact News.isTup (by k_asm) (by k_mem)); (case aq461 => decide); (case bq461 => decide); (case cq461 => rfl); (case dq461 => rfl); k_whole)))
  k_with "callWith ref" => ((k_here; k_dflt (refine' callWith_K ?k1q462 ?k2q462 ?_; (case k1q462 => k_asm); (case k2q462 => k_is); k_whole)))
  k_with "call builtin:divmod" => ((k_here; (with_reducible show wpAny _ _ (call (Value.builtin _) [Value.int _ _, Value.int _ _]) _ _ _); k_dflt (refine' divmod_N ?k1q463 ?k2q463 ?feq463 ?_ (Or.inl (Sm.py ?fpq463)); (case k1q463 => k_asm); (case k2q463 => k_asm); (case feq463 => first | omega | exact Int.ne_of_gt (Int.mul_pos (by omega) (pow2_pos _))); (case fpq463 => ktr_rel)); intro h' F' N'; (try k_sweep)))
  k_with "call builtin:max" => ((k_here; (with_reducible show wpAny _ _ (call (Value.builtin _) [Value.ref _]) _ _ _); k_dflt (first
  | (refine' max_tup ?k0q464 ?k1q464 ?k2q464 ?k3q464 ?_; (case k0q464 => exact rfl); (case k1q464 => k_asm); (case k2q464 => k_asm); (case k3q464 => exact News.isTup (by k_asm) (by k_mem)))
  | (refine' max_list4 ?k0q464 ?k1q464 ?k2q464 ?k3q464 ?_; (case k0q464 => exact rfl); (case k1q464 => k_asm); (case k2q464 => k_asm); (case k3q464 => exact News.isList (by k_asm) (by k_mem)))); k_whole; intro h' r' tk' F' N'; (try k_sweep)))
  k_with "call builtin:min" => ((k_here; (with_reducible show wpAny _ _ (call (Value.builtin _) [Value.ref _]) _ _ _); k_dflt (first
  | (refine' min_tup ?k0q465 ?k1q465 ?k2q465 ?k3q465 ?_; (case k0q465 => exact rfl); (case k1q465 => k_asm); (case k2q465 => k_asm); (case k3q465 => exact News.isTup (by k_asm) (by k_mem)))
  | (refine' min_list4 ?k0q465 ?k1q465 ?k2q465 ?k3q465 ?_; (case k0q465 => exact rfl); (case k1q465 => k_asm); (case k2q465 => k_asm); (case k3q465 => exact News.isList (by k_asm) (by k_mem)))); k_whole; intro h' r' tk' F' N'; (try k_sweep)))
  k_with "newTuple" => ((k_here; k_dflt (refine' newTupL ?Fq466 ?Nq466 ?_ ?zq466; (case Fq466 => k_asm); (case Nq466 => k_asm); (case zq466 => kmk_size)); intro D' h' F' N' l1; (try (replace l1 := allLt_of l1; dsimp only [AllLt] at l1)); (try k_sweep)))
  k_with "storeName" => ((k_here; k_dflt (refine' storeX_S (by k_asm) (by k_asm) rfl (by k_mem) (by assumption) (by repeat' (first | exact Sift.all (by assumption) | exact Sift.all (allLt_ne (And.right (And.right ‹_ ∧ _ ∧ AllLt _ _›)) (by omega)) | exact Sift.all (ltAll (by assumption) (by omega)) | (apply Sift.keep; (case h => first | (refine neN ?_; first | walk_at "ne9" | omega) | exact newsNe (by assumption) (by k_mem) (by k_mem) (by assumption) (by intro _ e; cases e) | (refine' newsNeC ?nNq467 ?nAq467 ?nBq467 ?nCq467; (case nNq467 => assumption); (case nAq467 => k_mem); (case nBq467 => k_mem); (case nCq467 => first | (intro e; cases e; done) | (intro e; exact absurd (Value.type.inj e) (by decide)))) | (refine' codeNe ?nNq467 ?nAq467 ?nBq467 ?nDq467 ?nPq467 ?nGq467; (case nNq467 => assumption); (case nGq467 => assumption); (case nAq467 => k_mem); (case nBq467 => k_mem); (case nDq467 => assumption); (case nPq467 => k_mem)))) | apply Sift.drop)) ?_ rfl rfl; k_whole); intro h' o' F' N' d1'; (try dsimp only)))
  k_with "exec FunctionDef" => ((k_here; k_dflt (refine' nestDef_K ?d0q468 ?k0q468 ?a0q468 ?_; (case d0q468 => exact rfl); (case k0q468 => exact rfl); (case a0q468 => exact rfl)); k_dflt (refine' nest_S (by k_asm) (by k_asm) (by k_asm) (by first | assumption | exact CodeHd.keeps (by assumption) (Fr.keep (by assumption))) rfl (by assumption) (by k_mem) (by k_mem) (by repeat' (first | exact Sift.all (by assumption) | exact Sift.all (allLt_ne (And.right (And.right ‹_ ∧ _ ∧ AllLt _ _›)) (by omega)) | exact Sift.all (ltAll (by assumption) (by omega)) | (apply Sift.keep; (case h => first | (refine neN ?_; first | walk_at "ne9" | omega) | exact newsNe (by assumption) (by k_mem) (by k_mem) (by assumption) (by intro _ e; cases e) | (refine' newsNeC ?nNq468 ?nAq468 ?nBq468 ?nCq468; (case nNq468 => assumption); (case nAq468 => k_mem); (case nBq468 => k_mem); (case nCq468 => first | (intro e; cases e; done) | (intro e; exact absurd (Value.type.inj e) (by decide)))) | (refine' codeNe ?nNq468 ?nAq468 ?nBq468 ?nDq468 ?nPq468 ?nGq468; (case nNq468 => assumption); (case nGq468 => assumption); (case nAq468 => k_mem); (case nBq468 => k_mem); (case nDq468 => assumption); (case nPq468 => k_mem)))) | apply Sift.drop)) (by intro c9; kn_triples) (by intro c9; kn_hit) rfl ?_; k_whole); intro f' c' oc' doc' ct' h' tk' F' N' ok'; (have ok2' := ok'); (obtain ⟨vs', t', d1', d2'⟩ := ok2'); (try dsimp only at N')))
  k_with "eval Lambda" => ((k_here; k_dflt (refine' kla_eval ?d0q469 ?_; (case d0q469 => exact rfl)); k_dflt (refine' lam_S (by k_asm) (by k_asm) (by k_asm) (by first | assumption | exact CodeHd.keeps (by assumption) (Fr.keep (by assumption))) rfl (by assumption) (by k_mem) (by k_mem) (by repeat' (first | exact Sift.all (by assumption) | exact Sift.all (allLt_ne (And.right (And.right ‹_ ∧ _ ∧ AllLt _ _›)) (by omega)) | exact Sift.all (ltAll (by assumption) (by omega)) | (apply Sift.keep; (case h => first | (refine neN ?_; first | walk_at "ne9" | omega) | exact newsNe (by assumption) (by k_mem) (by k_mem) (by assumption) (by intro _ e; cases e) | (refine' newsNeC ?nNq469 ?nAq469 ?nBq469 ?nCq469; (case nNq469 => assumption); (case nAq469 => k_mem); (case nBq469 => k_mem); (case nCq469 => first | (intro e; cases e; done) | (intro e; exact absurd (Value.type.inj e) (by decide)))) | (refine' codeNe ?nNq469 ?nAq469 ?nBq469 ?nDq469 ?nPq469 ?nGq469; (case nNq469 => assumption); (case nGq469 => assumption); (case nAq469 => k_mem); (case nBq469 => k_mem); (case nDq469 => assumption); (case nPq469 => k_mem)))) | apply Sift.drop)) (by intro c9; kn_triples) (by intro c9; kn_hit) rfl ?_; k_whole); intro f' c' oc' ct' h' tk' F' N' ok'; (have ok2' := ok'); (obtain ⟨vs', t', d1', d2'⟩ := ok2'); (try dsimp only at N')))
  k_with "OnceB" => ((dsimp only [OnceB]))
  k_with "call ref" => ((k_here; (with_reducible show wpAny _ _ (call (Value.ref 282) _ _) _ _ _); k_dflt (refine wpAny_call ?_; ktr_enter)))
  k_with "CompEnd" => ((k_dflt (first
  | (refine' compEnd_1 ?Fq472 ?Nq472 ?offq472 ?hrq472 ?hSq472 ?_; (case Fq472 => k_asm); (case Nq472 => assumption); (case offq472 => assumption); (case hrq472 => (refine ⟨?_, ?_, ?_⟩ <;> first | walk_at "lt9" | omega)); (case hSq472 => exact Or.inr ⟨_, by k_mem, rfl, _, rfl⟩))
  | (refine' compEnd_0 ?Fq472 ?Nq472 ?offq472 ?hSq472 ?_; (case Fq472 => k_asm); (case Nq472 => assumption); (case offq472 => assumption); (case hSq472 => exact Or.inr ⟨_, by k_mem, rfl, _, rfl⟩)))))
  k_with "CompSrc" => ((k_here; k_dflt (refine LCg.CompSrc.ledger (by rfl) (by k_asm) (by k_asm) (by k_mem) (by first | size_fits | exact Nat.le_of_ble_eq_true rfl) ?_; intro g'; lcg_lit)))
  k_with "eval ListComp" => ((k_here; lcf_look; k_dflt (refine LCg.ListComp_U (F₀ := by k_asm) (by with_unfolding_all rfl) (by decide) (by rfl) (by decide) (by rfl) ?_); k_dflt lcg_toSrc))
  k_with "call ref" => ((k_here; (with_reducible show wpAny _ _ (call (Value.ref 89) _ _) _ _ _); k_dflt (refine' real_c ?k1q475 ?k2q475 ?k3q475 ?k4q475 ?k5q475 ?kKq475 ?kdq475 ?kuq475   ?_; (case k1q475 => k_asm); (case k2q475 => k_asm); (case k3q475 => k_asm); (case k4q475 => k_asm); (case k5q475 => k_asm); (case kKq475 => first | exact rfl | assumption); (case kdq475 => ktr_room); (case kuq475 => ktr_units); k_whole); intro r9 d9 z9 y9 j9 t9 i9 u9 h9 tk9 e9 f9 F9 N9; (try k_sweep); (try dsimp only); (try k_fold); skip))
  k_with "call ref" => ((k_here; (with_reducible show wpAny _ _ (call (Value.ref 296) _ _) _ _ _); k_dflt (refine' exp_real_c ?k1q476 ?k2q476 ?k3q476 (newsTab ?n1q476 ?n2q476 ?n3q476 ?sfq476) ?k5q476 ?kKq476 ?kdq476 ?kuq476 ?m0q476 ?m1q476 ?p0q476 ?p1q476 (Sift.ne ?sfq476) ?p3q476 ?p4q476 ?p5q476 ?_; (case k1q476 => k_asm); (case k2q476 => k_asm); (case k3q476 => k_asm); (case p1q476 => assumption); (case n1q476 => k_asm); (case n2q476 => k_mem); (case n3q476 => k_mem); (case sfq476 => repeat' (first | exact Sift.all (by assumption) | exact Sift.all (allLt_ne (And.right (And.right ‹_ ∧ _ ∧ AllLt _ _›)) (by omega)) | exact Sift.all (ltAll (by assumption) (by omega)) | (apply Sift.keep; (case h => first | (refine neN ?_; first | walk_at "ne9" | omega) | exact newsNe (by assumption) (by k_mem) (by k_mem) (by assumption) (by intro _ e; cases e) | (refine' newsNeC ?nNq476 ?nAq476 ?nBq476 ?nCq476; (case nNq476 => assumption); (case nAq476 => k_mem); (case nBq476 => k_mem); (case nCq476 => first | (intro e; cases e; done) | (intro e; exact absurd (Value.type.inj e) (by decide)))) | (refine' codeNe ?nNq476 ?nAq476 ?nBq476 ?nDq476 ?nPq476 ?nGq476; (case nNq476 => assumption); (case nGq476 => assumption); (case nAq476 => k_mem); (case nBq476 => k_mem); (case nDq476 => assumption); (case nPq476 => k_mem)))) | apply Sift.drop)); (case k5q476 => k_asm); (case kKq476 => first | exact rfl | assumption); (case kdq476 => ktr_room); (case kuq476 => ktr_units); (case m0q476 => k_mem); (case m1q476 => k_mem); (case p0q476 => first | assumption | exact CodeHd.keeps (by assumption) (Fr.keep (by assumption))); (case p3q476 => first | with_reducible assumption | omega); (case p4q476 => first | with_reducible assumption | omega); (case p5q476 => first | with_reducible assumption | k_dflt (have hq := (‹expF _ _ _ = some _›); refine Eq.trans ?_ hq; law_clear; subst_vars; exact rfl) | kwd_less); k_whole); intro r9 d9 z9 y9 j9 t9 i9 u9 q9 c9 o9 h9 tk9 e9 f9 ok9 F9 N9; (obtain ⟨c8, o8, ok8, gc8, N8⟩ := tabNorm ok9 N9); clear ok9 N9; (try k_sweep); (try dsimp only); (try k_fold); skip))
  k_with "call ref" => ((k_here; (with_reducible show wpAny _ _ (call (Value.ref 331) _ _) _ _ _); k_dflt (refine' law_fraction_c ?k1q477 ?k2q477 ?k3q477 ?k4q477 ?k5q477 ?kKq477 ?kdq477 ?kuq477  ?p0q477 ?p1q477 ?p2q477 ?_; (case k1q477 => k_asm); (case k2q477 => k_asm); (case k3q477 => k_asm); (case k4q477 => k_asm); (case k5q477 => k_asm); (case kKq477 => first | exact rfl | assumption); (case kdq477 => ktr_room); (case kuq477 => ktr_units); (case p0q477 => ktr_rel); (case p1q477 => first | with_reducible assumption | omega); (case p2q477 => first | with_reducible assumption | omega); k_whole); intro r9 z9 y9 t9 u9 h9 tk9 e9 f9 F9 N9; (try k_sweep); (try dsimp only); (try k_fold); skip))
  k_with "call ref" => ((k_here; (with_reducible show wpAny _ _ (call (Value.ref 336) _ _) _ _ _); k_dflt (refine' law_middles_c ?k1q478 ?k2q478 ?k3q478 ?k4q478 ?k5q478 ?kKq478 ?kdq478 ?kuq478 ?m0q478 ?m1q478 ?p0q478 ?p1q478 ?p2q478 ?_; (case k1q478 => k_asm); (case k2q478 => k_asm); (case k3q478 => k_asm); (case k4q478 => k_asm); (case k5q478 => k_asm); (case kKq478 => first | exact rfl | assumption); (case kdq478 => ktr_room); (case kuq478 => ktr_units); (case m0q478 => k_mem); (case m1q478 => k_mem); (case p0q478 => first | with_reducible assumption | omega); (case p1q478 => first | with_reducible assumption | omega); (case p2q478 => first | with_reducible assumption | k_dflt (have hq := (‹midF _ _ _ = some _›); refine Eq.trans ?_ hq; law_clear; subst_vars; exact rfl) | kwd_less); k_whole); intro r9 p9 q9 z9 y9 x9 w9 t9 u9 j9 k9 h9 tk9 e9 f9 c9 d9 F9 N9; (try k_sweep); (try dsimp only); (try k_fold); skip))
  k_with "call ref" => ((k_here; (with_reducible show wpAny _ _ (call (Value.ref 350) _ _) _ _ _); k_dflt (refine' law_side_c ?k1q479 ?k2q479 ?k3q479 ?k4q479 ?k5q479 ?kKq479 ?kdq479 ?kuq479 ?m0q479 ?m1q479 ?p0q479 ?_; (case k1q479 => k_asm); (case k2q479 => k_asm); (case k3q479 => k_asm); (case k4q479 => k_asm); (case k5q479 => k_asm); (case kKq479 => first | exact rfl | assumption); (case kdq479 => ktr_room); (case kuq479 => ktr_units); (case m0q479 => k_mem); (case m1q479 => k_mem); (case p0q479 => first | with_reducible assumption | k_dflt (have hq := (‹sideF _ _ = some 1›); refine Eq.trans ?_ hq; law_clear; subst_vars; with_reducible rfl) | k_dflt (have hq := (‹sideF _ _ = some (-1)›); refine Eq.trans ?_ hq; law_clear; subst_vars; with_reducible rfl) | kwd_less); k_whole); intro z9 t9 h9 tk9 e9 F9 N9; (try k_sweep); (try dsimp only); (try k_fold); skip))
  trivial
section
variable {w : World} {loose : List Str} {mean : ExcName → Option Value} {mg mb : Str → Option Value}
  {dp un : Nat} {gd : Option (List Code)} {cn : Str} {cs : Scope} {a : Addr} {ccd : Value} {cl : List (Str × Addr)} {outer : List Env} {A₀ : Around} {base h₀ : Heap} {L : Addr} {m : Str → Option Value} {news : List (Addr × Obj)} {s : Shared} {Q E : Value → Shared → Prop}

theorem law_is_exp_right_c {p : Int} {t9 : Tok} {x1 y1 : Int} {t1 u1 : Tok} {a1 : Addr} {ps : Array Value} {c1 : Addr} {o1 : Obj}
  (B : Below A₀ base outer h₀) (F : Fr h₀ L s.heap m) (X : (hd.heap_1 w.params).In h₀) (N : News h₀ L s.heap ((291, tabObj ps) :: (c1, o1) :: news)) (T : Top topProg loose mean mg mb h₀) (hk : cs.kind = .function)
  (hdp : dp + 30 < recursionLimit) (hun : un + 400 < cLine)
  (Ma1 : (a1, tupO x1 t1 y1 u1) ∈ news) (hC : CodeHd h₀ 295 291) (ok : TabOk posE qualE ps c1 o1) (hne : ∀ q ∈ news, q.1 ≠ 291) (h0 : 1 ≤ p) (h1 : p < 100) (b1 : Sm x1) (b2 : -1000 ≤ y1) (b3 : y1 ≤ 1000) (hv : isExp p x1 y1 = true)
  (hret : ∀ ps' c' oc' h' tk', TabOk posE qualE ps' c' oc' → (c' = 291 ∨ CodeNm qualE oc') → Fr h₀ L h' m → News h₀ L h' ((291, tabObj ps') :: (c', oc') :: news) → Q (.bool true) { s with heap := h', toks := tk' }) :
  wpAny (model Challenge.rw_nt0168_01.row.prog w) (ktrTop dp un gd cn cs L a ccd cl outer) (call (.ref 355) [.int p t9, .ref a1]) Q E s := by
  obtain ⟨⟨r1, r2⟩, m1, m2, hv1, hv2, hv3, hv4⟩ := isExp_parts hv
  dsimp only at hv2
  refine wpAny_call ?_
  k_dflt (refine' code_defC ?k1 ?k2 ?k3 ?k4 ?k5 ?kA ?kF ?kK ?k6 ?k7 ?k8 ?k9 ?kB ?kD ?_ ?c2 ?c3 ?c4; (case kA => exact rfl); (case kF => exact rfl); (case kK => assumption); (case k1 => k_asm); (case k2 => k_asm); (case k3 => k_asm); (case k4 => k_asm); (case k5 => k_asm); (case k6 => k_is); (case k7 => k_is); (case k8 => ktr_room); (case k9 => exact BindsTo.of_eq rfl); (case kB => exact rfl); (case kD => decide +kernel); (case c2 => exact rfl); (case c3 => exact rfl); (case c4 => exact rfl); k_whole; intro g' L' h' tk' cells' FG' F' N' Y' B' X' T' l1; (try (replace l1 := allLt_of l1; dsimp only [AllLt] at l1)); k_cells Y'; (try simp only [List.cons_append, List.nil_append] at N'); (try dsimp only); (try k_lift B'); (try k_fold))
  k_steps
  all_goals (refine retTB hret (by assumption) (by k_asm) (by assumption) (by k_mem) (by k_mem) (by first | ((repeat (first | exact sub_refl | refine sub_cons ?_)); done) | (intro p hp; first | exact hp | (repeat (first | exact hp | refine List.mem_cons_of_mem _ ?_)))) ?_)
  all_goals ((try law_clear); subst_vars; rfl)
end
end
section
open PySem PySem.W PySem.Spec PySem.Calls PyProof.Rows
set_option Elab.async false
set_option maxRecDepth 100000
set_option maxHeartbeats 0
theorem reg_71 : True := by
  k_with_none
  k_with "lt9" => (first | with_reducible assumption | (refine ltc (by with_reducible assumption) ?_; first | exact pj1 | exact pj2 | exact pj3 | exact pj4 | exact pj5 | exact pj6 | exact pj7 | exact pj8 | exact pj9 | exact pj10 | exact pj11 | exact pj12 | exact pj13 | exact pj14 | exact qj1 | exact qj2 | exact qj3 | exact qj4 | exact qj5 | exact qj6 | exact qj7 | exact qj8 | exact qj9 | exact qj10 | exact qj11 | exact qj12 | exact qj13 | exact qj14))
  k_with "ne9" => (first | decide | (refine Nat.ne_of_lt ?_; walk_at "lt9") | (refine Nat.ne_of_gt ?_; walk_at "lt9") | exact Nat.ne_of_lt (Nat.lt_succ_self _) | exact Nat.ne_of_gt (Nat.lt_succ_self _) | (refine ne_up1 ?_; walk_at "lt9") | (refine ne_up2 ?_; walk_at "lt9") | (refine Ne.symm (ne_up1 ?_); walk_at "lt9") | (refine Ne.symm (ne_up2 ?_); walk_at "lt9"))
  trivial
-- Sm facts
theorem reg_72 : True := by
  k_with "eval Constant int" => (refine const_intN ?_)
  k_with "binaryOp Add int int" => (with_reducible refine add_intN ?_)
  k_with "binaryOp Sub int int" => (with_reducible refine sub_intN ?_)
  k_with "binaryOp Mult int int" => (with_reducible refine mul_intN ?_)
  k_with "binaryOp FloorDiv int int" => ((k_here; (with_reducible refine floordiv_intN ?feq486 ?_ (Sm.py ?fpq486)); (case feq486 => first | decide | omega | assumption); (case fpq486 => ktr_rel)))
  k_with "binaryOp LShift int int" => ((k_here; (with_reducible refine lshift_intN ?feq487 ?fpq487 ?_); (case feq487 => omega); (case fpq487 => exact Sm.shl (by ktr_rel) (by omega))))
  k_with "ite" => ((k_here; k_openite; k_spoken; first
  | (refine ite_pos (by ((try simp only [beq_iff_eq, bne_iff_ne, ne_eq, Bool.not_eq_true', beq_eq_false_iff_ne]); (try law_clear); (try subst_vars); first | assumption | exact decide_eq_true rfl | exact Int.not_le.mp (by assumption) | exact Int.not_lt.mp (by assumption) | (law_clear; omega))) ?_; walk_say "PRUNED own")
  | (refine ite_neg (by ((try simp only [beq_iff_eq, bne_iff_ne, ne_eq, Bool.not_eq_true', beq_eq_false_iff_ne]); (try law_clear); (try subst_vars); first | assumption | exact Int.not_le.mpr (by assumption) | exact Int.not_lt.mpr (by assumption) | (law_clear; omega))) ?_; walk_say "PRUNED own")))
  k_with "subscriptTail" => ((k_here; (with_reducible show wpAny _ _ (subscriptTail _ _ (Value.ref _) (Value.int _ _)) _ _ _); k_dflt (refine' item_tupleT ?tq489 ?aq489 ?bq489 ?cq489 ?dq489 ?_; (case tq489 => exact News.isTup (by k_asm) (by k_mem)); (case aq489 => decide); (case bq489 => decide); (case cq489 => rfl); (case dq489 => rfl); k_whole)))
  k_with "subscriptTail Name Constant ref int" => ((k_here; (with_reducible show wpAny _ _ (subscriptTail _ _ (Value.ref _) (Value.int _ _)) _ _ _); k_dflt (refine' item_tupleT ?tq490 ?aq490 ?bq490 ?cq490 ?dq490 ?_; (case tq490 => exact News.isTup (by k_asm) (by k_mem)); (case aq490 => decide); (case bq490 => decide); (case cq490 => rfl); (case dq490 => rfl); k_whole)))
  k_with "callWith ref" => ((k_here; k_dflt (refine' callWith_K ?k1q491 ?k2q491 ?_; (case k1q491 => k_asm); (case k2q491 => k_is); k_whole)))
  k_with "call builtin:divmod" => ((k_here; (with_reducible show wpAny _ _ (call (Value.builtin _) [Value.int _ _, Value.int _ _]) _ _ _); k_dflt (refine' divmod_N ?k1q492 ?k2q492 ?feq492 ?_ (Or.inl (Sm.py ?fpq492)); (case k1q492 => k_asm); (case k2q492 => k_asm); (case feq492 => first | omega | exact Int.ne_of_gt (Int.mul_pos (by omega) (pow2_pos _))); (case fpq492 => ktr_rel)); intro h' F' N'; (try k_sweep)))
  k_with "call builtin:max" => ((k_here; (with_reducible show wpAny _ _ (call (Value.builtin _) [Value.ref _]) _ _ _); k_dflt (first
  | (refine' max_tup ?k0q493 ?k1q493 ?k2q493 ?k3q493 ?_; (case k0q493 => exact rfl); (case k1q493 => k_asm); (case k2q493 => k_asm); (case k3q493 => exact News.isTup (by k_asm) (by k_mem)))
  | (refine' max_list4 ?k0q493 ?k1q493 ?k2q493 ?k3q493 ?_; (case k0q493 => exact rfl); (case k1q493 => k_asm); (case k2q493 => k_asm); (case k3q493 => exact News.isList (by k_asm) (by k_mem)))); k_whole; intro h' r' tk' F' N'; (try k_sweep)))
  k_with "call builtin:min" => ((k_here; (with_reducible show wpAny _ _ (call (Value.builtin _) [Value.ref _]) _ _ _); k_dflt (first
  | (refine' min_tup ?k0q494 ?k1q494 ?k2q494 ?k3q494 ?_; (case k0q494 => exact rfl); (case k1q494 => k_asm); (case k2q494 => k_asm); (case k3q494 => exact News.isTup (by k_asm) (by k_mem)))
  | (refine' min_list4 ?k0q494 ?k1q494 ?k2q494 ?k3q494 ?_; (case k0q494 => exact rfl); (case k1q494 => k_asm); (case k2q494 => k_asm); (case k3q494 => exact News.isList (by k_asm) (by k_mem)))); k_whole; intro h' r' tk' F' N'; (try k_sweep)))
  k_with "newTuple" => ((k_here; k_dflt (refine' newTupL ?Fq495 ?Nq495 ?_ ?zq495; (case Fq495 => k_asm); (case Nq495 => k_asm); (case zq495 => kmk_size)); intro D' h' F' N' l1; (try (replace l1 := allLt_of l1; dsimp only [AllLt] at l1)); (try k_sweep)))
  k_with "storeName" => ((k_here; k_dflt (refine' storeX_S (by k_asm) (by k_asm) rfl (by k_mem) (by assumption) (by repeat' (first | exact Sift.all (by assumption) | exact Sift.all (allLt_ne (And.right (And.right ‹_ ∧ _ ∧ AllLt _ _›)) (by omega)) | exact Sift.all (ltAll (by assumption) (by omega)) | (apply Sift.keep; (case h => first | (refine neN ?_; first | walk_at "ne9" | omega) | exact newsNe (by assumption) (by k_mem) (by k_mem) (by assumption) (by intro _ e; cases e) | (refine' newsNeC ?nNq496 ?nAq496 ?nBq496 ?nCq496; (case nNq496 => assumption); (case nAq496 => k_mem); (case nBq496 => k_mem); (case nCq496 => first | (intro e; cases e; done) | (intro e; exact absurd (Value.type.inj e) (by decide)))) | (refine' codeNe ?nNq496 ?nAq496 ?nBq496 ?nDq496 ?nPq496 ?nGq496; (case nNq496 => assumption); (case nGq496 => assumption); (case nAq496 => k_mem); (case nBq496 => k_mem); (case nDq496 => assumption); (case nPq496 => k_mem)))) | apply Sift.drop)) ?_ rfl rfl; k_whole); intro h' o' F' N' d1'; (try dsimp only)))
  k_with "exec FunctionDef" => ((k_here; k_dflt (refine' nestDef_K ?d0q497 ?k0q497 ?a0q497 ?_; (case d0q497 => exact rfl); (case k0q497 => exact rfl); (case a0q497 => exact rfl)); k_dflt (refine' nest_S (by k_asm) (by k_asm) (by k_asm) (by first | assumption | exact CodeHd.keeps (by assumption) (Fr.keep (by assumption))) rfl (by assumption) (by k_mem) (by k_mem) (by repeat' (first | exact Sift.all (by assumption) | exact Sift.all (allLt_ne (And.right (And.right ‹_ ∧ _ ∧ AllLt _ _›)) (by omega)) | exact Sift.all (ltAll (by assumption) (by omega)) | (apply Sift.keep; (case h => first | (refine neN ?_; first | walk_at "ne9" | omega) | exact newsNe (by assumption) (by k_mem) (by k_mem) (by assumption) (by intro _ e; cases e) | (refine' newsNeC ?nNq497 ?nAq497 ?nBq497 ?nCq497; (case nNq497 => assumption); (case nAq497 => k_mem); (case nBq497 => k_mem); (case nCq497 => first | (intro e; cases e; done) | (intro e; exact absurd (Value.type.inj e) (by decide)))) | (refine' codeNe ?nNq497 ?nAq497 ?nBq497 ?nDq497 ?nPq497 ?nGq497; (case nNq497 => assumption); (case nGq497 => assumption); (case nAq497 => k_mem); (case nBq497 => k_mem); (case nDq497 => assumption); (case nPq497 => k_mem)))) | apply Sift.drop)) (by intro c9; kn_triples) (by intro c9; kn_hit) rfl ?_; k_whole); intro f' c' oc' doc' ct' h' tk' F' N' ok'; (have ok2' := ok'); (obtain ⟨vs', t', d1', d2'⟩ := ok2'); (try dsimp only at N')))
  k_with "eval Lambda" => ((k_here; k_dflt (refine' kla_eval ?d0q498 ?_; (case d0q498 => exact rfl)); k_dflt (refine' lam_S (by k_asm) (by k_asm) (by k_asm) (by first | assumption | exact CodeHd.keeps (by assumption) (Fr.keep (by assumption))) rfl (by assumption) (by k_mem) (by k_mem) (by repeat' (first | exact Sift.all (by assumption) | exact Sift.all (allLt_ne (And.right (And.right ‹_ ∧ _ ∧ AllLt _ _›)) (by omega)) | exact Sift.all (ltAll (by assumption) (by omega)) | (apply Sift.keep; (case h => first | (refine neN ?_; first | walk_at "ne9" | omega) | exact newsNe (by assumption) (by k_mem) (by k_mem) (by assumption) (by intro _ e; cases e) | (refine' newsNeC ?nNq498 ?nAq498 ?nBq498 ?nCq498; (case nNq498 => assumption); (case nAq498 => k_mem); (case nBq498 => k_mem); (case nCq498 => first | (intro e; cases e; done) | (intro e; exact absurd (Value.type.inj e) (by decide)))) | (refine' codeNe ?nNq498 ?nAq498 ?nBq498 ?nDq498 ?nPq498 ?nGq498; (case nNq498 => assumption); (case nGq498 => assumption); (case nAq498 => k_mem); (case nBq498 => k_mem); (case nDq498 => assumption); (case nPq498 => k_mem)))) | apply Sift.drop)) (by intro c9; kn_triples) (by intro c9; kn_hit) rfl ?_; k_whole); intro f' c' oc' ct' h' tk' F' N' ok'; (have ok2' := ok'); (obtain ⟨vs', t', d1', d2'⟩ := ok2'); (try dsimp only at N')))
  k_with "OnceB" => ((dsimp only [OnceB]))
  k_with "call ref" => ((k_here; (with_reducible show wpAny _ _ (call (Value.ref 282) _ _) _ _ _); k_dflt (refine wpAny_call ?_; ktr_enter)))
  k_with "CompEnd" => ((k_dflt (first
  | (refine' compEnd_1 ?Fq501 ?Nq501 ?offq501 ?hrq501 ?hSq501 ?_; (case Fq501 => k_asm); (case Nq501 => assumption); (case offq501 => assumption); (case hrq501 => (refine ⟨?_, ?_, ?_⟩ <;> first | walk_at "lt9" | omega)); (case hSq501 => exact Or.inr ⟨_, by k_mem, rfl, _, rfl⟩))
  | (refine' compEnd_0 ?Fq501 ?Nq501 ?offq501 ?hSq501 ?_; (case Fq501 => k_asm); (case Nq501 => assumption); (case offq501 => assumption); (case hSq501 => exact Or.inr ⟨_, by k_mem, rfl, _, rfl⟩)))))
  k_with "CompSrc" => ((k_here; k_dflt (refine LCg.CompSrc.ledger (by rfl) (by k_asm) (by k_asm) (by k_mem) (by first | size_fits | exact Nat.le_of_ble_eq_true rfl) ?_; intro g'; lcg_lit)))
  k_with "eval ListComp" => ((k_here; lcf_look; k_dflt (refine LCg.ListComp_U (F₀ := by k_asm) (by with_unfolding_all rfl) (by decide) (by rfl) (by decide) (by rfl) ?_); k_dflt lcg_toSrc))
  k_with "call ref" => ((k_here; (with_reducible show wpAny _ _ (call (Value.ref 89) _ _) _ _ _); k_dflt (refine' real_c ?k1q504 ?k2q504 ?k3q504 ?k4q504 ?k5q504 ?kKq504 ?kdq504 ?kuq504   ?_; (case k1q504 => k_asm); (case k2q504 => k_asm); (case k3q504 => k_asm); (case k4q504 => k_asm); (case k5q504 => k_asm); (case kKq504 => first | exact rfl | assumption); (case kdq504 => ktr_room); (case kuq504 => ktr_units); k_whole); intro r9 d9 z9 y9 j9 t9 i9 u9 h9 tk9 e9 f9 F9 N9; (try k_sweep); (try dsimp only); (try k_fold); skip))
  k_with "call ref" => ((k_here; (with_reducible show wpAny _ _ (call (Value.ref 310) _ _) _ _ _); k_dflt (refine' log_real_c ?k1q505 ?k2q505 ?k3q505 (newsTab ?n1q505 ?n2q505 ?n3q505 ?sfq505) ?k5q505 ?kKq505 ?kdq505 ?kuq505 ?m0q505 ?m1q505 ?p0q505 ?p1q505 (Sift.ne ?sfq505) ?p3q505 ?p4q505 ?p5q505 ?_; (case k1q505 => k_asm); (case k2q505 => k_asm); (case k3q505 => k_asm); (case p1q505 => assumption); (case n1q505 => k_asm); (case n2q505 => k_mem); (case n3q505 => k_mem); (case sfq505 => repeat' (first | exact Sift.all (by assumption) | exact Sift.all (allLt_ne (And.right (And.right ‹_ ∧ _ ∧ AllLt _ _›)) (by omega)) | exact Sift.all (ltAll (by assumption) (by omega)) | (apply Sift.keep; (case h => first | (refine neN ?_; first | walk_at "ne9" | omega) | exact newsNe (by assumption) (by k_mem) (by k_mem) (by assumption) (by intro _ e; cases e) | (refine' newsNeC ?nNq505 ?nAq505 ?nBq505 ?nCq505; (case nNq505 => assumption); (case nAq505 => k_mem); (case nBq505 => k_mem); (case nCq505 => first | (intro e; cases e; done) | (intro e; exact absurd (Value.type.inj e) (by decide)))) | (refine' codeNe ?nNq505 ?nAq505 ?nBq505 ?nDq505 ?nPq505 ?nGq505; (case nNq505 => assumption); (case nGq505 => assumption); (case nAq505 => k_mem); (case nBq505 => k_mem); (case nDq505 => assumption); (case nPq505 => k_mem)))) | apply Sift.drop)); (case k5q505 => k_asm); (case kKq505 => first | exact rfl | assumption); (case kdq505 => ktr_room); (case kuq505 => ktr_units); (case m0q505 => k_mem); (case m1q505 => k_mem); (case p0q505 => first | assumption | exact CodeHd.keeps (by assumption) (Fr.keep (by assumption))); (case p3q505 => first | with_reducible assumption | omega); (case p4q505 => first | with_reducible assumption | omega); (case p5q505 => first | with_reducible assumption | k_dflt (have hq := (‹logF _ _ _ = some _›); refine Eq.trans ?_ hq; law_clear; subst_vars; exact rfl) | kwd_less); k_whole); intro r9 d9 z9 y9 j9 t9 i9 u9 q9 c9 o9 h9 tk9 e9 f9 ok9 F9 N9; (obtain ⟨c8, o8, ok8, gc8, N8⟩ := tabNorm ok9 N9); clear ok9 N9; (try k_sweep); (try dsimp only); (try k_fold); skip))
  k_with "call ref" => ((k_here; (with_reducible show wpAny _ _ (call (Value.ref 331) _ _) _ _ _); k_dflt (refine' law_fraction_c ?k1q506 ?k2q506 ?k3q506 ?k4q506 ?k5q506 ?kKq506 ?kdq506 ?kuq506  ?p0q506 ?p1q506 ?p2q506 ?_; (case k1q506 => k_asm); (case k2q506 => k_asm); (case k3q506 => k_asm); (case k4q506 => k_asm); (case k5q506 => k_asm); (case kKq506 => first | exact rfl | assumption); (case kdq506 => ktr_room); (case kuq506 => ktr_units); (case p0q506 => ktr_rel); (case p1q506 => first | with_reducible assumption | omega); (case p2q506 => first | with_reducible assumption | omega); k_whole); intro r9 z9 y9 t9 u9 h9 tk9 e9 f9 F9 N9; (try k_sweep); (try dsimp only); (try k_fold); skip))
  k_with "call ref" => ((k_here; (with_reducible show wpAny _ _ (call (Value.ref 336) _ _) _ _ _); k_dflt (refine' law_middles_c ?k1q507 ?k2q507 ?k3q507 ?k4q507 ?k5q507 ?kKq507 ?kdq507 ?kuq507 ?m0q507 ?m1q507 ?p0q507 ?p1q507 ?p2q507 ?_; (case k1q507 => k_asm); (case k2q507 => k_asm); (case k3q507 => k_asm); (case k4q507 => k_asm); (case k5q507 => k_asm); (case kKq507 => first | exact rfl | assumption); (case kdq507 => ktr_room); (case kuq507 => ktr_units); (case m0q507 => k_mem); (case m1q507 => k_mem); (case p0q507 => first | with_reducible assumption | omega); (case p1q507 => first | with_reducible assumption | omega); (case p2q507 => first | with_reducible assumption | k_dflt (have hq := (‹midF _ _ _ = some _›); refine Eq.trans ?_ hq; law_clear; subst_vars; exact rfl) | kwd_less); k_whole); intro r9 p9 q9 z9 y9 x9 w9 t9 u9 j9 k9 h9 tk9 e9 f9 c9 d9 F9 N9; (try k_sweep); (try dsimp only); (try k_fold); skip))
  k_with "call ref" => ((k_here; (with_reducible show wpAny _ _ (call (Value.ref 350) _ _) _ _ _); k_dflt (refine' law_side_c ?k1q508 ?k2q508 ?k3q508 ?k4q508 ?k5q508 ?kKq508 ?kdq508 ?kuq508 ?m0q508 ?m1q508 ?p0q508 ?_; (case k1q508 => k_asm); (case k2q508 => k_asm); (case k3q508 => k_asm); (case k4q508 => k_asm); (case k5q508 => k_asm); (case kKq508 => first | exact rfl | assumption); (case kdq508 => ktr_room); (case kuq508 => ktr_units); (case m0q508 => k_mem); (case m1q508 => k_mem); (case p0q508 => first | with_reducible assumption | k_dflt (have hq := (‹sideF _ _ = some 1›); refine Eq.trans ?_ hq; law_clear; subst_vars; with_reducible rfl) | k_dflt (have hq := (‹sideF _ _ = some (-1)›); refine Eq.trans ?_ hq; law_clear; subst_vars; with_reducible rfl) | kwd_less); k_whole); intro z9 t9 h9 tk9 e9 F9 N9; (try k_sweep); (try dsimp only); (try k_fold); skip))
  trivial
section
variable {w : World} {loose : List Str} {mean : ExcName → Option Value} {mg mb : Str → Option Value}
  {dp un : Nat} {gd : Option (List Code)} {cn : Str} {cs : Scope} {a : Addr} {ccd : Value} {cl : List (Str × Addr)} {outer : List Env} {A₀ : Around} {base h₀ : Heap} {L : Addr} {m : Str → Option Value} {news : List (Addr × Obj)} {s : Shared} {Q E : Value → Shared → Prop}

theorem law_is_log_right_c {p : Int} {t9 : Tok} {x1 y1 : Int} {t1 u1 : Tok} {a1 : Addr} {ps : Array Value} {c1 : Addr} {o1 : Obj}
  (B : Below A₀ base outer h₀) (F : Fr h₀ L s.heap m) (X : (hd.heap_1 w.params).In h₀) (N : News h₀ L s.heap ((305, tabObj ps) :: (c1, o1) :: news)) (T : Top topProg loose mean mg mb h₀) (hk : cs.kind = .function)
  (hdp : dp + 30 < recursionLimit) (hun : un + 400 < cLine)
  (Ma1 : (a1, tupO x1 t1 y1 u1) ∈ news) (hC : CodeHd h₀ 309 305) (ok : TabOk posL qualL ps c1 o1) (hne : ∀ q ∈ news, q.1 ≠ 305) (h0 : 1 ≤ p) (h1 : p < 100) (b1 : Sm x1) (b2 : -1000 ≤ y1) (b3 : y1 ≤ 1000) (hv : isLog p x1 y1 = true)
  (hret : ∀ ps' c' oc' h' tk', TabOk posL qualL ps' c' oc' → (c' = 305 ∨ CodeNm qualL oc') → Fr h₀ L h' m → News h₀ L h' ((305, tabObj ps') :: (c', oc') :: news) → Q (.bool true) { s with heap := h', toks := tk' }) :
  wpAny (model Challenge.rw_nt0168_01.row.prog w) (ktrTop dp un gd cn cs L a ccd cl outer) (call (.ref 360) [.int p t9, .ref a1]) Q E s := by
  obtain ⟨⟨r1, r2⟩, hv1, ⟨rfl, rfl, hv2⟩ | ⟨hn, m1, m2, hv2, hv3, hv4⟩⟩ := isLog_parts hv
  all_goals (try dsimp only at hv2)
  · obtain ⟨rfl, rfl⟩ := Prod.mk.inj hv2
    refine wpAny_call ?_
    k_dflt (refine' code_defC ?k1 ?k2 ?k3 ?k4 ?k5 ?kA ?kF ?kK ?k6 ?k7 ?k8 ?k9 ?kB ?kD ?_ ?c2 ?c3 ?c4; (case kA => exact rfl); (case kF => exact rfl); (case kK => assumption); (case k1 => k_asm); (case k2 => k_asm); (case k3 => k_asm); (case k4 => k_asm); (case k5 => k_asm); (case k6 => k_is); (case k7 => k_is); (case k8 => ktr_room); (case k9 => exact BindsTo.of_eq rfl); (case kB => exact rfl); (case kD => decide +kernel); (case c2 => exact rfl); (case c3 => exact rfl); (case c4 => exact rfl); k_whole; intro g' L' h' tk' cells' FG' F' N' Y' B' X' T' l1; (try (replace l1 := allLt_of l1; dsimp only [AllLt] at l1)); k_cells Y'; (try simp only [List.cons_append, List.nil_append] at N'); (try dsimp only); (try k_lift B'); (try k_fold))
    k_steps
    all_goals (refine retTB hret (by assumption) (by k_asm) (by assumption) (by k_mem) (by k_mem) (by first | ((repeat (first | exact sub_refl | refine sub_cons ?_)); done) | (intro p hp; first | exact hp | (repeat (first | exact hp | refine List.mem_cons_of_mem _ ?_)))) ?_)
    all_goals ((try law_clear); subst_vars; rfl)
  ·
    refine wpAny_call ?_
    k_dflt (refine' code_defC ?k1 ?k2 ?k3 ?k4 ?k5 ?kA ?kF ?kK ?k6 ?k7 ?k8 ?k9 ?kB ?kD ?_ ?c2 ?c3 ?c4; (case kA => exact rfl); (case kF => exact rfl); (case kK => assumption); (case k1 => k_asm); (case k2 => k_asm); (case k3 => k_asm); (case k4 => k_asm); (case k5 => k_asm); (case k6 => k_is); (case k7 => k_is); (case k8 => ktr_room); (case k9 => exact BindsTo.of_eq rfl); (case kB => exact rfl); (case kD => decide +kernel); (case c2 => exact rfl); (case c3 => exact rfl); (case c4 => exact rfl); k_whole; intro g' L' h' tk' cells' FG' F' N' Y' B' X' T' l1; (try (replace l1 := allLt_of l1; dsimp only [AllLt] at l1)); k_cells Y'; (try simp only [List.cons_append, List.nil_append] at N'); (try dsimp only); (try k_lift B'); (try k_fold))
    k_steps
    all_goals (refine retTB hret (by assumption) (by k_asm) (by assumption) (by k_mem) (by k_mem) (by first | ((repeat (first | exact sub_refl | refine sub_cons ?_)); done) | (intro p hp; first | exact hp | (repeat (first | exact hp | refine List.mem_cons_of_mem _ ?_)))) ?_)
    all_goals (first | exact absurd (pairIs (by assumption)) hn | ((try law_clear); subst_vars; rfl))
end
end
section
open PySem PySem.W PySem.Spec PySem.Calls PyProof.Rows
set_option Elab.async false
set_option maxRecDepth 100000
noncomputable def okFrom (bits : Int) (a : Nat) : Nat → Bool
  | 0 => true
  | n + 1 => okCode bits (a + n) && okFrom bits a n
theorem okFrom_at {bits : Int} {a : Nat} : ∀ {n : Nat}, okFrom bits a n = true → ∀ k, a ≤ k → k < a + n → okCode bits k = true
  | 0, _, k, h1, h2 => absurd h2 (Nat.not_lt.mpr h1)
  | n + 1, h, k, h1, h2 => by
    unfold okFrom at h
    rw [Bool.and_eq_true] at h
    by_cases e : k = a + n
    · rw [e]; exact h.1
    · exact okFrom_at h.2 k h1 (Nat.lt_of_le_of_ne (Nat.le_of_lt_succ h2) e)
theorem okFrom_add {bits : Int} {m n : Nat} (h1 : okFrom bits 0 m = true) (h2 : okFrom bits m n = true) (k : Nat) (h : k < m + n) : okCode bits k = true :=
  if c : k < m then okFrom_at h1 k (Nat.zero_le _) (by rwa [Nat.zero_add]) else okFrom_at h2 k (Nat.le_of_not_lt c) h
theorem ok_2 : okFrom 2 0 24 = true := by decide +kernel
theorem ok_3 : okFrom 3 0 48 = true := by decide +kernel
theorem ok_4a : okFrom 4 0 48 = true := by decide +kernel
theorem ok_4b : okFrom 4 48 48 = true := by decide +kernel
theorem ok_5a : okFrom 5 0 96 = true := by decide +kernel
theorem ok_5b : okFrom 5 96 96 = true := by decide +kernel
theorem fd (x : Int) {n : Int} (h : 0 ≤ n) : x.fdiv n = x / n := Int.fdiv_eq_ediv_of_nonneg x h
theorem fm (x : Int) {n : Int} (h : 0 ≤ n) : x.fmod n = x % n := Int.fmod_eq_emod_of_nonneg x h
theorem six (q y : Int) : (6 * q + y) % 3 = y % 3 ∧ (6 * q + y) / 3 % 2 = y / 3 % 2 := by constructor <;> omega
theorem lawPair_mod {b c S : Int} (hS : p2 b = S) (hp : 0 < S) : lawPair b c = lawPair b (c % (6 * S)) := by
  have h0 : (0 : Int) ≤ S := Int.le_of_lt hp
  have e : c = c % (6 * S) + S * (6 * (c / (6 * S))) := by
    have := Int.emod_add_mul_ediv c (6 * S)
    rw [Int.mul_comm 6 S, Int.mul_assoc] at this
    rw [Int.mul_comm 6 S]
    exact this.symm
  generalize hr : c % (6 * S) = r at e
  generalize c / (6 * S) = q at e
  have h1 : c % S = r % S := by rw [e, Int.add_mul_emod_self_left]
  have h2 : c / S = 6 * q + r / S := by rw [e, Int.add_mul_ediv_left _ _ (Int.ne_of_gt hp), Int.add_comm]
  obtain ⟨s1, s2⟩ := six q (r / S)
  unfold lawPair
  simp only [hS, fd _ h0, fm _ h0, fd _ (show (0 : Int) ≤ 3 by decide), fm _ (show (0 : Int) ≤ 3 by decide), fm _ (show (0 : Int) ≤ 2 by decide), h1, h2, s1, s2]
theorem ok_of {b c S : Int} {n : Nat} (hS : p2 b = S) (hp : 0 < S) (hn : 6 * S = n) (h : ∀ k < n, okCode b k = true) : okPair b (lawPair b c) = true := by
  rw [lawPair_mod hS hp]
  have h6 : (0 : Int) < 6 * S := Int.mul_pos (by decide) hp
  have g0 := Int.emod_nonneg c (Int.ne_of_gt h6)
  have g1 := Int.emod_lt_of_pos c h6
  obtain ⟨k, e⟩ := Int.eq_ofNat_of_zero_le g0
  rw [e] at g1 ⊢
  rw [hn] at g1
  exact h k (Int.ofNat_lt.mp g1)
theorem ok_all {b : Int} (h1 : 2 ≤ b) (h2 : b ≤ 5) (c : Int) : ∃ v, lawPair b c = some v ∧ isExp b v.1 v.2 = true ∧ isLog b (absI v.1) v.2 = true := by
  have e : okPair b (lawPair b c) = true := by
    rcases (by omega : b = 2 ∨ b = 3 ∨ b = 4 ∨ b = 5) with rfl | rfl | rfl | rfl
    · exact ok_of (S := 4) (by decide) (by decide) (n := 24) rfl fun k hk => okFrom_at ok_2 k (Nat.zero_le _) hk
    · exact ok_of (S := 8) (by decide) (by decide) (n := 48) rfl fun k hk => okFrom_at ok_3 k (Nat.zero_le _) hk
    · exact ok_of (S := 16) (by decide) (by decide) (n := 96) rfl (okFrom_add ok_4a ok_4b)
    · exact ok_of (S := 32) (by decide) (by decide) (n := 192) rfl (okFrom_add ok_5a ok_5b)
  cases q : lawPair b c with
  | none => rw [q] at e; cases e
  | some v =>
    rw [q] at e
    obtain ⟨m, x⟩ := v
    unfold okPair at e
    dsimp only at e
    rw [Bool.and_eq_true] at e
    exact ⟨(m, x), rfl, e.1, e.2⟩
end
section
open PySem PySem.W PySem.Spec PySem.Calls PyProof.Rows
set_option Elab.async false
set_option maxRecDepth 100000
theorem fmod4 (k : Nat) : 0 ≤ ((k : Nat) : Int).fmod 4 ∧ ((k : Nat) : Int).fmod 4 ≤ 3 := by
  rw [fm _ (show (0 : Int) ≤ 4 by decide)]; omega
theorem bitsB {vs : List Value} {ns : List Int} (_h : IntsAre vs ns) : 0 ≤ ((ns.length : Nat) : Int).fmod 4 ∧ ((ns.length : Nat) : Int).fmod 4 ≤ 3 := fmod4 _
/-- the pair that the law makes of a code -/
noncomputable def lawV (b c : Int) : Int × Int := (lawPair b c).getD (0, 0)
theorem lawV_all {k : Nat} (c : Int) : lawPair (2 + (k : Int).fmod 4) c = some (lawV (2 + (k : Int).fmod 4) c) ∧ isExp (2 + (k : Int).fmod 4) (lawV (2 + (k : Int).fmod 4) c).1 (lawV (2 + (k : Int).fmod 4) c).2 = true ∧
    isLog (2 + (k : Int).fmod 4) (absI (lawV (2 + (k : Int).fmod 4) c).1) (lawV (2 + (k : Int).fmod 4) c).2 = true := by
  have h := fmod4 k
  obtain ⟨v, h1, h2, h3⟩ := ok_all (b := 2 + (k : Int).fmod 4) (by omega) (by omega) c
  have e : lawV (2 + (k : Int).fmod 4) c = v := by unfold lawV; rw [h1]; rfl
  rw [e]
  exact ⟨h1, h2, h3⟩
section
variable {k : Nat} {c : Int}
theorem lawV_pair : lawPair (2 + (k : Int).fmod 4) c = some (lawV (2 + (k : Int).fmod 4) c) := (lawV_all c).1
theorem lawV_exp : isExp (2 + (k : Int).fmod 4) (lawV (2 + (k : Int).fmod 4) c).1 (lawV (2 + (k : Int).fmod 4) c).2 = true := (lawV_all c).2.1
theorem lawV_log : isLog (2 + (k : Int).fmod 4) (absI (lawV (2 + (k : Int).fmod 4) c).1) (lawV (2 + (k : Int).fmod 4) c).2 = true := (lawV_all c).2.2
theorem isExp_small {p m e : Int} (h : isExp p m e = true) : -1000 ≤ e ∧ e ≤ 1000 ∧ Sm m := by
  unfold isExp at h
  split at h
  · cases h
  · rename_i r q
    obtain ⟨_, _, _, t, f, r, q1, _⟩ := expF_parts (p := p) (m := m) (e := e) (by rw [q]; exact nofun)
    obtain ⟨_, _, _, g1, g2, g3, _⟩ := redF_parts q1
    exact ⟨g1, g2, g3⟩
theorem lawV_sm : Sm (lawV (2 + (k : Int).fmod 4) c).1 := (isExp_small lawV_exp).2.2
theorem lawV_lo : -1000 ≤ (lawV (2 + (k : Int).fmod 4) c).2 := (isExp_small lawV_exp).1
theorem lawV_hi : (lawV (2 + (k : Int).fmod 4) c).2 ≤ 1000 := (isExp_small lawV_exp).2.1
end
end
local macro_rules | `(tactic| kwd_less) => `(tactic| k_dflt (subst_vars; first | exact lawV_pair | exact lawV_exp | exact lawV_log))
section
open PySem PySem.W PySem.Spec PySem.Calls PyProof.Rows
set_option Elab.async false
set_option maxRecDepth 100000
set_option maxHeartbeats 0
theorem reg_73 : True := by
  k_with_none
  k_with "lt9" => (first | with_reducible assumption | (refine ltc (by with_reducible assumption) ?_; first | exact pj1 | exact pj2 | exact pj3 | exact pj4 | exact pj5 | exact pj6 | exact pj7 | exact pj8 | exact pj9 | exact pj10 | exact pj11 | exact pj12 | exact pj13 | exact pj14 | exact qj1 | exact qj2 | exact qj3 | exact qj4 | exact qj5 | exact qj6 | exact qj7 | exact qj8 | exact qj9 | exact qj10 | exact qj11 | exact qj12 | exact qj13 | exact qj14))
  k_with "ne9" => (first | decide | (refine Nat.ne_of_lt ?_; walk_at "lt9") | (refine Nat.ne_of_gt ?_; walk_at "lt9") | exact Nat.ne_of_lt (Nat.lt_succ_self _) | exact Nat.ne_of_gt (Nat.lt_succ_self _) | (refine ne_up1 ?_; walk_at "lt9") | (refine ne_up2 ?_; walk_at "lt9") | (refine Ne.symm (ne_up1 ?_); walk_at "lt9") | (refine Ne.symm (ne_up2 ?_); walk_at "lt9"))
  trivial
-- Sm facts
theorem reg_74 : True := by
  k_with "eval Constant int" => (refine const_intN ?_)
  k_with "binaryOp Add int int" => (with_reducible refine add_intN ?_)
  k_with "binaryOp Sub int int" => (with_reducible refine sub_intN ?_)
  k_with "binaryOp Mult int int" => (with_reducible refine mul_intN ?_)
  k_with "binaryOp FloorDiv int int" => ((k_here; (with_reducible refine floordiv_intN ?feq515 ?_ (Sm.py ?fpq515)); (case feq515 => first | decide | omega | assumption); (case fpq515 => ktr_rel)))
  k_with "binaryOp LShift int int" => ((k_here; (with_reducible refine lshift_intN ?feq516 ?fpq516 ?_); (case feq516 => omega); (case fpq516 => exact Sm.shl (by ktr_rel) (by omega))))
  k_with "ite" => ((k_here; k_openite; k_spoken; first
  | (refine ite_pos (by ((try simp only [beq_iff_eq, bne_iff_ne, ne_eq, Bool.not_eq_true', beq_eq_false_iff_ne]); (try law_clear); (try subst_vars); first | assumption | exact decide_eq_true rfl | exact Int.not_le.mp (by assumption) | exact Int.not_lt.mp (by assumption) | (law_clear; omega))) ?_; walk_say "PRUNED own")
  | (refine ite_neg (by ((try simp only [beq_iff_eq, bne_iff_ne, ne_eq, Bool.not_eq_true', beq_eq_false_iff_ne]); (try law_clear); (try subst_vars); first | assumption | exact Int.not_le.mpr (by assumption) | exact Int.not_lt.mpr (by assumption) | (law_clear; omega))) ?_; walk_say "PRUNED own")))
  k_with "subscriptTail" => ((k_here; (with_reducible show wpAny _ _ (subscriptTail _ _ (Value.ref _) (Value.int _ _)) _ _ _); k_dflt (refine' item_tupleT ?tq518 ?aq518 ?bq518 ?cq518 ?dq518 ?_; (case tq518 => exact News.isTup (by k_asm) (by k_mem)); (case aq518 => decide); (case bq518 => decide); (case cq518 => rfl); (case dq518 => rfl); k_whole)))
  k_with "subscriptTail Name Constant ref int" => ((k_here; (with_reducible show wpAny _ _ (subscriptTail _ _ (Value.ref _) (Value.int _ _)) _ _ _); k_dflt (refine' item_tupleT ?tq519 ?aq519 ?bq519 ?cq519 ?dq519 ?_; (case tq519 => exact News.isTup (by k_asm) (by k_mem)); (case aq519 => decide); (case bq519 => decide); (case cq519 => rfl); (case dq519 => rfl); k_whole)))
  k_with "callWith ref" => ((k_here; k_dflt (refine' callWith_K ?k1q520 ?k2q520 ?_; (case k1q520 => k_asm); (case k2q520 => k_is); k_whole)))
  k_with "call builtin:divmod" => ((k_here; (with_reducible show wpAny _ _ (call (Value.builtin _) [Value.int _ _, Value.int _ _]) _ _ _); k_dflt (refine' divmod_N ?k1q521 ?k2q521 ?feq521 ?_ (Or.inl (Sm.py ?fpq521)); (case k1q521 => k_asm); (case k2q521 => k_asm); (case feq521 => first | omega | exact Int.ne_of_gt (Int.mul_pos (by omega) (pow2_pos _))); (case fpq521 => ktr_rel)); intro h' F' N'; (try k_sweep)))
  k_with "call builtin:max" => ((k_here; (with_reducible show wpAny _ _ (call (Value.builtin _) [Value.ref _]) _ _ _); k_dflt (first
  | (refine' max_tup ?k0q522 ?k1q522 ?k2q522 ?k3q522 ?_; (case k0q522 => exact rfl); (case k1q522 => k_asm); (case k2q522 => k_asm); (case k3q522 => exact News.isTup (by k_asm) (by k_mem)))
  | (refine' max_list4 ?k0q522 ?k1q522 ?k2q522 ?k3q522 ?_; (case k0q522 => exact rfl); (case k1q522 => k_asm); (case k2q522 => k_asm); (case k3q522 => exact News.isList (by k_asm) (by k_mem)))); k_whole; intro h' r' tk' F' N'; (try k_sweep)))
  k_with "call builtin:min" => ((k_here; (with_reducible show wpAny _ _ (call (Value.builtin _) [Value.ref _]) _ _ _); k_dflt (first
  | (refine' min_tup ?k0q523 ?k1q523 ?k2q523 ?k3q523 ?_; (case k0q523 => exact rfl); (case k1q523 => k_asm); (case k2q523 => k_asm); (case k3q523 => exact News.isTup (by k_asm) (by k_mem)))
  | (refine' min_list4 ?k0q523 ?k1q523 ?k2q523 ?k3q523 ?_; (case k0q523 => exact rfl); (case k1q523 => k_asm); (case k2q523 => k_asm); (case k3q523 => exact News.isList (by k_asm) (by k_mem)))); k_whole; intro h' r' tk' F' N'; (try k_sweep)))
  k_with "newTuple" => ((k_here; k_dflt (refine' newTupL ?Fq524 ?Nq524 ?_ ?zq524; (case Fq524 => k_asm); (case Nq524 => k_asm); (case zq524 => kmk_size)); intro D' h' F' N' l1; (try (replace l1 := allLt_of l1; dsimp only [AllLt] at l1)); (try k_sweep)))
  trivial
noncomputable def ThrowsTo (h₀ : Heap) (L : Addr) (m : Str → Option Value) (base : Heap) (l : List Env) (news : List (Addr × Obj)) (C : Addr) (s : Shared) (E : Value → Shared → Prop) : Prop :=
  ∀ g e h' tk', Fr h₀ L g m → RaisedSN base g l e (.ref C) news h' → g.UpToSlots h' → E (.ref e) { s with heap := h', toks := tk' }
theorem reg_75 : True := by
  k_with "storeName" => ((k_here; k_dflt (refine' storeX_S (by k_asm) (by k_asm) rfl (by k_mem) (by assumption) (by repeat' (first | exact Sift.nil | exact Sift.all (by assumption) | exact Sift.all (allLt_ne (And.right (And.right ‹_ ∧ _ ∧ AllLt _ _›)) (by omega)) | exact Sift.all (ltAll (by assumption) (by omega)) | (apply Sift.keep; (case h => first | (refine neN ?_; first | walk_at "ne9" | omega) | exact newsNe (by assumption) (by k_mem) (by k_mem) (by assumption) (by intro _ e; cases e) | (refine' newsNeC ?nNq525 ?nAq525 ?nBq525 ?nCq525; (case nNq525 => assumption); (case nAq525 => k_mem); (case nBq525 => k_mem); (case nCq525 => first | (intro e; cases e; done) | (intro e; exact absurd (Value.type.inj e) (by decide)))) | (refine' codeNe ?nNq525 ?nAq525 ?nBq525 ?nDq525 ?nPq525 ?nGq525; (case nNq525 => assumption); (case nGq525 => assumption); (case nAq525 => k_mem); (case nBq525 => k_mem); (case nDq525 => assumption); (case nPq525 => k_mem)) | (refine' tabNe ?nNq525 ?nAq525 ?nBq525 ?nOq525 ?nGq525 ?nPq525; (case nNq525 => assumption); (case nGq525 => assumption); (case nAq525 => k_mem); (case nBq525 => k_mem); (case nOq525 => assumption); (case nPq525 => decide)))) | apply Sift.drop)) ?_ rfl rfl; k_whole); intro h' o' F' N' d1'; (try dsimp only)))
  k_with "eval Lambda" => ((k_here; k_dflt (refine' kla_eval ?d0q526 ?_; (case d0q526 => exact rfl)); k_dflt (refine' lam_T (c := 371) (P := 369) ?Fq526 ?Nq526 ?Tq526 ?Cq526 ?cdq526 ?hmq526 ?Sq526 ?tq526 ?nq526 ?clq526 ?_; (case Fq526 => k_asm); (case Nq526 => k_asm); (case Tq526 => k_asm); (case cdq526 => exact rfl); (case Cq526 => first | assumption | exact CodeHd.keeps (by assumption) (Fr.keep (by assumption))); (case hmq526 => k_mem); (case Sq526 => repeat' (first | exact Sift.nil | exact Sift.all (by assumption) | exact Sift.all (allLt_ne (And.right (And.right ‹_ ∧ _ ∧ AllLt _ _›)) (by omega)) | exact Sift.all (ltAll (by assumption) (by omega)) | (apply Sift.keep; (case h => first | (refine neN ?_; first | walk_at "ne9" | omega) | exact newsNe (by assumption) (by k_mem) (by k_mem) (by assumption) (by intro _ e; cases e) | (refine' newsNeC ?nNq526 ?nAq526 ?nBq526 ?nCq526; (case nNq526 => assumption); (case nAq526 => k_mem); (case nBq526 => k_mem); (case nCq526 => first | (intro e; cases e; done) | (intro e; exact absurd (Value.type.inj e) (by decide)))) | (refine' codeNe ?nNq526 ?nAq526 ?nBq526 ?nDq526 ?nPq526 ?nGq526; (case nNq526 => assumption); (case nGq526 => assumption); (case nAq526 => k_mem); (case nBq526 => k_mem); (case nDq526 => assumption); (case nPq526 => k_mem)) | (refine' tabNe ?nNq526 ?nAq526 ?nBq526 ?nOq526 ?nGq526 ?nPq526; (case nNq526 => assumption); (case nGq526 => assumption); (case nAq526 => k_mem); (case nBq526 => k_mem); (case nOq526 => assumption); (case nPq526 => decide)))) | apply Sift.drop)); (case tq526 => kn_triples); (case nq526 => kn_among); (case clq526 => exact rfl); k_whole); intro f' c' oc' vs' t' ct' h' tk' F' N' d1' d2' l1 l2; (try dsimp only at N'); (try (replace l1 := allLt_of l1; dsimp only [AllLt] at l1)); (try k_lt2 l2)))
  k_with "pyIter ref" => ((k_here; k_dflt (refine' iter_tabsV [Str.ofString "pair"] ?hhq527 ?Fq527 ?Nq527 ?mEq527 ?mLq527 ?S1q527 ?S2q527 ?hlq527 ?hiq527 ?turnq527 ?doneq527; (case hhq527 => exact rfl); (case Fq527 => k_asm); (case Nq527 => k_asm); (case mEq527 => k_mem); (case mLq527 => k_mem); (case S1q527 => exact Sift.keep (by refine neN ?_; first | walk_at "ne9" | omega) (Sift.keep (by refine neN ?_; first | walk_at "ne9" | omega) (Sift.keep (by refine neN ?_; first | walk_at "ne9" | omega) (Sift.drop (Sift.drop (Sift.drop (Sift.keep (by refine neN ?_; first | walk_at "ne9" | omega) (Sift.keep (by refine neN ?_; first | walk_at "ne9" | omega) (Sift.drop (Sift.keep (by refine neN ?_; first | walk_at "ne9" | omega) Sift.nil)))))))))); (case S2q527 => exact Sift.keep (by refine neN ?_; first | walk_at "ne9" | omega) (Sift.keep (by refine neN ?_; first | walk_at "ne9" | omega) (Sift.keep (by refine neN ?_; first | walk_at "ne9" | omega) (Sift.keep (by refine neN ?_; first | walk_at "ne9" | omega) (Sift.drop (Sift.keep (by refine neN ?_; first | walk_at "ne9" | omega) Sift.nil)))))); (case hlq527 => k_mem); (case hiq527 => assumption)); (rotate_left; k_whole; intro u h' tk' pE pL F' N'; (try k_sweep); (try dsimp only); rotate_right); k_whole; intro n9 t9 u9 s9 I9 it9 psE psL cE cL oE oL hn9 F' N' hc9 okE gE okL gL i1 i2 i3; (try k_lt i3); (try dsimp only [tabLed] at N'); (try k_sweep); (try dsimp only); skip))
  k_with "TurnEnd" => (( k_dflt (refine' TurnEnd.intro ?Fq528 ?Nq528 ?aq528 ?bq528 ?cq528 ?dq528 ?mIq528 ?m1q528 ?m2q528 ?m3q528 ?m4q528 ?mkq528 ?hzq528; (case Fq528 => k_asm); (case Nq528 => k_asm); (case aq528 => assumption); (case bq528 => assumption); (case cq528 => assumption); (case dq528 => assumption); (case mIq528 => k_mem); (case m1q528 => k_mem); (case m2q528 => k_mem); (case m3q528 => k_mem); (case m4q528 => k_mem); (case mkq528 => repeat' (first | exact List.forall_mem_nil _ | refine List.forall_mem_cons.mpr ⟨by k_mem, ?_⟩)); (case hzq528 => (intro z h1 h3; simp only [List.contains_cons, List.contains_nil, Bool.or_false, beq_eq_false_iff_ne, ne_eq] at h3; simp [kstB, h1, h3])))))
  k_with "leaving ref" => ((k_here; k_dflt (refine' leave_onX ?k1q529 ?k2q529 ?k3q529 ?k4q529 ?k5q529 ?_; (case k1q529 => k_asm); (case k2q529 => k_asm); (case k3q529 => exact rfl); (case k4q529 => k_asm); (case k5q529 => k_asm); k_whole); intro h9 R9 U9; (try dsimp only)))
  k_with "Throws" => (( intro dp9 un9 cn9 cs9 L9 a9 ccd9 A9 b9 m9 s9 Q9 E9 B9 F9 X9 N9 T9 hk9 hd9 hu9 hr9; (change ThrowsTo _ _ _ _ _ _ _ _ _ at hr9); refine wpAny_call ?_; k_dflt (refine' kla_code ?k1q530 ?k2q530 ?k3q530 ?k4q530 ?k5q530 ?kAq530 ?kFq530 ?kKq530 ?k6q530 ?k7q530 ?k8q530 ?k9q530 ?kBq530 ?_ ?c2q530 ?c3q530 ?c4q530 ?c5q530; (case kAq530 => exact rfl); (case kFq530 => exact rfl); (case kKq530 => first | exact rfl | assumption); (case k1q530 => k_asm); (case k2q530 => k_asm); (case k3q530 => k_asm); (case k4q530 => k_asm); (case k5q530 => k_asm); (case k6q530 => k_mem); (case k7q530 => exact codeRec_news (by k_asm) (by k_mem) (by assumption) (by assumption)); (case k8q530 => ktr_room); (case k9q530 => exact rfl); (case c5q530 => decide); (case kBq530 => exact locs rfl); (case c2q530 => exact rfl); (case c3q530 => exact rfl); (case c4q530 => exact rfl); k_whole; intro g' L' h' FG' F' N' B' X' T'; (try dsimp only); (try k_fold)); skip))
  k_with "subscriptTail Name Constant ref int" => ((k_here; (with_reducible show wpAny _ _ (subscriptTail (Expr.Name (Str.ofString "codes") _) _ (Value.ref _) (Value.int 0 _)) _ _ _); (with_unfolding_all refine' item_anyK ?k1q531 ?k2q531 ?k3q531 ?k4q531 ?k5q531 ?_ ?k6q531; (case k1q531 => exact News.isList (by k_asm) (by k_mem)); (case k2q531 => with_reducible assumption); (case k3q531 => decide); (case k4q531 => (rw [List.length_append]; simp only [List.length_cons, List.length_nil]; omega)); (case k5q531 => decide); (case k6q531 => with_unfolding_all rfl); k_whole); intro _))
  k_with "call builtin:len" => ((k_here; (with_reducible show wpAny _ _ (call (Value.builtin _) [Value.ref _]) _ _ _); (with_unfolding_all refine' len_ints_fit ?k1q532 ?k2q532 ?k3q532 ?_; (case k1q532 => is_list); (case k2q532 => l_ints); (case k3q532 => l_fit); k_whole)))
  k_with "ite" => ((k_here; k_openite; refine ite_neg (by ((try law_clear); subst_vars; decide)) ?_; walk_say "PRUNED law"))
  k_with "call ref" => ((k_here; (with_reducible show wpAny _ _ (call (Value.ref 367) _ _) _ _ _); k_dflt (refine' law_refused_domain_c (bd := Expr.Call (Expr.Name (Str.ofString "log_real") _) _ _ _) ?k1q534 ?k2q534 ?k3q534 ?k4q534 ?k5q534 ?kKq534 ?x1q534 ?x2q534 ?kdq534 ?kuq534 ?mfq534 ?_ ?_; (case k1q534 => k_asm); (case k2q534 => k_asm); (case k3q534 => k_asm); (case k4q534 => k_asm); (case k5q534 => k_asm); (case kKq534 => exact rfl); (case x1q534 => k_asm); (case x2q534 => k_asm); (case kdq534 => ktr_room); (case kuq534 => ktr_units); (case mfq534 => with_reducible exact List.mem_cons_self ..)); (rotate_left; k_whole; intro t9 h9 tk9 F9 N9; (try k_sweep); (try dsimp only); (try k_fold); rotate_right); skip))
  k_with "call ref" => ((k_here; (with_reducible show wpAny _ _ (call (Value.ref 367) _ _) _ _ _); k_dflt (refine' law_refused_range_c (bd := Expr.Call (Expr.Name (Str.ofString "exp_real") _) _ _ _) ?k1q535 ?k2q535 ?k3q535 ?k4q535 ?k5q535 ?kKq535 ?x1q535 ?x2q535 ?kdq535 ?kuq535 ?mfq535 ?_ ?_; (case k1q535 => k_asm); (case k2q535 => k_asm); (case k3q535 => k_asm); (case k4q535 => k_asm); (case k5q535 => k_asm); (case kKq535 => exact rfl); (case x1q535 => k_asm); (case x2q535 => k_asm); (case kdq535 => ktr_room); (case kuq535 => ktr_units); (case mfq535 => with_reducible exact List.mem_cons_self ..)); (rotate_left; k_whole; intro t9 h9 tk9 F9 N9; (try k_sweep); (try dsimp only); (try k_fold); rotate_right); skip))
  k_with "call ref" => ((k_here; (with_reducible show wpAny _ _ (call (Value.ref 324) _ _) _ _ _); k_dflt (refine' law_pair_c ?k1q536 ?k2q536 ?k3q536 ?k4q536 ?k5q536 ?kKq536 ?kdq536 ?kuq536  ?p0q536 ?p1q536 ?p2q536 ?_; (case k1q536 => k_asm); (case k2q536 => k_asm); (case k3q536 => k_asm); (case k4q536 => k_asm); (case k5q536 => k_asm); (case kKq536 => first | exact rfl | assumption); (case kdq536 => ktr_room); (case kuq536 => ktr_units); (case p0q536 => first | with_reducible assumption | omega); (case p1q536 => first | with_reducible assumption | omega); (case p2q536 => first | with_reducible assumption | k_dflt (have hq := (‹lawPair _ _ = some _›); refine Eq.trans ?_ hq; law_clear; subst_vars; exact rfl) | kwd_less); k_whole); intro r9 z9 y9 t9 u9 h9 tk9 e9 f9 F9 N9; (try k_sweep); (try dsimp only); (try k_fold); skip))
  k_with "call ref" => ((k_here; (with_reducible show wpAny _ _ (call (Value.ref 355) _ _) _ _ _); k_dflt (refine' law_is_exp_right_c ?k1q537 ?k2q537 ?k3q537 (newsTab ?n1q537 ?n2q537 ?n3q537 ?sfq537) ?k5q537 ?kKq537 ?kdq537 ?kuq537 ?m0q537 ?p0q537 ?p1q537 (Sift.ne ?sfq537) ?p3q537 ?p4q537 ?p5q537 ?p6q537 ?p7q537 ?p8q537 ?_; (case k1q537 => k_asm); (case k2q537 => k_asm); (case k3q537 => k_asm); (case p1q537 => assumption); (case n1q537 => k_asm); (case n2q537 => k_mem); (case n3q537 => k_mem); (case sfq537 => repeat' (first | exact Sift.nil | exact Sift.all (by assumption) | exact Sift.all (allLt_ne (And.right (And.right ‹_ ∧ _ ∧ AllLt _ _›)) (by omega)) | exact Sift.all (ltAll (by assumption) (by omega)) | (apply Sift.keep; (case h => first | (refine neN ?_; first | walk_at "ne9" | omega) | exact newsNe (by assumption) (by k_mem) (by k_mem) (by assumption) (by intro _ e; cases e) | (refine' newsNeC ?nNq537 ?nAq537 ?nBq537 ?nCq537; (case nNq537 => assumption); (case nAq537 => k_mem); (case nBq537 => k_mem); (case nCq537 => first | (intro e; cases e; done) | (intro e; exact absurd (Value.type.inj e) (by decide)))) | (refine' codeNe ?nNq537 ?nAq537 ?nBq537 ?nDq537 ?nPq537 ?nGq537; (case nNq537 => assumption); (case nGq537 => assumption); (case nAq537 => k_mem); (case nBq537 => k_mem); (case nDq537 => assumption); (case nPq537 => k_mem)) | (refine' tabNe ?nNq537 ?nAq537 ?nBq537 ?nOq537 ?nGq537 ?nPq537; (case nNq537 => assumption); (case nGq537 => assumption); (case nAq537 => k_mem); (case nBq537 => k_mem); (case nOq537 => assumption); (case nPq537 => decide)))) | apply Sift.drop)); (case k5q537 => k_asm); (case kKq537 => first | exact rfl | assumption); (case kdq537 => ktr_room); (case kuq537 => ktr_units); (case m0q537 => k_mem); (case p0q537 => first | assumption | exact CodeHd.keeps (by assumption) (Fr.keep (by assumption))); (case p3q537 => first | with_reducible assumption | omega); (case p4q537 => first | with_reducible assumption | omega); (case p5q537 => first | assumption | ((try law_clear); subst_vars; first | exact lawV_sm | exact Sm.abs lawV_sm)); (case p6q537 => (try law_clear); subst_vars; exact lawV_lo); (case p7q537 => (try law_clear); subst_vars; exact lawV_hi); (case p8q537 => first | with_reducible assumption | k_dflt (have hq := (‹isExp _ _ _ = true›); refine Eq.trans ?_ hq; law_clear; subst_vars; exact rfl) | kwd_less); k_whole); intro q9 c9 o9 h9 tk9 ok9 g9 F9 N9; (try k_sweep); (try dsimp only); (try k_fold); skip))
  k_with "call ref" => ((k_here; (with_reducible show wpAny _ _ (call (Value.ref 360) _ _) _ _ _); k_dflt (refine' law_is_log_right_c ?k1q538 ?k2q538 ?k3q538 (newsTab ?n1q538 ?n2q538 ?n3q538 ?sfq538) ?k5q538 ?kKq538 ?kdq538 ?kuq538 ?m0q538 ?p0q538 ?p1q538 (Sift.ne ?sfq538) ?p3q538 ?p4q538 ?p5q538 ?p6q538 ?p7q538 ?p8q538 ?_; (case k1q538 => k_asm); (case k2q538 => k_asm); (case k3q538 => k_asm); (case p1q538 => assumption); (case n1q538 => k_asm); (case n2q538 => k_mem); (case n3q538 => k_mem); (case sfq538 => repeat' (first | exact Sift.nil | exact Sift.all (by assumption) | exact Sift.all (allLt_ne (And.right (And.right ‹_ ∧ _ ∧ AllLt _ _›)) (by omega)) | exact Sift.all (ltAll (by assumption) (by omega)) | (apply Sift.keep; (case h => first | (refine neN ?_; first | walk_at "ne9" | omega) | exact newsNe (by assumption) (by k_mem) (by k_mem) (by assumption) (by intro _ e; cases e) | (refine' newsNeC ?nNq538 ?nAq538 ?nBq538 ?nCq538; (case nNq538 => assumption); (case nAq538 => k_mem); (case nBq538 => k_mem); (case nCq538 => first | (intro e; cases e; done) | (intro e; exact absurd (Value.type.inj e) (by decide)))) | (refine' codeNe ?nNq538 ?nAq538 ?nBq538 ?nDq538 ?nPq538 ?nGq538; (case nNq538 => assumption); (case nGq538 => assumption); (case nAq538 => k_mem); (case nBq538 => k_mem); (case nDq538 => assumption); (case nPq538 => k_mem)) | (refine' tabNe ?nNq538 ?nAq538 ?nBq538 ?nOq538 ?nGq538 ?nPq538; (case nNq538 => assumption); (case nGq538 => assumption); (case nAq538 => k_mem); (case nBq538 => k_mem); (case nOq538 => assumption); (case nPq538 => decide)))) | apply Sift.drop)); (case k5q538 => k_asm); (case kKq538 => first | exact rfl | assumption); (case kdq538 => ktr_room); (case kuq538 => ktr_units); (case m0q538 => k_mem); (case p0q538 => first | assumption | exact CodeHd.keeps (by assumption) (Fr.keep (by assumption))); (case p3q538 => first | with_reducible assumption | omega); (case p4q538 => first | with_reducible assumption | omega); (case p5q538 => first | assumption | ((try law_clear); subst_vars; first | exact lawV_sm | exact Sm.abs lawV_sm)); (case p6q538 => (try law_clear); subst_vars; exact lawV_lo); (case p7q538 => (try law_clear); subst_vars; exact lawV_hi); (case p8q538 => first | with_reducible assumption | k_dflt (have hq := (‹isLog _ _ _ = true›); refine Eq.trans ?_ hq; law_clear; subst_vars; exact rfl) | kwd_less); k_whole); intro q9 c9 o9 h9 tk9 ok9 g9 F9 N9; (try k_sweep); (try dsimp only); (try k_fold); skip))
  k_with "call ref" => ((k_here; (with_reducible show wpAny _ _ (call (Value.ref 89) _ _) _ _ _); k_dflt (refine' real_c ?k1q539 ?k2q539 ?k3q539 ?k4q539 ?k5q539 ?kKq539 ?kdq539 ?kuq539   ?_; (case k1q539 => k_asm); (case k2q539 => k_asm); (case k3q539 => k_asm); (case k4q539 => k_asm); (case k5q539 => k_asm); (case kKq539 => first | exact rfl | assumption); (case kdq539 => ktr_room); (case kuq539 => ktr_units); k_whole); intro r9 d9 z9 y9 j9 t9 i9 u9 h9 tk9 e9 f9 F9 N9; (try k_sweep); (try dsimp only); (try k_fold); skip))
  k_with "call ref" => ((k_here; (with_reducible show wpAny _ _ (call (Value.ref 296) _ _) _ _ _); k_dflt (refine' exp_zero_c ?k1q540 ?k2q540 ?k3q540 ?k4q540 ?k5q540 ?kKq540 ?kdq540 ?kuq540 ?m0q540 ?m1q540 ?p0q540 ?_; (case k1q540 => k_asm); (case k2q540 => k_asm); (case k3q540 => k_asm); (case k4q540 => k_asm); (case k5q540 => k_asm); (case kKq540 => first | exact rfl | assumption); (case kdq540 => ktr_room); (case kuq540 => ktr_units); (case m0q540 => k_mem); (case m1q540 => k_mem); (case p0q540 => (try law_clear); subst_vars; decide); k_whole); intro r9 d9 z9 y9 j9 t9 i9 u9 h9 tk9 e9 f9 F9 N9; (try k_sweep); (try dsimp only); (try k_fold); skip))
  k_with "call ref" => ((k_here; (with_reducible show wpAny _ _ (call (Value.ref 296) _ _) _ _ _); k_dflt (refine' exp_raise_c ?k1q541 ?k2q541 ?k3q541 ?k4q541 ?k5q541 ?kKq541 ?kdq541 ?kuq541 ?m0q541 ?m1q541 ?p0q541 ?p1q541 ?_; (case k1q541 => k_asm); (case k2q541 => k_asm); (case k3q541 => k_asm); (case k4q541 => k_asm); (case k5q541 => k_asm); (case kKq541 => first | exact rfl | assumption); (case kdq541 => ktr_room); (case kuq541 => ktr_units); (case m0q541 => k_mem); (case m1q541 => k_mem); (case p0q541 => (try law_clear); subst_vars; decide); (case p1q541 => (try law_clear); subst_vars; decide); k_whole); intro g9 e9 h9 tk9 F9 R9 U9; (try k_sweep); (try dsimp only); (try k_fold); skip))
  k_with "call ref" => ((k_here; (with_reducible show wpAny _ _ (call (Value.ref 310) _ _) _ _ _); k_dflt (refine' log_raise_c ?k1q542 ?k2q542 ?k3q542 ?k4q542 ?k5q542 ?kKq542 ?kdq542 ?kuq542 ?m0q542 ?m1q542 ?p0q542 ?_; (case k1q542 => k_asm); (case k2q542 => k_asm); (case k3q542 => k_asm); (case k4q542 => k_asm); (case k5q542 => k_asm); (case kKq542 => first | exact rfl | assumption); (case kdq542 => ktr_room); (case kuq542 => ktr_units); (case m0q542 => k_mem); (case m1q542 => k_mem); (case p0q542 => (try law_clear); subst_vars; first | decide | exact sgn_abs); k_whole); intro g9 e9 h9 tk9 F9 R9 U9; (try k_sweep); (try dsimp only); (try k_fold); skip))
  trivial
theorem law_ok : PySem.Challenge.rw_nt0168_01.Holds := hd (by
  k_go0
  have hb9 := bitsB ‹IntsAre _ _›
  (all_goals try k_fold)
  k_steps
  all_goals (k_dflt (rename ThrowsTo _ _ _ _ _ _ _ _ _ => hT; refine' hT _ _ _ _ ?tA ?tR ?tU; (case tR => exact raised_sub (by assumption) (by first | ((repeat (first | exact sub_refl | refine sub_cons ?_)); done) | (intro p hp; first | exact hp | (repeat (first | exact hp | refine List.mem_cons_of_mem _ ?_))))); (case tA => assumption); (case tU => assumption))))
end
end Mine
theorem PySem.Challenge.cw_nt0168_01_holds : PySem.Challenge.rw_nt0168_01.Holds := by
  exact Mine.law_ok
