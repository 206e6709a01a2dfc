import PyProof.Rows.All
import Wide.All
import OpenK.AllK
import Wide.FinOn
import KE.KTryMore
import PyProof.InstStoreFacts
import PySem.Challenge.RW_nt0168_01
open PySem PySem.W PyProof.Rows
set_option Elab.async false
set_option genSizeOf false
set_option genInjectivity false
set_option maxRecDepth 100000
set_option maxHeartbeats 0
namespace Mine
/-- a statement of the text, by its place -/
noncomputable def sAt (i : Nat) : Stmt := (PySem.Challenge.pw_nt0168_01.main.body)[i]?.getD (.Pass ⟨0, 0, 0, 0⟩)
noncomputable def view9 : Program := { PySem.Challenge.pw_nt0168_01 with main := { PySem.Challenge.pw_nt0168_01.main with body := [sAt 1, sAt 2, sAt 3, sAt 5, sAt 6, sAt 7, sAt 8, sAt 9, sAt 10, sAt 11, sAt 12, sAt 13, sAt 14, sAt 15, sAt 16, sAt 17, sAt 19, sAt 20, sAt 21, sAt 22, sAt 23, sAt 24, sAt 25, sAt 26, sAt 27, sAt 28, sAt 29, sAt 30, sAt 31, sAt 32, sAt 33, sAt 34, sAt 35, sAt 36, sAt 37, sAt 38, sAt 39, sAt 40, sAt 42, sAt 43, sAt 44, sAt 45, sAt 46, sAt 47, sAt 48, sAt 49, sAt 50, sAt 51] } }
theorem said9 : PySem.Challenge.rw_nt0168_01.wellSaid = true := by kernel_rfl
local macro_rules | `(tactic| o_law) => `(tactic| refine holds_law said9 fun said => ?_)
local macro_rules | `(tactic| o_head $H) => `(tactic| ((refine holds_open (q := view9) (loose := [PySem.Str.ofString "REACH"]) (Xt := fun s => xlAt view9 [(PySem.Str.ofString "REACH", WData.int 65536)] s && recOk (RowW.records (OpenRow.toRowW PySem.Challenge.rw_nt0168_01.row)) s) (XP := XL view9 [(PySem.Str.ofString "REACH", WData.int 65536)]) (Yf := Hook.obs $H) (Ya := Hook.val $H) (YP := Hook.says $H) (N := 4688) ?hl (Hook.of $H) (Hook.keeps $H) (fun s e => xl_of s (Bool.and_eq_true_iff.mp e).1) XL.keeps (by rfl) (by rfl) (by rfl) (fun s e => recFacts_of (Bool.and_eq_true_iff.mp e).2) (by rfl) (by first | assumption | decide +kernel) (by decide +kernel) ⟨rfl, rfl, rfl, rfl, rfl, by decide +kernel⟩ ?hw ?hc); (case hl => (intro w; kernel_rfl)); (all_goals (rename_i x; clear x))))
open_top hd for PySem.Challenge.rw_nt0168_01
theorem fill_ok (h : hd.heap_1 = hd.heap_1 ∧ PySem.Challenge.rw_nt0168_01.Holds) : hd.heap_1 = hd.heap_1 ∧ PySem.Challenge.rw_nt0168_01.Holds := by k_fill; exact h
section
open PySem PySem.W PySem.Spec PySem.Calls PyProof.Rows
set_option Elab.async false
set_option maxRecDepth 100000
set_option maxHeartbeats 0
theorem sub_refl {α : Type} {l : List α} : ∀ p ∈ l, p ∈ l := fun _ h => h
theorem sub_cons {α : Type} {l l' : List α} {a : α} (h : ∀ p ∈ l, p ∈ l') : ∀ p ∈ l, p ∈ a :: l' := fun p hp => List.mem_cons_of_mem a (h p hp)
theorem room2 {d a k j R : Nat} (h : d + a < R) (e : Nat.ble (k + j) a = true) : d + k + j < R := by have := Nat.le_of_ble_eq_true e; omega
theorem room1 {d a k R : Nat} (h : d + a < R) (e : Nat.ble k a = true) : d + k < R := by have := Nat.le_of_ble_eq_true e; omega
theorem room0 {d a R : Nat} (h : d + a < R) : d < R := Nat.lt_of_le_of_lt (Nat.le_add_right d a) h
theorem ev3 {α β γ δ : Type} {F : α → β → γ → δ} {x x' : α} {y y' : β} {z z' : γ} {v : δ} (hx : x = x') (hy : y = y') (hz : z = z') (h : F x' y' z' = v) : F x y z = v := by subst hx hy hz; exact h
theorem ltc {x d : Nat} {P : Prop} (h : x < d ∧ P) {a : Nat} (k : x < d ∧ P → a < d) : a < d := k h
theorem ne_up1 {a n : Nat} (h : a < n) : a ≠ n + 1 := Nat.ne_of_lt (Nat.lt_succ_of_lt h)
theorem ne_up2 {a n : Nat} (h : a < n) : a ≠ n + 1 + 1 := Nat.ne_of_lt (Nat.lt_succ_of_lt (Nat.lt_succ_of_lt h))
theorem pj1 {a1 b : Prop} (h : a1 ∧ b) : a1 := h.1
theorem pj2 {a1 a2 b : Prop} (h : a1 ∧ a2 ∧ b) : a2 := h.2.1
theorem pj3 {a1 a2 a3 b : Prop} (h : a1 ∧ a2 ∧ a3 ∧ b) : a3 := h.2.2.1
theorem pj4 {a1 a2 a3 a4 b : Prop} (h : a1 ∧ a2 ∧ a3 ∧ a4 ∧ b) : a4 := h.2.2.2.1
theorem pj5 {a1 a2 a3 a4 a5 b : Prop} (h : a1 ∧ a2 ∧ a3 ∧ a4 ∧ a5 ∧ b) : a5 := h.2.2.2.2.1
theorem pj6 {a1 a2 a3 a4 a5 a6 b : Prop} (h : a1 ∧ a2 ∧ a3 ∧ a4 ∧ a5 ∧ a6 ∧ b) : a6 := h.2.2.2.2.2.1
theorem pj7 {a1 a2 a3 a4 a5 a6 a7 b : Prop} (h : a1 ∧ a2 ∧ a3 ∧ a4 ∧ a5 ∧ a6 ∧ a7 ∧ b) : a7 := h.2.2.2.2.2.2.1
theorem pj8 {a1 a2 a3 a4 a5 a6 a7 a8 b : Prop} (h : a1 ∧ a2 ∧ a3 ∧ a4 ∧ a5 ∧ a6 ∧ a7 ∧ a8 ∧ b) : a8 := h.2.2.2.2.2.2.2.1
theorem pj9 {a1 a2 a3 a4 a5 a6 a7 a8 a9 b : Prop} (h : a1 ∧ a2 ∧ a3 ∧ a4 ∧ a5 ∧ a6 ∧ a7 ∧ a8 ∧ a9 ∧ b) : a9 := h.2.2.2.2.2.2.2.2.1
theorem pj10 {a1 a2 a3 a4 a5 a6 a7 a8 a9 a10 b : Prop} (h : a1 ∧ a2 ∧ a3 ∧ a4 ∧ a5 ∧ a6 ∧ a7 ∧ a8 ∧ a9 ∧ a10 ∧ b) : a10 := h.2.2.2.2.2.2.2.2.2.1
theorem pj11 {a1 a2 a3 a4 a5 a6 a7 a8 a9 a10 a11 b : Prop} (h : a1 ∧ a2 ∧ a3 ∧ a4 ∧ a5 ∧ a6 ∧ a7 ∧ a8 ∧ a9 ∧ a10 ∧ a11 ∧ b) : a11 := h.2.2.2.2.2.2.2.2.2.2.1
theorem pj12 {a1 a2 a3 a4 a5 a6 a7 a8 a9 a10 a11 a12 b : Prop} (h : a1 ∧ a2 ∧ a3 ∧ a4 ∧ a5 ∧ a6 ∧ a7 ∧ a8 ∧ a9 ∧ a10 ∧ a11 ∧ a12 ∧ b) : a12 := h.2.2.2.2.2.2.2.2.2.2.2.1
theorem pj13 {a1 a2 a3 a4 a5 a6 a7 a8 a9 a10 a11 a12 a13 b : Prop} (h : a1 ∧ a2 ∧ a3 ∧ a4 ∧ a5 ∧ a6 ∧ a7 ∧ a8 ∧ a9 ∧ a10 ∧ a11 ∧ a12 ∧ a13 ∧ b) : a13 := h.2.2.2.2.2.2.2.2.2.2.2.2.1
theorem pj14 {a1 a2 a3 a4 a5 a6 a7 a8 a9 a10 a11 a12 a13 a14 b : Prop} (h : a1 ∧ a2 ∧ a3 ∧ a4 ∧ a5 ∧ a6 ∧ a7 ∧ a8 ∧ a9 ∧ a10 ∧ a11 ∧ a12 ∧ a13 ∧ a14 ∧ b) : a14 := h.2.2.2.2.2.2.2.2.2.2.2.2.2.1
theorem qj1 {a1 b : Prop} (h : a1 ∧ b) : b := h.2
theorem qj2 {a1 a2 b : Prop} (h : a1 ∧ a2 ∧ b) : b := h.2.2
theorem qj3 {a1 a2 a3 b : Prop} (h : a1 ∧ a2 ∧ a3 ∧ b) : b := h.2.2.2
theorem qj4 {a1 a2 a3 a4 b : Prop} (h : a1 ∧ a2 ∧ a3 ∧ a4 ∧ b) : b := h.2.2.2.2
theorem qj5 {a1 a2 a3 a4 a5 b : Prop} (h : a1 ∧ a2 ∧ a3 ∧ a4 ∧ a5 ∧ b) : b := h.2.2.2.2.2
theorem qj6 {a1 a2 a3 a4 a5 a6 b : Prop} (h : a1 ∧ a2 ∧ a3 ∧ a4 ∧ a5 ∧ a6 ∧ b) : b := h.2.2.2.2.2.2
theorem qj7 {a1 a2 a3 a4 a5 a6 a7 b : Prop} (h : a1 ∧ a2 ∧ a3 ∧ a4 ∧ a5 ∧ a6 ∧ a7 ∧ b) : b := h.2.2.2.2.2.2.2
theorem qj8 {a1 a2 a3 a4 a5 a6 a7 a8 b : Prop} (h : a1 ∧ a2 ∧ a3 ∧ a4 ∧ a5 ∧ a6 ∧ a7 ∧ a8 ∧ b) : b := h.2.2.2.2.2.2.2.2
theorem qj9 {a1 a2 a3 a4 a5 a6 a7 a8 a9 b : Prop} (h : a1 ∧ a2 ∧ a3 ∧ a4 ∧ a5 ∧ a6 ∧ a7 ∧ a8 ∧ a9 ∧ b) : b := h.2.2.2.2.2.2.2.2.2
theorem qj10 {a1 a2 a3 a4 a5 a6 a7 a8 a9 a10 b : Prop} (h : a1 ∧ a2 ∧ a3 ∧ a4 ∧ a5 ∧ a6 ∧ a7 ∧ a8 ∧ a9 ∧ a10 ∧ b) : b := h.2.2.2.2.2.2.2.2.2.2
theorem qj11 {a1 a2 a3 a4 a5 a6 a7 a8 a9 a10 a11 b : Prop} (h : a1 ∧ a2 ∧ a3 ∧ a4 ∧ a5 ∧ a6 ∧ a7 ∧ a8 ∧ a9 ∧ a10 ∧ a11 ∧ b) : b := h.2.2.2.2.2.2.2.2.2.2.2
theorem qj12 {a1 a2 a3 a4 a5 a6 a7 a8 a9 a10 a11 a12 b : Prop} (h : a1 ∧ a2 ∧ a3 ∧ a4 ∧ a5 ∧ a6 ∧ a7 ∧ a8 ∧ a9 ∧ a10 ∧ a11 ∧ a12 ∧ b) : b := h.2.2.2.2.2.2.2.2.2.2.2.2
theorem qj13 {a1 a2 a3 a4 a5 a6 a7 a8 a9 a10 a11 a12 a13 b : Prop} (h : a1 ∧ a2 ∧ a3 ∧ a4 ∧ a5 ∧ a6 ∧ a7 ∧ a8 ∧ a9 ∧ a10 ∧ a11 ∧ a12 ∧ a13 ∧ b) : b := h.2.2.2.2.2.2.2.2.2.2.2.2.2
theorem qj14 {a1 a2 a3 a4 a5 a6 a7 a8 a9 a10 a11 a12 a13 a14 b : Prop} (h : a1 ∧ a2 ∧ a3 ∧ a4 ∧ a5 ∧ a6 ∧ a7 ∧ a8 ∧ a9 ∧ a10 ∧ a11 ∧ a12 ∧ a13 ∧ a14 ∧ b) : b := h.2.2.2.2.2.2.2.2.2.2.2.2.2.2
/-- a size that every step of the model takes -/
noncomputable def Sm (x : Int) : Prop := Builtin.Int.intBits x ≤ 8000
noncomputable instance (x : Int) : Decidable (Sm x) := inferInstanceAs (Decidable (Builtin.Int.intBits x ≤ 8000))
theorem Sm.mul {x y : Int} (hx : Sm x) (hy : Sm y) : IntMulOk x y := mulOk_of_bits hx hy (by decide)
theorem Sm.py {x y : Int} (hy : Sm y) : Builtin.divisionGoesByPylong x y = false := by
  refine PyProof.noPylong_of_log2 ?_
  unfold Sm Builtin.Int.intBits at hy
  by_cases h0 : y = 0
  · subst h0; decide +kernel
  · rw [if_neg (by simpa using h0)] at hy; omega
theorem Sm.shl {x n : Int} (hx : Sm x) (hn : n < 10000) : (Builtin.Int.intBits x : Int) + n ≤ 2 ^ 27 := by
  unfold Sm at hx; omega
theorem Sm.of_le {x : Int} (h : x.natAbs < 2 ^ 64) : Sm x := Nat.le_trans (intBits_le h) (by decide)
theorem sm_one : Sm 1 := by decide
theorem Sm.pow2 {n : Int} (hn : n < 7000) : Sm (1 * 2 ^ n.toNat) := by
  refine Nat.le_trans (intBits_le (k := n.toNat + 1) ?_) (by omega)
  rw [Int.one_mul, Int.natAbs_pow]
  exact Nat.pow_lt_pow_right (by decide) (Nat.lt_succ_self _)
theorem pow2_pos (n : Nat) : (0 : Int) < 2 ^ n := Int.pow_pos (by decide)

noncomputable def absI (x : Int) : Int := if x < 0 then -x else x
noncomputable def maxI (x y : Int) : Int := if y > x then y else x
noncomputable def minI (x y : Int) : Int := if y < x then y else x

section
variable {prog : Program} {w : World} {A : Around} {E : Value → Shared → Prop} {s : Shared} {h₀ : Heap} {L : Addr} {m : Str → Option Value} {news : List (Addr × Obj)} {l : Addr} {Q : Value → Shared → Prop}

theorem tup_old {h h' : Heap} {l : Addr} (hk : ∀ b o, b ∉ [h.objs.size] → (h.push { cls := .type "tuple_iterator", data := .fields #[.ref l, .int 0 0] }).get? b = some o → h'.get? b = some o) :
    ∀ b o, h.get? b = some o → h'.get? b = some o := fun b o e => by
  refine hk b o (fun hm => ?_) (Heap.get?_push_of_some _ e)
  rcases List.mem_cons.mp hm with e1 | hm
  · exact absurd (e1 ▸ Heap.lt_size e) (Nat.lt_irrefl _)
  · cases hm

theorem max_tup {x y : Int} {t u : Tok} (hh : A.handled = none) (F : Fr h₀ L s.heap m) (N : News h₀ L s.heap news) (ht : IsTup s.heap l #[.int x t, .int y u])
    (h : ∀ h' r tk, Fr h₀ L h' m → News h₀ L h' news → Q (.int (maxI x y) r) { s with heap := h', toks := tk }) :
    wpAny (model prog w) A (call (.builtin "max") [.ref l]) Q E s := by
  have hlt : l < s.heap.objs.size := by obtain ⟨_, e, _⟩ := ht; exact Heap.lt_size e
  refine call_max_walk (iter_tuple ht ?_)
  have hT : (s.heap.push { cls := .type "tuple_iterator", data := .fields #[.ref l, .int 0 0] }).IsTuple l #[.int x t, .int y u] := IsTup.keeps ht fun b o e => Heap.get?_push_of_some _ e
  refine ⟨_, _, _, _, _, _, _, rfl, Walks.tuple (A := A.in1) hh _ l (Nat.ne_of_lt hlt) #[.int x t, .int y u], ⟨⟨_, Heap.get?_push_size _ rfl, rfl, rfl⟩, hT⟩, ?_, Nat.succ_pos _,
    CmpOf.ints_gt (fun i => if i = 0 then x else y) ?_, ?_⟩
  · intro b hb
    show b < (s.heap.push _).objs.size
    rw [Heap.size_push]
    rcases List.mem_cons.mp hb with rfl | hb
    · exact Nat.lt_succ_self _
    · rcases List.mem_cons.mp hb with rfl | hb
      · exact Nat.lt_succ_of_lt hlt
      · cases hb
  · intro i v e
    match i, e with
    | 0, e => exact ⟨t, (Option.some.inj e).symm⟩
    | 1, e => exact ⟨u, (Option.some.inj e).symm⟩
    | i + 2, e => simp at e
  · intro v h' tk hP hk
    have hk' := tup_old hk
    have e : ∃ r, v = .int (maxI x y) r := by
      by_cases hc : y > x
      · simp [argBest, hc] at hP; exact ⟨u, by rw [← hP, maxI, if_pos hc]⟩
      · simp [argBest, hc] at hP; exact ⟨t, by rw [← hP, maxI, if_neg hc]⟩
    obtain ⟨r, rfl⟩ := e
    exact h h' r tk (F.grownK hk') (N.grown hk')

theorem min_tup {x y : Int} {t u : Tok} (hh : A.handled = none) (F : Fr h₀ L s.heap m) (N : News h₀ L s.heap news) (ht : IsTup s.heap l #[.int x t, .int y u])
    (h : ∀ h' r tk, Fr h₀ L h' m → News h₀ L h' news → Q (.int (minI x y) r) { s with heap := h', toks := tk }) :
    wpAny (model prog w) A (call (.builtin "min") [.ref l]) Q E s := by
  have hlt : l < s.heap.objs.size := by obtain ⟨_, e, _⟩ := ht; exact Heap.lt_size e
  refine call_min_walk (iter_tuple ht ?_)
  have hT : (s.heap.push { cls := .type "tuple_iterator", data := .fields #[.ref l, .int 0 0] }).IsTuple l #[.int x t, .int y u] := IsTup.keeps ht fun b o e => Heap.get?_push_of_some _ e
  refine ⟨_, _, _, _, _, _, _, rfl, Walks.tuple (A := A.in1) hh _ l (Nat.ne_of_lt hlt) #[.int x t, .int y u], ⟨⟨_, Heap.get?_push_size _ rfl, rfl, rfl⟩, hT⟩, ?_, Nat.succ_pos _,
    CmpOf.ints_lt (fun i => if i = 0 then x else y) ?_, ?_⟩
  · intro b hb
    show b < (s.heap.push _).objs.size
    rw [Heap.size_push]
    rcases List.mem_cons.mp hb with rfl | hb
    · exact Nat.lt_succ_self _
    · rcases List.mem_cons.mp hb with rfl | hb
      · exact Nat.lt_succ_of_lt hlt
      · cases hb
  · intro i v e
    match i, e with
    | 0, e => exact ⟨t, (Option.some.inj e).symm⟩
    | 1, e => exact ⟨u, (Option.some.inj e).symm⟩
    | i + 2, e => simp at e
  · intro v h' tk hP hk
    have hk' := tup_old hk
    have e : ∃ r, v = .int (minI x y) r := by
      by_cases hc : y < x
      · simp [argBest, hc] at hP; exact ⟨u, by rw [← hP, minI, if_pos hc]⟩
      · simp [argBest, hc] at hP; exact ⟨t, by rw [← hP, minI, if_neg hc]⟩
    obtain ⟨r, rfl⟩ := e
    exact h h' r tk (F.grownK hk') (N.grown hk')

noncomputable abbrev tupO (x : Int) (t : Tok) (y : Int) (u : Tok) : Obj := { cls := .type "tuple", data := .seq #[.int x t, .int y u] }
noncomputable abbrev realO (w : World) (j : Tok) (x : Int) (t : Tok) (k : Tok) (y : Int) (u : Tok) : Obj :=
  dictOf [⟨PyData.keyHash w.params (Str.ofString "mantissa"), .str (Str.ofString "mantissa") j, .int x t⟩, ⟨PyData.keyHash w.params (Str.ofString "exponent"), .str (Str.ofString "exponent") k, .int y u⟩] 2
theorem retI {h' : Heap} {tk' : Nat} {x y : Int} {t : Tok} {news' : List (Addr × Obj)} (hret : ∀ z t h' tk', z = x → Fr h₀ L h' m → News h₀ L h' news → Q (.int z t) { s with heap := h', toks := tk' })
    (F : Fr h₀ L h' m) (N : News h₀ L h' news') (hs : ∀ p ∈ news, p ∈ news') (e : y = x) : Q (.int y t) { s with heap := h', toks := tk' } := hret _ _ _ _ e F fun p hp => N p (hs p hp)
theorem retB {h' : Heap} {tk' : Nat} {x y : Bool} {news' : List (Addr × Obj)} (hret : ∀ h' tk', Fr h₀ L h' m → News h₀ L h' news → Q (.bool x) { s with heap := h', toks := tk' })
    (F : Fr h₀ L h' m) (N : News h₀ L h' news') (hs : ∀ p ∈ news, p ∈ news') (e : y = x) : Q (.bool y) { s with heap := h', toks := tk' } := e ▸ hret _ _ F fun p hp => N p (hs p hp)
theorem retT {h' : Heap} {tk' : Nat} {r : Addr} {v : Int × Int} {y1 y2 : Int} {t1 t2 : Tok} {news' : List (Addr × Obj)} (hret : ∀ r z1 z2 u1 u2 h' tk', z1 = v.1 → z2 = v.2 → Fr h₀ L h' m → News h₀ L h' ((r, tupO z1 u1 z2 u2) :: news) → Q (.ref r) { s with heap := h', toks := tk' })
    (F : Fr h₀ L h' m) (N : News h₀ L h' news') (hm : (r, tupO y1 t1 y2 t2) ∈ news') (hs : ∀ p ∈ news, p ∈ news') (e : (y1, y2) = v) : Q (.ref r) { s with heap := h', toks := tk' } :=
  hret _ _ _ _ _ _ _ (congrArg Prod.fst e) (congrArg Prod.snd e) F fun p hp => N p ((List.mem_cons.mp hp).elim (fun q => q ▸ hm) (hs p))
theorem retOT {h' : Heap} {tk' : Nat} {r : Addr} {v : Option (Int × Int)} {y1 y2 : Int} {t1 t2 : Tok} {news' : List (Addr × Obj)} (hret : ∀ r z1 z2 u1 u2 h' tk', some (z1, z2) = v → Fr h₀ L h' m → News h₀ L h' ((r, tupO z1 u1 z2 u2) :: news) → Q (.ref r) { s with heap := h', toks := tk' })
    (F : Fr h₀ L h' m) (N : News h₀ L h' news') (hm : (r, tupO y1 t1 y2 t2) ∈ news') (hs : ∀ p ∈ news, p ∈ news') (e : some (y1, y2) = v) : Q (.ref r) { s with heap := h', toks := tk' } :=
  hret _ _ _ _ _ _ _ e F fun p hp => N p ((List.mem_cons.mp hp).elim (fun q => q ▸ hm) (hs p))
theorem retOR {w : World} {h' : Heap} {tk' : Nat} {r d : Addr} {v : Option (Int × Int)} {y1 y2 : Int} {j t1 k t2 : Tok} {news' : List (Addr × Obj)} (hret : ∀ r d z1 z2 j u1 k u2 h' tk', some (z1, z2) = v → Fr h₀ L h' m → News h₀ L h' ((r, instObj (nat_lit 89) d) :: (d, realO w j z1 u1 k z2 u2) :: news) → Q (.ref r) { s with heap := h', toks := tk' })
    (F : Fr h₀ L h' m) (N : News h₀ L h' news') (hm : (r, instObj (nat_lit 89) d) ∈ news') (hm2 : (d, realO w j y1 t1 k y2 t2) ∈ news') (hs : ∀ p ∈ news, p ∈ news') (e : some (y1, y2) = v) : Q (.ref r) { s with heap := h', toks := tk' } :=
  hret _ _ _ _ _ _ _ _ _ _ e F fun p hp => N p ((List.mem_cons.mp hp).elim (fun q => q ▸ hm) fun hp => (List.mem_cons.mp hp).elim (fun q => q ▸ hm2) (hs p))
theorem retOI {h' : Heap} {tk' : Nat} {y : Int} {v : Option Int} {t : Tok} {news' : List (Addr × Obj)} (hret : ∀ z t h' tk', some z = v → Fr h₀ L h' m → News h₀ L h' news → Q (.int z t) { s with heap := h', toks := tk' })
    (F : Fr h₀ L h' m) (N : News h₀ L h' news') (hs : ∀ p ∈ news, p ∈ news') (e : some y = v) : Q (.int y t) { s with heap := h', toks := tk' } := hret _ _ _ _ e F fun p hp => N p (hs p hp)
theorem retR {w : World} {h' : Heap} {tk' : Nat} {r d : Addr} {v : Int × Int} {y1 y2 : Int} {j t1 k t2 : Tok} {news' : List (Addr × Obj)} (hret : ∀ r d z1 z2 j u1 k u2 h' tk', z1 = v.1 → z2 = v.2 → Fr h₀ L h' m → News h₀ L h' ((r, instObj (nat_lit 89) d) :: (d, realO w j z1 u1 k z2 u2) :: news) → Q (.ref r) { s with heap := h', toks := tk' })
    (F : Fr h₀ L h' m) (N : News h₀ L h' news') (hm : (r, instObj (nat_lit 89) d) ∈ news') (hm2 : (d, realO w j y1 t1 k y2 t2) ∈ news') (hs : ∀ p ∈ news, p ∈ news') (e : (y1, y2) = v) : Q (.ref r) { s with heap := h', toks := tk' } :=
  hret _ _ _ _ _ _ _ _ _ _ (congrArg Prod.fst e) (congrArg Prod.snd e) F fun p hp => N p ((List.mem_cons.mp hp).elim (fun q => q ▸ hm) fun hp => (List.mem_cons.mp hp).elim (fun q => q ▸ hm2) (hs p))

noncomputable def max4 (a b c d : Int) : Int := maxI (maxI (maxI a b) c) d
noncomputable def min4 (a b c d : Int) : Int := minI (minI (minI a b) c) d
theorem max4_eq {a b c d M : Int} (h : M ∈ [a, b, c, d]) (k : ∀ x, x ∈ [a, b, c, d] → x ≤ M) : M = max4 a b c d := by
  have ka := k a (by simp)
  have kb := k b (by simp)
  have kc := k c (by simp)
  have kd := k d (by simp)
  simp only [List.mem_cons, List.not_mem_nil, or_false] at h
  simp only [max4, maxI]
  repeat' split
  all_goals omega
theorem min4_eq {a b c d M : Int} (h : M ∈ [a, b, c, d]) (k : ∀ x, x ∈ [a, b, c, d] → M ≤ x) : M = min4 a b c d := by
  have ka := k a (by simp)
  have kb := k b (by simp)
  have kc := k c (by simp)
  have kd := k d (by simp)
  simp only [List.mem_cons, List.not_mem_nil, or_false] at h
  simp only [min4, minI]
  repeat' split
  all_goals omega

theorem max_list4 {a b c d : Int} {t u v z : Tok} (hh : A.handled = none) (F : Fr h₀ L s.heap m) (N : News h₀ L s.heap news) (hl : s.heap.IsList l #[.int a t, .int b u, .int c v, .int d z])
    (h : ∀ h' r tk, Fr h₀ L h' m → News h₀ L h' news → Q (.int (max4 a b c d) r) { s with heap := h', toks := tk }) :
    wpAny (model prog w) A (call (.builtin "max") [.ref l]) Q E s := by
  refine max_list_N (vs := [.int a t, .int b u, .int c v, .int d z]) (ns := [a, b, c, d]) hh F N hl (.cons _ _ (.cons _ _ (.cons _ _ (.cons _ _ .nil)))) (Nat.succ_pos _) fun h' M r tk F' N' hM hle => ?_
  rw [max4_eq hM hle]
  exact h h' r tk F' N'
theorem min_list4 {a b c d : Int} {t u v z : Tok} (hh : A.handled = none) (F : Fr h₀ L s.heap m) (N : News h₀ L s.heap news) (hl : s.heap.IsList l #[.int a t, .int b u, .int c v, .int d z])
    (h : ∀ h' r tk, Fr h₀ L h' m → News h₀ L h' news → Q (.int (min4 a b c d) r) { s with heap := h', toks := tk }) :
    wpAny (model prog w) A (call (.builtin "min") [.ref l]) Q E s := by
  refine min_list_N (vs := [.int a t, .int b u, .int c v, .int d z]) (ns := [a, b, c, d]) hh F N hl (.cons _ _ (.cons _ _ (.cons _ _ (.cons _ _ .nil)))) (Nat.succ_pos _) fun h' M r tk F' N' hM hle => ?_
  rw [min4_eq hM hle]
  exact h h' r tk F' N'
end
end
section
open PySem PySem.W PySem.Spec PySem.Calls PyProof.Rows
set_option Elab.async false
structure IS where
  n : Nat
  p : Int
  t : Int
  e : Int
  k : Int
  a : Tok
  b : Tok
  c : Tok
  d : Tok
  f : Tok
structure ES where
  n : Nat
  T1 : Int
  T2 : Int
  D1 : Int
  D2 : Int
  k : Int
  aT : Addr
  aD : Addr
  a : Tok
  b : Tok
  c : Tok
  d : Tok
  f : Tok
structure OS where
  n : Nat
  T1 : Int
  T2 : Int
  D1 : Int
  D2 : Int
  k : Int
  aT : Addr
  aD : Addr
  aQ : Addr
  a : Tok
  b : Tok
  c : Tok
  d : Tok
  e : Tok
  f : Tok
  g : Tok
  h : Tok
/-! what the defs compute, in plain Lean -/
noncomputable def p2 (n : Int) : Int := ((2 ^ n.toNat : Nat) : Int)
theorem p2_eq (n : Int) : p2 n = 2 ^ n.toNat := by unfold p2; rw [Int.natCast_pow]; rfl
noncomputable def szI (x : Int) : Int := ((Builtin.Int.intBits (absI x) : Nat) : Int)
noncomputable def sgn (x : Int) : Int := b2i (decide (0 < x)) - b2i (decide (x < 0))
noncomputable def zerosI (x : Int) : Int := ((Builtin.Int.intBits (Builtin.bitAnd x (0 - x)) : Nat) : Int) - 1
noncomputable def upShift (x p : Int) : Int := 0 - (0 - x).fdiv (p2 p)
noncomputable def upOver (x b : Int) : Int := 0 - (0 - x).fdiv b
noncomputable def fracB (work top bottom : Int) : Int × Int := ((top * p2 work).fdiv bottom, upOver (top * p2 work) bottom)
noncomputable def moreI (a b : Int × Int) : Int × Int := (a.1 + b.1, a.2 + b.2)
noncomputable def lessI (a b : Int × Int) : Int × Int := (a.1 - b.2, a.2 - b.1)
noncomputable def oftenI (a : Int × Int) (t : Int) : Int × Int := (minI (a.1 * t) (a.2 * t), maxI (a.1 * t) (a.2 * t))
noncomputable def prodI (work : Int) (a b : Int × Int) : Int × Int :=
  ((min4 (a.1 * b.1) (a.1 * b.2) (a.2 * b.1) (a.2 * b.2)).fdiv (p2 work), upShift (max4 (a.1 * b.1) (a.1 * b.2) (a.2 * b.1) (a.2 * b.2)) work)
noncomputable def partI (a : Int × Int) (b : Int) : Int × Int := (a.1.fdiv b, upOver a.2 b)
noncomputable def widI (a : Int × Int) (b : Int) : Int × Int := (a.1 - b, a.2 + b)
noncomputable def greatI (a : Int × Int) : Int := maxI (absI a.1) (absI a.2)
/-- lean: no raise, no shift below nought -/
noncomputable def leanF (m e : Int) : Option (Int × Int) :=
  if m = 0 then some (0, 0) else
  if absI (szI m + e) ≤ 65536 ∧ 0 ≤ zerosI m then some (m.fdiv (p2 (zerosI m)), e + zerosI m) else none
noncomputable def nearI (n g : Int) : Int :=
  if Builtin.bitAnd n (1 * p2 g - 1) > 1 * p2 (g - 1) ∨ (Builtin.bitAnd n (1 * p2 g - 1) = 1 * p2 (g - 1) ∧ Builtin.bitAnd (n.fdiv (p2 g)) 1 = 1) then n.fdiv (p2 g) + 1 else n.fdiv (p2 g)
noncomputable def shiftedF (p m e : Int) : Option (Int × Int) :=
  if szI m - p ≤ 0 then leanF m e else
  if szI m - p < 5000 ∧ Sm (nearI (absI m) (szI m - p)) then leanF (sgn m * nearI (absI m) (szI m - p)) (e + (szI m - p)) else none
noncomputable def stickyI (n : Int) (b : Bool) : Int := 2 * n + (if b = true then 1 else 0)
noncomputable def roundF (p top bottom : Int) : Option (Int × Int) :=
  if top = 0 then some (0, 0) else
  let sh := p + 2 + szI bottom - szI top
  if bottom > 0 ∧ Sm top ∧ Sm bottom ∧ sh < 5000 ∧ -5000 < sh then
    if sh ≥ 0 then (if Sm (stickyI ((absI top * p2 sh).fdiv bottom) ((absI top * p2 sh).fmod bottom != 0)) then shiftedF p (sgn top * stickyI ((absI top * p2 sh).fdiv bottom) ((absI top * p2 sh).fmod bottom != 0)) (0 - sh - 1) else none)
    else if Sm (bottom * p2 (0 - sh)) ∧ Sm (stickyI ((absI top).fdiv (bottom * p2 (0 - sh))) ((absI top).fmod (bottom * p2 (0 - sh)) != 0)) then shiftedF p (sgn top * stickyI ((absI top).fdiv (bottom * p2 (0 - sh))) ((absI top).fmod (bottom * p2 (0 - sh)) != 0)) (0 - sh - 1) else none
  else none
noncomputable def placeI (m e : Int) : Int := szI m + e
noncomputable def fracOf (m e : Int) : Int × Int := if e ≥ 0 then (m * p2 e, 1) else (m, 1 * p2 (0 - e))
noncomputable def invF : Nat → Int → Int → Int → Int → Option (Int × Int)
  | 0, _, _, _, _ => none
  | n + 1, power, total, ex, steps =>
    if power > 0 then invF n (power.fdiv 9) (total + power.fdiv ex) (ex + 2) (steps + 1) else some (total, steps)
noncomputable def log2F (work : Int) : Option (Int × Int) :=
  match invF 60 ((p2 work).fdiv 3) 0 1 0 with
  | none => none
  | some (t, k) => some (oftenI (widI (t, t) (2 * k + 4)) 2)
noncomputable def expL : Nat → Int → Int × Int → Int × Int → Int × Int → Int → Option ((Int × Int) × (Int × Int))
  | 0, _, _, _, _, _ => none
  | n + 1, work, rest, total, term, count =>
    if greatI term > 1 then
      if Sm term.1 ∧ Sm term.2 ∧ 0 < count ∧ Sm count then
        let t := partI (prodI work term rest) count
        expL n work rest (moreI total t) t (count + 1)
      else none
    else some (total, term)
noncomputable def expS (work : Int) (rest : Int × Int) : Option (Int × Int) :=
  if Sm rest.1 ∧ Sm rest.2 then
    match expL 60 work rest (1 * p2 work, 1 * p2 work) (1 * p2 work, 1 * p2 work) 1 with
    | none => none
    | some (total, term) => some (widI total (2 * greatI term + 2))
  else none
noncomputable def oddL : Nat → Int → Int × Int → Int × Int → Int × Int → Int → Option ((Int × Int) × (Int × Int))
  | 0, _, _, _, _, _ => none
  | n + 1, work, square, power, total, ex =>
    if greatI power > 1 then
      if Sm power.1 ∧ Sm power.2 ∧ 0 < ex ∧ Sm ex then
        let q := prodI work power square
        oddL n work square q (moreI total (oftenI (partI q (ex + 2)) 1)) (ex + 2)
      else none
    else some (total, power)
noncomputable def oddS (work top bottom : Int) : Option (Int × Int) :=
  let start := fracB work top bottom
  if 0 < bottom ∧ Sm top ∧ Sm bottom ∧ Sm start.1 ∧ Sm start.2 then
    let square := prodI work start start
    if Sm square.1 ∧ Sm square.2 then
      match oddL 60 work square start start 1 with
      | none => none
      | some (total, power) => some (widI total (2 * greatI power + 2))
    else none
  else none
/-- decided, where its first turn ends it -/
noncomputable def decF (p work : Int) (found : Int × Int) : Option (Int × Int) :=
  match roundF p found.1 (1 * p2 work), roundF p found.2 (1 * p2 work) with
  | some one, some other => if one = other then some one else none
  | _, _ => none
noncomputable def redF (work m e : Int) : Option Int :=
  match log2F work with
  | none => none
  | some two =>
    if -1000 ≤ e ∧ e ≤ 1000 ∧ Sm m ∧ 0 < (fracOf m e).2 ∧ Sm (fracOf m e).1 ∧ Sm (fracOf m e).2 ∧ 0 < two.2 ∧ Sm two.1 ∧ Sm two.2 ∧ Sm ((fracB work (fracOf m e).1 (fracOf m e).2).1.fdiv two.2) then
      some ((fracB work (fracOf m e).1 (fracOf m e).2).1.fdiv two.2) else none
noncomputable def bndF (times work m e : Int) : Option (Int × Int) :=
  match log2F work with
  | none => none
  | some two =>
    if -1000 ≤ e ∧ e ≤ 1000 ∧ Sm m ∧ 0 < (fracOf m e).2 ∧ Sm (fracOf m e).1 ∧ Sm (fracOf m e).2 ∧ Sm two.1 ∧ Sm two.2 ∧ Sm times then
      expS work (lessI (fracB work (fracOf m e).1 (fracOf m e).2) (oftenI two times)) else none
noncomputable def expF (bits m e : Int) : Option (Int × Int) :=
  if placeI m e > 17 ∨ placeI m e < 0 - bits - 2 ∨ sgn m = 0 then none else
  match redF (bits + 12 + 17) m e with
  | none => none
  | some times =>
    match bndF times (bits + 12 + 17) m e with
    | none => none
    | some found =>
      match decF bits (bits + 12 + 17) found with
      | none => none
      | some r => leanF r.1 (r.2 + times)
noncomputable def logB (work m e : Int) : Option (Int × Int) :=
  let b := 1 * p2 ((Builtin.Int.intBits m : Nat) : Int)
  let c := 4 * m < 3 * b
  let top := if c then 2 * m else m
  let place := if c then placeI m e - 1 else placeI m e
  match oddS work (top - b) (top + b) with
  | none => none
  | some s =>
    match log2F work with
    | none => none
    | some two => if Sm place ∧ Sm two.1 ∧ Sm two.2 then some (moreI (oftenI two place) (oftenI s 2)) else none
noncomputable def logF (bits m e : Int) : Option (Int × Int) :=
  if sgn m ≤ 0 ∨ 5000 ≤ Builtin.Int.intBits m then none else
  if m = 1 ∧ e = 0 then some (0, 0) else
  match logB (2 * bits + 12) m e with
  | none => none
  | some found => decF bits (2 * bits + 12) found
/-! the law's own words -/
noncomputable def lawOdd : Nat → Int → Int → Option (Int × Int)
  | 0, _, _ => none
  | n + 1, m, e => if m.fmod 2 = 0 then lawOdd n (m.fdiv 2) (e + 1) else some (m, e)
noncomputable def lawPair (bits code : Int) : Option (Int × Int) :=
  let size := p2 bits
  let m := code.fmod size + 1
  let c := code.fdiv size
  lawOdd 10 (if (c.fdiv 3).fmod 2 = 0 then m else 0 - m) (c.fmod 3 - bits)
noncomputable def lawFr (m e : Int) : Int × Int := if e ≥ 0 then (m * p2 e, 1) else (m, p2 (0 - e))
noncomputable def midL : Nat → Int → Int → Int → Option (Int × Int)
  | 0, _, _, _ => none
  | n + 1, bits, m, e => if m < p2 (bits - 1) then midL n bits (m * 2) (e - 1) else some (m, e)
noncomputable def nearV (bits k : Int) : Int := 4 * k - (if k = p2 (bits - 1) then 1 else 2)
noncomputable def midF (bits m e : Int) : Option ((Int × Int) × (Int × Int)) :=
  if (absI m).fmod 2 = 0 ∨ absI m ≥ p2 bits then none else
  match midL 10 bits (absI m) e with
  | none => none
  | some (k, x) =>
    if x < 1000 ∧ -900 < x ∧ Sm (nearV bits k) ∧ Sm (4 * k + 2) ∧ Sm (0 - (4 * k + 2)) ∧ Sm (0 - nearV bits k) then
      if m < 0 then some (lawFr (0 - (4 * k + 2)) (x - 2), lawFr (0 - nearV bits k) (x - 2)) else some (lawFr (nearV bits k) (x - 2), lawFr (4 * k + 2) (x - 2))
    else none
noncomputable def powL : Nat → Int → Int → Int → Int → Int → Int → Int → Int → Option Int
  | 0, _, _, _, _, _, _, _, _ => none
  | n + 1, top, bottom, high, low, term, total, under, count =>
    let c := count + 1
    if Sm term ∧ Sm total ∧ Sm under ∧ Sm c ∧ Sm (total * bottom) ∧ Sm (under * bottom) then
      let term' := term * top
      let total' := total * bottom * c + term * top
      let under' := under * bottom * c
      if Sm total' ∧ Sm under' ∧ Sm (total' + term') then
        if total' * low > high * under' then some 1
        else if c * bottom ≥ 2 * top ∧ (total' + term') * low < high * under' then some (-1)
        else powL n top bottom high low term' total' under' c
      else none
    else none
noncomputable def powF (top bottom high low : Int) : Option Int :=
  if Sm top ∧ Sm bottom ∧ Sm high ∧ Sm low then powL 100 top bottom high low 1 1 1 0 else none
noncomputable def sideF (ex mark : Int × Int) : Option Int :=
  if mark.1 ≤ 0 then some 1 else
  if ex.1 > 0 then powF ex.1 ex.2 mark.1 mark.2 else
  match powF (0 - ex.1) ex.2 mark.2 mark.1 with
  | none => none
  | some v => some (0 - v)
noncomputable def isExp (bits m e : Int) : Bool :=
  match expF bits m e with
  | none => false
  | some r => match midF bits r.1 r.2 with
    | none => false
    | some (a, b) => sideF (lawFr m e) a == some 1 && sideF (lawFr m e) b == some (-1)
noncomputable def isLog (bits m e : Int) : Bool :=
  match logF bits m e with
  | none => false
  | some r => if m = 1 ∧ e = 0 then r.1 == 0 && r.2 == 0 else match midF bits r.1 r.2 with
    | none => false
    | some (a, b) => sideF a (lawFr m e) == some (-1) && sideF b (lawFr m e) == some 1
noncomputable def okPair (bits : Int) (pr : Option (Int × Int)) : Bool := match pr with
  | none => false
  | some (m, e) => isExp bits m e && isLog bits (absI m) e
noncomputable def okCode (bits : Int) (code : Nat) : Bool := okPair bits (lawPair bits code)
/-! their steps -/
theorem invF_step {n : Nat} {p t e k : Int} (h : 0 < p) : invF (n + 1) p t e k = invF n (p.fdiv 9) (t + p.fdiv e) (e + 2) (k + 1) := by simp [invF, h]
theorem invF_stop {n : Nat} {p t e k : Int} (h : ¬ 0 < p) : invF (n + 1) p t e k = some (t, k) := by simp [invF, h]
theorem expL_step {n : Nat} {w k : Int} {r t d : Int × Int} {v : (Int × Int) × (Int × Int)} (h : 1 < greatI d) (e : expL (n + 1) w r t d k = some v) :
    Sm d.1 ∧ Sm d.2 ∧ 0 < k ∧ Sm k ∧ expL n w r (moreI t (partI (prodI w d r) k)) (partI (prodI w d r) k) (k + 1) = some v := by
  unfold expL at e
  rw [if_pos h] at e
  split at e
  · rename_i g
    exact ⟨g.1, g.2.1, g.2.2.1, g.2.2.2, e⟩
  · cases e
theorem expL_stop {n : Nat} {w k : Int} {r t d : Int × Int} (h : ¬ 1 < greatI d) : expL (n + 1) w r t d k = some (t, d) := by
  unfold expL; rw [if_neg h]
theorem expS_parts {w : Int} {r : Int × Int} (h : expS w r ≠ none) : Sm r.1 ∧ Sm r.2 ∧ ∃ v, expL 60 w r (1 * p2 w, 1 * p2 w) (1 * p2 w, 1 * p2 w) 1 = some v ∧ expS w r = some (widI v.1 (2 * greatI v.2 + 2)) := by
  unfold expS at h ⊢
  split at h
  · rename_i g
    cases q : expL 60 w r (1 * p2 w, 1 * p2 w) (1 * p2 w, 1 * p2 w) 1 with
    | none => rw [q] at h; exact absurd rfl h
    | some v => exact ⟨g.1, g.2, v, rfl, by rw [if_pos g]⟩
  · exact absurd rfl h
theorem oddL_step {n : Nat} {w e : Int} {q p t : Int × Int} {v : (Int × Int) × (Int × Int)} (h : 1 < greatI p) (k : oddL (n + 1) w q p t e = some v) :
    Sm p.1 ∧ Sm p.2 ∧ 0 < e ∧ Sm e ∧ oddL n w q (prodI w p q) (moreI t (oftenI (partI (prodI w p q) (e + 2)) 1)) (e + 2) = some v := by
  unfold oddL at k
  rw [if_pos h] at k
  split at k
  · rename_i g
    exact ⟨g.1, g.2.1, g.2.2.1, g.2.2.2, k⟩
  · cases k
theorem oddL_stop {n : Nat} {w e : Int} {q p t : Int × Int} (h : ¬ 1 < greatI p) : oddL (n + 1) w q p t e = some (t, p) := by
  unfold oddL; rw [if_neg h]
theorem oddS_parts {w x b : Int} (h : oddS w x b ≠ none) : 0 < b ∧ Sm x ∧ Sm b ∧ Sm (fracB w x b).1 ∧ Sm (fracB w x b).2 ∧ Sm (prodI w (fracB w x b) (fracB w x b)).1 ∧ Sm (prodI w (fracB w x b) (fracB w x b)).2 ∧
    ∃ v, oddL 60 w (prodI w (fracB w x b) (fracB w x b)) (fracB w x b) (fracB w x b) 1 = some v ∧ oddS w x b = some (widI v.1 (2 * greatI v.2 + 2)) := by
  unfold oddS at h ⊢
  dsimp only at h ⊢
  split at h
  · rename_i g
    split at h
    · rename_i g2
      cases q : oddL 60 w (prodI w (fracB w x b) (fracB w x b)) (fracB w x b) (fracB w x b) 1 with
      | none => rw [q] at h; exact absurd rfl h
      | some v => exact ⟨g.1, g.2.1, g.2.2.1, g.2.2.2.1, g.2.2.2.2, g2.1, g2.2, v, rfl, by rw [if_pos g, if_pos g2]⟩
    · exact absurd rfl h
  · exact absurd rfl h
end
section
open PySem PySem.W PySem.Spec PySem.Calls PyProof.Rows
set_option Elab.async false
theorem leanF_parts {m e : Int} (h : leanF m e ≠ none) (h0 : m ≠ 0) : absI (szI m + e) ≤ 65536 ∧ 0 ≤ zerosI m ∧ leanF m e = some (m.fdiv (p2 (zerosI m)), e + zerosI m) := by
  unfold leanF at h ⊢
  rw [if_neg h0] at h ⊢
  split at h
  · rename_i g; exact ⟨g.1, g.2, if_pos g⟩
  · exact absurd rfl h
theorem log2F_parts {k : Int} {v : Int × Int} (h : log2F k = some v) : ∃ u, invF 60 ((p2 k).fdiv 3) 0 1 0 = some u ∧ v = oftenI (widI (u.1, u.1) (2 * u.2 + 4)) 2 := by
  unfold log2F at h
  split at h
  · cases h
  · rename_i t k q
    cases h
    exact ⟨(t, k), q, rfl⟩
theorem leanF_zero {e : Int} : leanF 0 e = some (0, 0) := by unfold leanF; rw [if_pos rfl]
theorem shiftedF_lean {p m e : Int} (h0 : szI m - p ≤ 0) : shiftedF p m e = leanF m e := by unfold shiftedF; rw [if_pos h0]
theorem shiftedF_parts {p m e : Int} (h : shiftedF p m e ≠ none) (h0 : ¬ szI m - p ≤ 0) : szI m - p < 5000 ∧ Sm (nearI (absI m) (szI m - p)) ∧ shiftedF p m e = leanF (sgn m * nearI (absI m) (szI m - p)) (e + (szI m - p)) := by
  unfold shiftedF at h ⊢
  rw [if_neg h0] at h ⊢
  split at h
  · rename_i g; exact ⟨g.1, g.2, if_pos g⟩
  · exact absurd rfl h
theorem roundF_parts {p x b : Int} (h : roundF p x b ≠ none) (h0 : x ≠ 0) : 0 < b ∧ Sm x ∧ Sm b ∧ p + 2 + szI b - szI x < 5000 ∧ -5000 < p + 2 + szI b - szI x ∧
    ((0 ≤ p + 2 + szI b - szI x ∧ Sm (stickyI ((absI x * p2 (p + 2 + szI b - szI x)).fdiv b) ((absI x * p2 (p + 2 + szI b - szI x)).fmod b != 0)) ∧
        roundF p x b = shiftedF p (sgn x * stickyI ((absI x * p2 (p + 2 + szI b - szI x)).fdiv b) ((absI x * p2 (p + 2 + szI b - szI x)).fmod b != 0)) (0 - (p + 2 + szI b - szI x) - 1)) ∨
     (p + 2 + szI b - szI x < 0 ∧ Sm (b * p2 (0 - (p + 2 + szI b - szI x))) ∧ Sm (stickyI ((absI x).fdiv (b * p2 (0 - (p + 2 + szI b - szI x)))) ((absI x).fmod (b * p2 (0 - (p + 2 + szI b - szI x))) != 0)) ∧
        roundF p x b = shiftedF p (sgn x * stickyI ((absI x).fdiv (b * p2 (0 - (p + 2 + szI b - szI x)))) ((absI x).fmod (b * p2 (0 - (p + 2 + szI b - szI x))) != 0)) (0 - (p + 2 + szI b - szI x) - 1))) := by
  unfold roundF at h ⊢
  rw [if_neg h0] at h ⊢
  dsimp only at h ⊢
  split at h
  · rename_i g
    refine ⟨g.1, g.2.1, g.2.2.1, g.2.2.2.1, g.2.2.2.2, ?_⟩
    rw [if_pos g]
    split at h
    · rename_i g1
      split at h
      · rename_i g2; left; exact ⟨g1, g2, by rw [if_pos g1, if_pos g2]⟩
      · exact absurd rfl h
    · rename_i g1
      split at h
      · rename_i g2; right; exact ⟨by omega, g2.1, g2.2, by rw [if_neg g1, if_pos g2]⟩
      · exact absurd rfl h
  · exact absurd rfl h
theorem roundF_zero {p b : Int} : roundF p 0 b = some (0, 0) := by unfold roundF; rw [if_pos rfl]
theorem sm_sgn {x : Int} : Sm (sgn x) := by
  unfold sgn
  cases decide (0 < x) <;> cases decide (x < 0) <;> decide
theorem Sm.pow2b {n : Int} (hn : n < 7000) : Sm (2 ^ n.toNat) := by have := Sm.pow2 hn; rwa [Int.one_mul] at this
theorem Sm.abs {x : Int} (h : Sm x) : Sm (absI x) := by
  unfold Sm absI at *
  split
  · unfold Builtin.Int.intBits at *; simpa using h
  · exact h
theorem redF_parts {p m e t : Int} (h : redF p m e = some t) : ∃ a b, log2F p = some (a, b) ∧ -1000 ≤ e ∧ e ≤ 1000 ∧ Sm m ∧ 0 < (fracOf m e).2 ∧ Sm (fracOf m e).1 ∧ Sm (fracOf m e).2 ∧ 0 < b ∧ Sm a ∧ Sm b ∧ Sm t ∧
    t = (fracB p (fracOf m e).1 (fracOf m e).2).1.fdiv b := by
  unfold redF at h
  cases q : log2F p with
  | none => rw [q] at h; cases h
  | some two =>
    rw [q] at h
    obtain ⟨a, b⟩ := two
    dsimp only at h
    split at h
    · rename_i g
      cases h
      obtain ⟨g1, g2, g3, g4, g5, g6, g7, g8, g9, g10⟩ := g
      exact ⟨a, b, rfl, g1, g2, g3, g4, g5, g6, g7, g8, g9, g10, rfl⟩
    · cases h
theorem bndF_parts {t p m e : Int} {v : Int × Int} (h : bndF t p m e = some v) : ∃ a b, log2F p = some (a, b) ∧ -1000 ≤ e ∧ e ≤ 1000 ∧ Sm m ∧ 0 < (fracOf m e).2 ∧ Sm (fracOf m e).1 ∧ Sm (fracOf m e).2 ∧ Sm a ∧ Sm b ∧ Sm t ∧
    expS p (lessI (fracB p (fracOf m e).1 (fracOf m e).2) (oftenI (a, b) t)) = some v := by
  unfold bndF at h
  cases q : log2F p with
  | none => rw [q] at h; cases h
  | some two =>
    rw [q] at h
    obtain ⟨a, b⟩ := two
    dsimp only at h
    split at h
    · rename_i g
      obtain ⟨g1, g2, g3, g4, g5, g6, g7, g8, g9⟩ := g
      exact ⟨a, b, rfl, g1, g2, g3, g4, g5, g6, g7, g8, g9, h⟩
    · cases h
theorem decF_parts {p k : Int} {f v : Int × Int} (h : decF p k f = some v) : roundF p f.1 (1 * p2 k) = some v ∧ roundF p f.2 (1 * p2 k) = some v := by
  unfold decF at h
  split at h
  · rename_i a b e1 e2
    split at h
    · rename_i e; cases h; exact ⟨e1, e ▸ e2⟩
    · cases h
  · cases h
theorem expF_parts {p m e : Int} (h : expF p m e ≠ none) : placeI m e ≤ 17 ∧ 0 - p - 2 ≤ placeI m e ∧ sgn m ≠ 0 ∧ ∃ t f r, redF (p + 12 + 17) m e = some t ∧ bndF t (p + 12 + 17) m e = some f ∧ decF p (p + 12 + 17) f = some r ∧ expF p m e = leanF r.1 (r.2 + t) := by
  unfold expF at h ⊢
  split at h
  · exact absurd rfl h
  · rename_i g
    rw [if_neg g]
    simp only [not_or, Int.not_lt, gt_iff_lt] at g
    refine ⟨g.1, g.2.1, g.2.2, ?_⟩
    cases q1 : redF (p + 12 + 17) m e with
    | none => rw [q1] at h; exact absurd rfl h
    | some t =>
      rw [q1] at h
      dsimp only at h ⊢
      cases q2 : bndF t (p + 12 + 17) m e with
      | none => rw [q2] at h; exact absurd rfl h
      | some f =>
        rw [q2] at h
        dsimp only at h ⊢
        cases q3 : decF p (p + 12 + 17) f with
        | none => rw [q3] at h; exact absurd rfl h
        | some r => exact ⟨t, f, r, rfl, q2, q3, rfl⟩
theorem logB_parts {k m e : Int} {v : Int × Int} (h : logB k m e = some v) :
    ∃ s a b, log2F k = some (a, b) ∧ Sm a ∧ Sm b ∧
      ((4 * m < 3 * (1 * p2 ((Builtin.Int.intBits m : Nat) : Int)) ∧ oddS k (2 * m - 1 * p2 ((Builtin.Int.intBits m : Nat) : Int)) (2 * m + 1 * p2 ((Builtin.Int.intBits m : Nat) : Int)) = some s ∧ Sm (placeI m e - 1) ∧ v = moreI (oftenI (a, b) (placeI m e - 1)) (oftenI s 2)) ∨
       (¬ 4 * m < 3 * (1 * p2 ((Builtin.Int.intBits m : Nat) : Int)) ∧ oddS k (m - 1 * p2 ((Builtin.Int.intBits m : Nat) : Int)) (m + 1 * p2 ((Builtin.Int.intBits m : Nat) : Int)) = some s ∧ Sm (placeI m e) ∧ v = moreI (oftenI (a, b) (placeI m e)) (oftenI s 2))) := by
  unfold logB at h
  dsimp only at h
  by_cases c : 4 * m < 3 * (1 * p2 ((Builtin.Int.intBits m : Nat) : Int))
  · simp only [if_pos c] at h
    split at h
    · cases h
    · rename_i s q
      split at h
      · cases h
      · rename_i two q2
        obtain ⟨a, b⟩ := two
        split at h
        · rename_i g
          cases h
          exact ⟨s, a, b, q2, g.2.1, g.2.2, .inl ⟨c, q, g.1, rfl⟩⟩
        · cases h
  · simp only [if_neg c] at h
    split at h
    · cases h
    · rename_i s q
      split at h
      · cases h
      · rename_i two q2
        obtain ⟨a, b⟩ := two
        split at h
        · rename_i g
          cases h
          exact ⟨s, a, b, q2, g.2.1, g.2.2, .inr ⟨c, q, g.1, rfl⟩⟩
        · cases h
theorem sgn_pos {x : Int} (h : 0 < sgn x) : 0 < x := by
  unfold sgn at h
  by_cases c : 0 < x
  · exact c
  · rw [decide_eq_false c] at h
    by_cases d : x < 0
    · rw [decide_eq_true d] at h; exact absurd h (by decide)
    · rw [decide_eq_false d] at h; exact absurd h (by decide)
theorem logF_parts {p m e : Int} (h : logF p m e ≠ none) : 0 < sgn m ∧ Builtin.Int.intBits m < 5000 ∧ ((m = 1 ∧ e = 0 ∧ logF p m e = some (0, 0)) ∨ (¬ (m = 1 ∧ e = 0) ∧ ∃ f, logB (2 * p + 12) m e = some f ∧ logF p m e = decF p (2 * p + 12) f)) := by
  unfold logF at h ⊢
  split at h
  · exact absurd rfl h
  · rename_i g
    rw [if_neg g]
    simp only [not_or, Int.not_le, Nat.not_le] at g
    refine ⟨g.1, g.2, ?_⟩
    split at h
    · rename_i g1; left; exact ⟨g1.1, g1.2, if_pos g1⟩
    · rename_i g1
      right
      refine ⟨g1, ?_⟩
      rw [if_neg g1]
      cases q : logB (2 * p + 12) m e with
      | none => rw [q] at h; exact absurd rfl h
      | some f => exact ⟨f, rfl, rfl⟩
section
variable {prog : Program} {w : World} {A : Around} {E : Value → Shared → Prop} {s : Shared} {h₀ : Heap} {L : Addr} {m : Str → Option Value} {news : List (Addr × Obj)} {l : Addr} {Q : Value → Shared → Prop}
theorem retRed {h' : Heap} {tk' : Nat} {r r2 : Addr} {v y1 : Int} {t1 : Tok} {news' : List (Addr × Obj)} (hret : ∀ r r2 z1 u1 h' tk', z1 = v → Fr h₀ L h' m → News h₀ L h' ((r, ({ cls := .type "tuple", data := .seq #[.int z1 u1, .ref r2] } : Obj)) :: news) → Q (.ref r) { s with heap := h', toks := tk' })
    (F : Fr h₀ L h' m) (N : News h₀ L h' news') (hm : (r, ({ cls := .type "tuple", data := .seq #[.int y1 t1, .ref r2] } : Obj)) ∈ news') (hs : ∀ p ∈ news, p ∈ news') (e : y1 = v) : Q (.ref r) { s with heap := h', toks := tk' } :=
  hret _ _ _ _ _ _ e F fun p hp => N p ((List.mem_cons.mp hp).elim (fun q => q ▸ hm) (hs p))
end
end
section
open PySem PySem.W PySem.Spec PySem.Calls PyProof.Rows
set_option Elab.async false
set_option maxRecDepth 100000
structure LS where
  n : Nat
  p : Int
  t : Int
  a : Tok
  b : Tok
structure PS where
  n : Nat
  te : Int
  to : Int
  un : Int
  co : Int
  a : Tok
  b : Tok
  c : Tok
  d : Tok
structure MS where
  n : Nat
  p : Int
  t : Int
  a : Tok
  b : Tok
  o : Obj
theorem midL_step {n : Nat} {b m e : Int} {v : Int × Int} (h : m < p2 (b - 1)) (k : midL (n + 1) b m e = some v) : midL n b (m * 2) (e - 1) = some v := by
  unfold midL at k; rwa [if_pos h] at k
theorem midL_stop {n : Nat} {b m e : Int} (h : ¬ m < p2 (b - 1)) : midL (n + 1) b m e = some (m, e) := by
  unfold midL; rw [if_neg h]
theorem midF_parts {b m e : Int} {v : (Int × Int) × (Int × Int)} (h : midF b m e = some v) : ¬ (absI m).fmod 2 = 0 ∧ ¬ absI m ≥ p2 b ∧
    ∃ N k x, midL N b (absI m) e = some (k, x) ∧ x < 1000 ∧ -900 < x ∧ Sm (nearV b k) ∧ Sm (4 * k + 2) ∧ Sm (0 - (4 * k + 2)) ∧ Sm (0 - nearV b k) ∧
      ((m < 0 ∧ v = (lawFr (0 - (4 * k + 2)) (x - 2), lawFr (0 - nearV b k) (x - 2))) ∨ (¬ m < 0 ∧ v = (lawFr (nearV b k) (x - 2), lawFr (4 * k + 2) (x - 2)))) := by
  unfold midF at h
  split at h
  · cases h
  · rename_i g
    split at h
    · cases h
    · rename_i k x q
      split at h
      · rename_i g2
        refine ⟨fun h => g (.inl h), fun h => g (.inr h), 10, k, x, q, g2.1, g2.2.1, g2.2.2.1, g2.2.2.2.1, g2.2.2.2.2.1, g2.2.2.2.2.2, ?_⟩
        split at h
        · rename_i c; cases h; exact .inl ⟨c, rfl⟩
        · rename_i c; cases h; exact .inr ⟨c, rfl⟩
      · cases h
theorem lawOdd_step {n : Nat} {m e : Int} {v : Int × Int} (h : m.fmod 2 = 0) (k : lawOdd (n + 1) m e = some v) : lawOdd n (m.fdiv 2) (e + 1) = some v := by
  unfold lawOdd at k; rwa [if_pos h] at k
theorem lawOdd_stop {n : Nat} {m e : Int} (h : ¬ m.fmod 2 = 0) : lawOdd (n + 1) m e = some (m, e) := by
  unfold lawOdd; rw [if_neg h]
theorem lawOdd_zero : ∀ {n : Nat} {e : Int}, lawOdd n 0 e = none
  | 0, _ => rfl
  | n + 1, e => by unfold lawOdd; rw [if_pos (by decide)]; exact lawOdd_zero
theorem lawOdd_ne {n : Nat} {m e : Int} {v : Int × Int} (k : lawOdd n m e = some v) : m ≠ 0 := by
  rintro rfl; rw [lawOdd_zero] at k; cases k
theorem powL_step {n : Nat} {top bottom high low te to un co v : Int} (k : powL (n + 1) top bottom high low te to un co = some v) :
    Sm te ∧ Sm to ∧ Sm un ∧ Sm (co + 1) ∧ Sm (to * bottom) ∧ Sm (un * bottom) ∧ Sm (to * bottom * (co + 1) + te * top) ∧ Sm (un * bottom * (co + 1)) ∧ Sm (to * bottom * (co + 1) + te * top + te * top) ∧
    ((to * bottom * (co + 1) + te * top) * low > high * (un * bottom * (co + 1)) ∧ v = 1 ∨
     ¬ (to * bottom * (co + 1) + te * top) * low > high * (un * bottom * (co + 1)) ∧ (((co + 1) * bottom ≥ 2 * top ∧ (to * bottom * (co + 1) + te * top + te * top) * low < high * (un * bottom * (co + 1))) ∧ v = -1 ∨
       ¬ ((co + 1) * bottom ≥ 2 * top ∧ (to * bottom * (co + 1) + te * top + te * top) * low < high * (un * bottom * (co + 1))) ∧ powL n top bottom high low (te * top) (to * bottom * (co + 1) + te * top) (un * bottom * (co + 1)) (co + 1) = some v)) := by
  unfold powL at k
  dsimp only at k
  split at k
  · rename_i g
    obtain ⟨g1, g2, g3, g4, g5, g6⟩ := g
    split at k
    · rename_i g
      obtain ⟨g7, g8, g9⟩ := g
      refine ⟨g1, g2, g3, g4, g5, g6, g7, g8, g9, ?_⟩
      split at k
      · rename_i c; cases k; exact .inl ⟨c, rfl⟩
      · rename_i c
        split at k
        · rename_i d; cases k; exact .inr ⟨c, .inl ⟨d, rfl⟩⟩
        · rename_i d; exact .inr ⟨c, .inr ⟨d, k⟩⟩
    · cases k
  · cases k
theorem powF_parts {top bottom high low v : Int} (k : powF top bottom high low = some v) : Sm top ∧ Sm bottom ∧ Sm high ∧ Sm low ∧ ∃ N, powL N top bottom high low 1 1 1 0 = some v := by
  unfold powF at k
  split at k
  · rename_i g; exact ⟨g.1, g.2.1, g.2.2.1, g.2.2.2, 100, k⟩
  · cases k
theorem sideF_parts {x m : Int × Int} {v : Int} (k : sideF x m = some v) : (m.1 ≤ 0 ∧ v = 1) ∨ (¬ m.1 ≤ 0 ∧ ((x.1 > 0 ∧ powF x.1 x.2 m.1 m.2 = some v) ∨ (¬ x.1 > 0 ∧ ∃ u, powF (0 - x.1) x.2 m.2 m.1 = some u ∧ v = 0 - u))) := by
  unfold sideF at k
  split at k
  · rename_i c; cases k; exact .inl ⟨c, rfl⟩
  · rename_i c
    refine .inr ⟨c, ?_⟩
    split at k
    · rename_i d; exact .inl ⟨d, k⟩
    · rename_i d
      refine .inr ⟨d, ?_⟩
      split at k
      · cases k
      · rename_i u e; cases k; exact ⟨u, e, rfl⟩
theorem lawPair_parts {b c : Int} {v : Int × Int} (k : lawPair b c = some v) :
    ((((c.fdiv (p2 b)).fdiv 3).fmod 2 = 0 ∧ lawOdd 10 (c.fmod (p2 b) + 1) ((c.fdiv (p2 b)).fmod 3 - b) = some v) ∨
     (¬ ((c.fdiv (p2 b)).fdiv 3).fmod 2 = 0 ∧ lawOdd 10 (0 - (c.fmod (p2 b) + 1)) ((c.fdiv (p2 b)).fmod 3 - b) = some v)) := by
  unfold lawPair at k
  dsimp only at k
  by_cases h : ((c.fdiv (p2 b)).fdiv 3).fmod 2 = 0
  · rw [if_pos h] at k; exact .inl ⟨h, k⟩
  · rw [if_neg h] at k; exact .inr ⟨h, k⟩
/-- a code's table after its nested code was laid -/
noncomputable abbrev tabPs (pos : Pos) (c' : Addr) : Array Value := #[rawInt pos.line, rawInt pos.col, .ref c']
noncomputable def CodeNm (qual : Str) (oc : Obj) : Prop := ∃ vs t, oc.data = .fields vs ∧ vs[1]? = some (.str qual t)
noncomputable abbrev posE : Pos := ⟨140, 4, 143, 95⟩
noncomputable abbrev posL : Pos := ⟨158, 52, 158, 87⟩
noncomputable abbrev qualE : Str := Str.ofString "exp_real" ++ ".<locals>." ++ Str.ofString "bounds_at"
noncomputable abbrev qualL : Str := Str.ofString "log_real" ++ ".<locals>." ++ Str.ofString "<lambda>"
/-- the table is empty, or holds the one code -/
noncomputable def TabOk (pos : Pos) (qual : Str) (ps : Array Value) (c' : Addr) (oc : Obj) : Prop := ps = #[] ∨ (ps = tabPs pos c' ∧ CodeNm qual oc)
/-- what is left of a ledger when the object at one address is about to change -/
inductive Sift (P : Addr) : List (Addr × Obj) → List (Addr × Obj) → Prop
  | nil : Sift P [] []
  | all {l : List (Addr × Obj)} (h : ∀ q ∈ l, q.1 ≠ P) : Sift P l l
  | keep {a : Addr} {o : Obj} {l l' : List (Addr × Obj)} (h : a ≠ P) (k : Sift P l l') : Sift P ((a, o) :: l) ((a, o) :: l')
  | drop {x : Addr × Obj} {l l' : List (Addr × Obj)} (k : Sift P l l') : Sift P (x :: l) l'
theorem Sift.sub {P : Addr} {l l' : List (Addr × Obj)} (S : Sift P l l') : ∀ p ∈ l', p ∈ l := by
  induction S with
  | nil => exact fun _ h => h
  | all => exact fun _ h => h
  | keep _ _ ih => exact fun p hp => (List.mem_cons.mp hp).elim (fun e => e ▸ .head _) fun hp => .tail _ (ih p hp)
  | drop _ ih => exact fun p hp => .tail _ (ih p hp)
theorem Sift.ne {P : Addr} {l l' : List (Addr × Obj)} (S : Sift P l l') : ∀ q ∈ l', q.1 ≠ P := by
  induction S with
  | nil => exact fun _ h => nomatch h
  | all h => exact h
  | keep h _ ih => exact fun q hq => (List.mem_cons.mp hq).elim (fun e => e ▸ h) (ih q)
  | drop _ ih => exact ih
theorem allLt_ne {d c : Nat} : ∀ {l : List (Addr × Obj)}, AllLt d l → d ≤ c → ∀ q ∈ l, q.1 ≠ c
  | [], _, _ => fun _ h => nomatch h
  | _ :: _, h, hc => fun q hq => (List.mem_cons.mp hq).elim (fun e => e ▸ Nat.ne_of_lt (Nat.lt_of_lt_of_le h.1 hc)) (allLt_ne h.2 hc q)
theorem ltAll {P K : Nat} {l : List (Addr × Obj)} (h : ∀ q ∈ l, q.1 < K) (hk : K ≤ P) : ∀ q ∈ l, q.1 ≠ P := fun q hq => Nat.ne_of_lt (Nat.lt_of_lt_of_le (h q hq) hk)
section
variable {M : Model} {A : Around} {E : Value → Shared → Prop} {s : Shared} {h₀ : Heap} {L a c P c1 : Addr} {m mg mb : Str → Option Value} {cn : Str} {cs : Scope} {ccd : Value} {cl : List (Str × Addr)} {led news : List (Addr × Obj)} {o1 : Obj}
  {p : Program} {loose : List Str} {mean : ExcName → Option Value} {name qual : Str} {params : Arguments} {scope : Scope} {ps : Array Value} {pos : Pos} {firstLine : Nat} {clos : List (Str × Addr)}
theorem nest_S {body : List Stmt} {Q : Value → Shared → Prop} (F : Fr h₀ L s.heap m) (N : News h₀ L s.heap led) (T : Top p loose mean mg mb h₀) (C : CodeHd h₀ c P) (hcd : ccd = .ref c) (ok : TabOk pos qual ps c1 o1)
    (hm1 : (P, tabObj ps) ∈ led) (hm2 : (c1, o1) ∈ led) (S : Sift P led news)
    (ht : ∀ c', TriplesOk (tabPs pos c').toList) (hf : ∀ c', codeAmong pos (tabPs pos c').toList = some (.ref c'))
    (hcl : closureFor scope (envX cn cs L a ccd cl) = pure clos)
    (h : ∀ f c' oc doc ctv h' tk, Fr h₀ L h' m →
      News h₀ L h' ((f, fnMade name qual params body scope clos doc ((mg "__name__").getD .none) c' ctv) :: (P, tabObj (tabPs pos c')) :: (c', oc) :: news) →
      CodeNm qual oc → Q (.ref f) { s with heap := h', toks := tk }) :
    wpAny M A (makeFunction name qual params (.stmts body) scope (envX cn cs L a ccd cl) [] [] [] pos firstLine) Q E s := by
  have hs := S.sub
  have hne := S.ne
  rcases ok with rfl | ⟨rfl, vs, t, hd, hv⟩
  · have N2 : News h₀ L s.heap ((P, tabObj #[]) :: news) := fun q hq => N q ((List.mem_cons.mp hq).elim (fun e => e ▸ hm1) (hs q))
    refine nest_K F N2 T C hcd (UpdF.head hne) trivial rfl hcl fun f c' oc vs t ctv doc h' tk F' N' hd hv l1 l2 => ?_
    refine h f c' oc doc ctv h' tk F' (fun q hq => N' q ?_) ⟨vs, t, hd, hv⟩
    rcases List.mem_cons.mp hq with rfl | hq
    · exact .head _
    · rcases List.mem_cons.mp hq with rfl | hq
      · exact .tail _ (.tail _ (.head _))
      · rcases List.mem_cons.mp hq with rfl | hq
        · exact .tail _ (.head _)
        · exact .tail _ (.tail _ (.tail _ hq))
  · refine nestHit_K F N T C hcd hm1 (ht c1) (hf c1) hcl fun f ctv doc h' tk F' N' l1 => ?_
    refine h f c1 o1 doc ctv h' tk F' (fun q hq => N' q ?_) ⟨vs, t, hd, hv⟩
    rcases List.mem_cons.mp hq with rfl | hq
    · exact .head _
    · rcases List.mem_cons.mp hq with rfl | hq
      · exact .tail _ hm1
      · rcases List.mem_cons.mp hq with rfl | hq
        · exact .tail _ hm2
        · exact .tail _ (hs _ hq)
theorem lam_S {body : Expr} {Q : Value → Shared → Prop} (F : Fr h₀ L s.heap m) (N : News h₀ L s.heap led) (T : Top p loose mean mg mb h₀) (C : CodeHd h₀ c P) (hcd : ccd = .ref c) (ok : TabOk pos qual ps c1 o1)
    (hm1 : (P, tabObj ps) ∈ led) (hm2 : (c1, o1) ∈ led) (S : Sift P led news)
    (ht : ∀ c', TriplesOk (tabPs pos c').toList) (hf : ∀ c', codeAmong pos (tabPs pos c').toList = some (.ref c'))
    (hcl : closureFor scope (envX cn cs L a ccd cl) = pure clos)
    (h : ∀ f c' oc ctv h' tk, Fr h₀ L h' m →
      News h₀ L h' ((f, kla_obj name qual params body scope clos ((mg "__name__").getD .none) c' ctv) :: (P, tabObj (tabPs pos c')) :: (c', oc) :: news) →
      CodeNm qual oc → Q (.ref f) { s with heap := h', toks := tk }) :
    wpAny M A (makeFunction name qual params (.expr body) scope (envX cn cs L a ccd cl) [] [] [] pos firstLine) Q E s := by
  have hs := S.sub
  have hne := S.ne
  rcases ok with rfl | ⟨rfl, vs, t, hd, hv⟩
  · have N2 : News h₀ L s.heap ((P, tabObj #[]) :: news) := fun q hq => N q ((List.mem_cons.mp hq).elim (fun e => e ▸ hm1) (hs q))
    refine kla_nest F N2 T C hcd (UpdF.head hne) trivial rfl hcl fun f c' oc vs t ctv h' tk F' N' hd hv l1 l2 => ?_
    refine h f c' oc ctv h' tk F' (fun q hq => N' q ?_) ⟨vs, t, hd, hv⟩
    rcases List.mem_cons.mp hq with rfl | hq
    · exact .head _
    · rcases List.mem_cons.mp hq with rfl | hq
      · exact .tail _ (.tail _ (.head _))
      · rcases List.mem_cons.mp hq with rfl | hq
        · exact .tail _ (.head _)
        · exact .tail _ (.tail _ (.tail _ hq))
  · refine kla_hit F N T C hcd hm1 (ht c1) (hf c1) hcl fun f ctv h' tk F' N' l1 => ?_
    refine h f c1 o1 ctv h' tk F' (fun q hq => N' q ?_) ⟨vs, t, hd, hv⟩
    rcases List.mem_cons.mp hq with rfl | hq
    · exact .head _
    · rcases List.mem_cons.mp hq with rfl | hq
      · exact .tail _ hm1
      · rcases List.mem_cons.mp hq with rfl | hq
        · exact .tail _ hm2
        · exact .tail _ (hs _ hq)
theorem newsNe {h : Heap} {l : List (Addr × Obj)} {a b : Addr} {o o' : Obj} {v : Option Value} (N : News h₀ L h l) (h1 : (a, o) ∈ l) (h2 : (b, o') ∈ l) (hd : o'.data = .cell v) (hne : ∀ v, o.data ≠ .cell v) : a ≠ b := by
  rintro rfl
  have e : o = o' := Option.some.inj ((N _ h1).1.symm.trans (N _ h2).1)
  exact hne v (e ▸ hd)
theorem storeX_S {x : Str} {v : Value} {Q : Unit → Shared → Prop} {o : Obj} {v₀ : Option Value} (F : Fr h₀ L s.heap m) (N : News h₀ L s.heap led) (hc : cl.lookup x = some c) (hm : (c, o) ∈ led) (hd : o.data = .cell v₀) (S : Sift c led news)
    (h : ∀ h' o', Fr h₀ L h' m → News h₀ L h' ((c, o') :: news) → o'.data = .cell (some v) → Q () { s with heap := h' })
    (hk : cs.kind = .function := by rfl) (hx : (envX cn cs L a ccd cl).kindOf x = some .cell := by rfl) : wpAny M A (storeName (envX cn cs L a ccd cl) x v) Q E s :=
  storeX_C F (fun q hq => N q ((List.mem_cons.mp hq).elim (fun e => e ▸ hm) (S.sub q))) hc (UpdF.head S.ne) hd h hk hx
theorem retTR {w : World} {Q : Value → Shared → Prop} {h' : Heap} {tk' : Nat} {r d P c' : Addr} {v : Int × Int} {y1 y2 : Int} {j t1 k t2 : Tok} {ps' : Array Value} {oc' : Obj} {news' : List (Addr × Obj)}
    (hret : ∀ r d z1 z2 j u1 k u2 ps' c' oc' h' tk', z1 = v.1 → z2 = v.2 → TabOk pos qual ps' c' oc' → Fr h₀ L h' m → News h₀ L h' ((r, instObj (nat_lit 89) d) :: (d, realO w j z1 u1 k z2 u2) :: (P, tabObj ps') :: (c', oc') :: news) → Q (.ref r) { s with heap := h', toks := tk' })
    (F : Fr h₀ L h' m) (N : News h₀ L h' news') (hm : (r, instObj (nat_lit 89) d) ∈ news') (hm2 : (d, realO w j y1 t1 k y2 t2) ∈ news') (ok : TabOk pos qual ps' c' oc') (hm3 : (P, tabObj ps') ∈ news') (hm4 : (c', oc') ∈ news') (hs : ∀ p ∈ news, p ∈ news')
    (e : (y1, y2) = v) : Q (.ref r) { s with heap := h', toks := tk' } := by
  refine hret r d y1 y2 j t1 k t2 ps' c' oc' h' tk' (congrArg Prod.fst e) (congrArg Prod.snd e) ok F fun p hp => N p ?_
  rcases List.mem_cons.mp hp with rfl | hp
  · exact hm
  · rcases List.mem_cons.mp hp with rfl | hp
    · exact hm2
    · rcases List.mem_cons.mp hp with rfl | hp
      · exact hm3
      · rcases List.mem_cons.mp hp with rfl | hp
        · exact hm4
        · exact hs p hp
theorem newsTab {h : Heap} {P c1 : Addr} {o1 : Obj} {ps : Array Value} (N : News h₀ L h led) (hm1 : (P, tabObj ps) ∈ led) (hm2 : (c1, o1) ∈ led) (S : Sift P led news) : News h₀ L h ((P, tabObj ps) :: (c1, o1) :: news) := by
  intro p hp
  rcases List.mem_cons.mp hp with rfl | hp
  · exact N _ hm1
  · rcases List.mem_cons.mp hp with rfl | hp
    · exact N _ hm2
    · exact N _ (S.sub p hp)
end
section
variable {prog : Program} {w : World} {A : Around} {E : Value → Shared → Prop} {Q : Flow → Shared → Prop} {s : Shared} {env : Env} {h₀ : Heap} {L : Addr} {m₀ : Str → Option Value} {news : List (Addr × Obj)}
/-- a loop that leaves in its first turn -/
noncomputable def OnceB (Q : Flow → Shared → Prop) (f : Flow) (s₂ : Shared) : Prop := match f with
  | .ret v => Q (.ret v) s₂
  | .brk => Q .next s₂
  | _ => False
theorem while_once {test : Expr} {body : List Stmt} {pos : Pos} (F : Fr h₀ L s.heap m₀) (N : News h₀ L s.heap news)
    (turn : ∀ h tk, Fr h₀ L h m₀ → News h₀ L h news →
      wpAny (model prog w) A (isTrue test env (eval test env)) (fun b s₂ =>
        if b = true then wpAny (model prog w) A (execs body env) (OnceB Q) E s₂ else Q .next s₂) E { s with heap := h, toks := tk })
    (hE : PassesOwn (model prog w) A env E := by passes_own) :
    wpAny (model prog w) A (exec (.While test body [] pos) env) Q E s := by
  refine ksw_while (σ := Unit) (fun _ => news) (fun _ => []) (fun _ => True) [] (fun _ => True) (fun _ => 0) () F N trivial (fun _ h => nomatch h) trivial (fun c u h tk _ _ F' N' => ?_) hE
  refine wpAny_mono (turn h tk F' N') (fun b s₂ p => ?_) fun _ _ x => x
  cases b with
  | false => simpa using p
  | true =>
    simp only [if_true] at p ⊢
    refine wpAny_mono p (fun f s₃ q => ?_) fun _ _ x => x
    cases f with
    | ret v => exact q
    | brk => exact q
    | next => exact q.elim
    | cont => exact q.elim
end
end
section
open PySem PySem.W PySem.Spec PySem.Calls PyProof.Rows
set_option Elab.async false
set_option maxRecDepth 100000
theorem isExp_parts {p m e : Int} (h : isExp p m e = true) : ∃ r a b, expF p m e = some r ∧ midF p r.1 r.2 = some (a, b) ∧ sideF (lawFr m e) a = some 1 ∧ sideF (lawFr m e) b = some (-1) := by
  unfold isExp at h
  split at h
  · cases h
  · rename_i r q
    split at h
    · cases h
    · rename_i a b q2
      rw [Bool.and_eq_true, beq_iff_eq, beq_iff_eq] at h
      exact ⟨r, a, b, q, q2, h.1, h.2⟩
theorem isLog_parts {p m e : Int} (h : isLog p m e = true) : ∃ r, logF p m e = some r ∧ ((m = 1 ∧ e = 0 ∧ r = (0, 0)) ∨ (¬ (m = 1 ∧ e = 0) ∧ ∃ a b, midF p r.1 r.2 = some (a, b) ∧ sideF a (lawFr m e) = some (-1) ∧ sideF b (lawFr m e) = some 1)) := by
  unfold isLog at h
  split at h
  · cases h
  · rename_i r q
    refine ⟨r, q, ?_⟩
    split at h
    · rename_i g
      rw [Bool.and_eq_true, beq_iff_eq, beq_iff_eq] at h
      exact .inl ⟨g.1, g.2, Prod.ext h.1 h.2⟩
    · rename_i g
      split at h
      · cases h
      · rename_i a b q2
        rw [Bool.and_eq_true, beq_iff_eq, beq_iff_eq] at h
        exact .inr ⟨g, a, b, q2, h.1, h.2⟩
theorem newsNeC {h₀ h : Heap} {L : Addr} {l : List (Addr × Obj)} {a b : Addr} {o o' : Obj} (N : News h₀ L h l) (h1 : (a, o) ∈ l) (h2 : (b, o') ∈ l) (hne : o.cls ≠ o'.cls) : a ≠ b := by
  rintro rfl
  have e : o = o' := Option.some.inj ((N _ h1).1.symm.trans (N _ h2).1)
  exact hne (e ▸ rfl)
theorem tabNe {h₀ h : Heap} {L P P' a : Addr} {l : List (Addr × Obj)} {o oc : Obj} {pos : Pos} {q q' : Str} {ps : Array Value} {c : Addr} (N : News h₀ L h l) (h1 : (a, o) ∈ l) (h2 : (P, tabObj ps) ∈ l) (ok : TabOk pos q ps c oc) (g : a = P' ∨ CodeNm q' o) (hP : P' ≠ P) : a ≠ P := by
  rcases g with rfl | ⟨vs, t, hd, hv⟩
  · exact hP
  · rintro rfl
    have e : o = tabObj ps := Option.some.inj ((N _ h1).1.symm.trans (N _ h2).1)
    subst e
    obtain rfl : ps = vs := by simpa using hd
    rcases ok with rfl | ⟨rfl, _⟩
    · simp at hv
    · simp [tabPs, rawInt] at hv
theorem codeNe {h₀ h : Heap} {L P a b : Addr} {l : List (Addr × Obj)} {o o' : Obj} {v : Option Value} {q : Str} {ps : Array Value} (N : News h₀ L h l) (h1 : (a, o) ∈ l) (h2 : (b, o') ∈ l) (hd : o'.data = .cell v) (hP : (P, tabObj ps) ∈ l) (g : a = P ∨ CodeNm q o) : a ≠ b := by
  rintro rfl
  have e : o = o' := Option.some.inj ((N _ h1).1.symm.trans (N _ h2).1)
  subst e
  rcases g with rfl | ⟨vs, t, hd', _⟩
  · have e : o = tabObj ps := Option.some.inj ((N _ h1).1.symm.trans (N _ hP).1)
    rw [e] at hd; cases hd
  · rw [hd'] at hd; cases hd
theorem pairIs {x y : Int} (h : (x == 1 && y == 0) = true) : x = 1 ∧ y = 0 := by simpa using h
theorem tabNorm {h₀ h : Heap} {L P r d c : Addr} {x y o : Obj} {pos : Pos} {qual : Str} {ps : Array Value} {news : List (Addr × Obj)} (ok : TabOk pos qual ps c o) (N : News h₀ L h ((r, x) :: (d, y) :: (P, tabObj ps) :: (c, o) :: news)) :
    ∃ c' o', TabOk pos qual ps c' o' ∧ (c' = P ∨ CodeNm qual o') ∧ News h₀ L h ((r, x) :: (d, y) :: (P, tabObj ps) :: (c', o') :: news) := by
  rcases id ok with rfl | ⟨rfl, cn⟩
  · refine ⟨P, tabObj #[], .inl rfl, .inl rfl, fun p hp => N p ?_⟩
    simp only [List.mem_cons] at hp ⊢
    rcases hp with e | e | e | e | e
    · exact .inl e
    · exact .inr (.inl e)
    · exact .inr (.inr (.inl e))
    · exact .inr (.inr (.inl e))
    · exact .inr (.inr (.inr (.inr e)))
  · exact ⟨c, o, ok, .inr cn, N⟩
section
variable {s : Shared} {h₀ h' : Heap} {L P c' : Addr} {m : Str → Option Value} {Q : Value → Shared → Prop} {news news' : List (Addr × Obj)} {pos : Pos} {qual : Str} {ps' : Array Value} {oc' : Obj} {tk' : Nat} {y v : Bool}
theorem retTB
    (hret : ∀ ps' c' oc' h' tk', TabOk pos qual ps' c' oc' → (c' = P ∨ CodeNm qual oc') → Fr h₀ L h' m → News h₀ L h' ((P, tabObj ps') :: (c', oc') :: news) → Q (.bool v) { s with heap := h', toks := tk' })
    (F : Fr h₀ L h' m) (N : News h₀ L h' news') (ok : TabOk pos qual ps' c' oc') (hm3 : (P, tabObj ps') ∈ news') (hm4 : (c', oc') ∈ news') (hs : ∀ p ∈ news, p ∈ news')
    (e : y = v) : Q (.bool y) { s with heap := h', toks := tk' } := by
  subst e
  rcases id ok with rfl | ⟨rfl, cn⟩
  · refine hret #[] P (tabObj #[]) h' tk' (.inl rfl) (.inl rfl) F fun p hp => N p ?_
    rcases List.mem_cons.mp hp with rfl | hp
    · exact hm3
    · rcases List.mem_cons.mp hp with rfl | hp
      · exact hm3
      · exact hs p hp
  · refine hret _ c' oc' h' tk' ok (.inr cn) F fun p hp => N p ?_
    rcases List.mem_cons.mp hp with rfl | hp
    · exact hm3
    · rcases List.mem_cons.mp hp with rfl | hp
      · exact hm4
      · exact hs p hp
end
end
section
open PySem PySem.W PySem.Spec PySem.Calls PyProof.Rows
set_option Elab.async false
set_option maxRecDepth 100000
theorem iter_not {h₀ h : Heap} {L I : Addr} {l : Addr} {k : Nat} {it : Obj} {led : List (Addr × Obj)} {q : Addr × Obj} {ql : Str} (N : News h₀ L h led) (hI : (I, it) ∈ led) (hq : q ∈ led) (hd : it.data = .fields #[.ref l, .int k 0]) (g : CodeNm ql q.2) : q.1 ≠ I := by
  intro e
  obtain ⟨vs, t, hd', hv⟩ := g
  have e' : q.2 = it := Option.some.inj ((N _ hq).1.symm.trans ((congrArg h.get? e).trans (N _ hI).1))
  rw [e', hd] at hd'
  cases hd'
  simp at hv
/-- the two tables, each empty or with its one code -/
noncomputable abbrev tabLed (psE psL : Array Value) (cE cL : Addr) (oE oL : Obj) (keep : List (Addr × Obj)) : List (Addr × Obj) := (291, tabObj psE) :: (cE, oE) :: (305, tabObj psL) :: (cL, oL) :: keep
noncomputable def TabsOk (psE psL : Array Value) (cE cL : Addr) (oE oL : Obj) : Prop := TabOk posE qualE psE cE oE ∧ (cE = 291 ∨ CodeNm qualE oE) ∧ TabOk posL qualL psL cL oL ∧ (cL = 305 ∨ CodeNm qualL oL)
noncomputable def TurnEnd (h₀ : Heap) (L I : Addr) (it : Obj) (keep : List (Addr × Obj)) (x : Str) (stored : List Str) (m₀ : Str → Option Value) (s₁ : Shared) (f : Flow) (s₂ : Shared) : Prop :=
  f = .next ∧ ∃ h' tk m' psE psL cE cL oE oL, s₂ = { s₁ with heap := h', toks := tk } ∧ Fr h₀ L h' m' ∧ News h₀ L h' ((I, it) :: tabLed psE psL cE cL oE oL keep) ∧ TabsOk psE psL cE cL oE oL ∧ ∀ z, z ≠ x → stored.contains z = false → m' z = m₀ z
theorem TurnEnd.intro {h₀ : Heap} {L I : Addr} {it : Obj} {keep led : List (Addr × Obj)} {x : Str} {stored : List Str} {m₀ m' : Str → Option Value} {s₁ : Shared} {h' : Heap} {tk : Nat} {psE psL : Array Value} {cE cL : Addr} {oE oL : Obj}
    (F : Fr h₀ L h' m') (N : News h₀ L h' led) (okE : TabOk posE qualE psE cE oE) (gE : cE = 291 ∨ CodeNm qualE oE) (okL : TabOk posL qualL psL cL oL) (gL : cL = 305 ∨ CodeNm qualL oL)
    (mI : (I, it) ∈ led) (m1 : (291, tabObj psE) ∈ led) (m2 : (cE, oE) ∈ led) (m3 : (305, tabObj psL) ∈ led) (m4 : (cL, oL) ∈ led) (mk : ∀ p ∈ keep, p ∈ led) (hz : ∀ z, z ≠ x → stored.contains z = false → m' z = m₀ z) :
    TurnEnd h₀ L I it keep x stored m₀ s₁ .next { s₁ with heap := h', toks := tk } :=
  ⟨rfl, h', tk, m', psE, psL, cE, cL, oE, oL, rfl, F, fun p hp => N p (by
    rcases List.mem_cons.mp hp with rfl | hp
    · exact mI
    · rcases List.mem_cons.mp hp with rfl | hp
      · exact m1
      · rcases List.mem_cons.mp hp with rfl | hp
        · exact m2
        · rcases List.mem_cons.mp hp with rfl | hp
          · exact m3
          · rcases List.mem_cons.mp hp with rfl | hp
            · exact m4
            · exact mk p hp), ⟨okE, gE, okL, gL⟩, hz⟩
section
variable {prog : Program} {w : World} {A : Around} {E : Value → Shared → Prop} {s : Shared} {env : Env} {h₀ : Heap} {x : Str} {body : List Stmt} {Q : Flow → Shared → Prop}
theorem iter_tabs {l : Addr} {vs : List Value} {ns : List Int} {nn : Nat} {m₀ : Str → Option Value} {led led₁ keep : List (Addr × Obj)} (stored : List Str)
    (hh : A.handled = none) (F : Fr h₀ env.locals s.heap m₀) (N : News h₀ env.locals s.heap led) (mE : (291, tabObj #[]) ∈ led) (mL : (305, tabObj #[]) ∈ led) (S1 : Sift 291 led led₁) (S2 : Sift 305 led₁ keep)
    (hl : (l, listOf vs.toArray nn) ∈ keep) (hi : IntsAre vs ns)
    (turn : ∀ n t (u : Str → Option Value) (s₁ : Shared) I it psE psL cE cL oE oL, n ∈ ns →
      Fr h₀ env.locals s₁.heap (fun y => if y = x then some (.int n t) else kstB (fun z => if stored.contains z then u z else m₀ z) [] y) → News h₀ env.locals s₁.heap ((I, it) :: tabLed psE psL cE cL oE oL keep) →
      it.cls = .type "list_iterator" → TabOk posE qualE psE cE oE → (cE = 291 ∨ CodeNm qualE oE) → TabOk posL qualL psL cL oL → (cL = 305 ∨ CodeNm qualL oL) → 291 < I → 305 < I → (∀ q ∈ keep, q.1 < I) →
      wpAny (model prog w) A (execs body env) (TurnEnd h₀ env.locals I it keep x stored m₀ s₁) E s₁)
    (done : ∀ (u : Str → Option Value) h tk psE psL, Fr h₀ env.locals h (fun y => if y = x then u y else kstB (fun z => if stored.contains z then u z else m₀ z) [] y) → News h₀ env.locals h ((291, tabObj psE) :: (305, tabObj psL) :: keep) → Q .next { s with heap := h, toks := tk }) :
    wpAny (model prog w) A (pyIter (.ref l)) (fun it s₂ => LoopAtU prog w A h₀ env x body Q E it s₂) E s := by
  have hks : ∀ p ∈ keep, p ∈ led := fun p hp => S1.sub p (S2.sub p hp)
  have hol : s.heap.get? l = some (listOf vs.toArray nn) := (N _ (hks _ hl)).1
  have hls : s.heap.IsList l vs.toArray := ⟨_, hol, rfl, nn, rfl⟩
  have hne : l ≠ s.heap.objs.size := Nat.ne_of_lt (Heap.lt_size hol)
  refine wpAny_pyIter_list hls ?_
  have W := Walks.list (prog := prog) (w := w) hh s.heap.objs.size l hne vs.toArray
  have hlen : vs.toArray.size = ns.length := by simp [hi.length]
  rw [hlen] at W
  have hn1 : 291 < s.heap.objs.size := Heap.lt_size (N _ mE).1
  have hn2 : 305 < s.heap.objs.size := Heap.lt_size (N _ mL).1
  have hkl : ∀ q ∈ keep, q.1 < s.heap.objs.size := fun q hq => Heap.lt_size (N q (hks q hq)).1
  have sub0 : ∀ p ∈ tabLed #[] #[] 291 305 (tabObj #[]) (tabObj #[]) keep, p ∈ led := fun p hp => by
    rcases List.mem_cons.mp hp with rfl | hp
    · exact mE
    · rcases List.mem_cons.mp hp with rfl | hp
      · exact mE
      · rcases List.mem_cons.mp hp with rfl | hp
        · exact mL
        · rcases List.mem_cons.mp hp with rfl | hp
          · exact mL
          · exact hks p hp
  have off : ∀ {h : Heap} {psE psL cE cL oE oL}, News h₀ env.locals h (tabLed psE psL cE cL oE oL keep) → TabsOk psE psL cE cL oE oL → (∀ q, CodeNm q oE → cE ≠ s.heap.objs.size) → (∀ q, CodeNm q oL → cL ≠ s.heap.objs.size) →
      ∀ p ∈ tabLed psE psL cE cL oE oL keep, p.1 ∉ [s.heap.objs.size] := by
    intro h psE psL cE cL oE oL N' ⟨_, gE, _, gL⟩ kE kL p hp hI
    have hI' := List.mem_singleton.mp hI
    rcases List.mem_cons.mp hp with rfl | hp
    · exact absurd hI' (Nat.ne_of_lt hn1)
    · rcases List.mem_cons.mp hp with rfl | hp
      · rcases gE with g | g
        · exact absurd (g.symm.trans hI') (Nat.ne_of_lt hn1)
        · exact kE _ g hI'
      · rcases List.mem_cons.mp hp with rfl | hp
        · exact absurd hI' (Nat.ne_of_lt hn2)
        · rcases List.mem_cons.mp hp with rfl | hp
          · rcases gL with g | g
            · exact absurd (g.symm.trans hI') (Nat.ne_of_lt hn2)
            · exact kL _ g hI'
          · exact absurd hI' (Nat.ne_of_lt (hkl p hp))
  let J : Nat → (Str → Option Value) → List (Addr × Obj) → Prop := fun _ m nx => ∃ psE psL cE cL oE oL, nx = tabLed psE psL cE cL oE oL keep ∧ TabsOk psE psL cE cL oE oL ∧ ∀ z, z ≠ x → stored.contains z = false → m z = m₀ z
  refine ⟨_, _, _, ns.length, _, _, m₀, tabLed #[] #[] 291 305 (tabObj #[]) (tabObj #[]) keep, J, rfl, W, ?_, ?_, ?_, ⟨⟨_, Heap.get?_push_size _ rfl, rfl, rfl⟩, hls.at fun o e => Heap.get?_push_of_some _ e⟩, F.push _, (fun p hp => ⟨Heap.get?_push_of_some _ (N p (sub0 p hp)).1, (N p (sub0 p hp)).2⟩),
    ⟨_, _, _, _, _, _, rfl, ⟨.inl rfl, .inl rfl, .inl rfl, .inl rfl⟩, fun _ _ _ => rfl⟩, ?_, ?_⟩
  · intro hm
    rcases List.mem_cons.mp hm with e | hm
    · exact absurd F.ns.lt (e ▸ Nat.lt_irrefl _)
    · exact (N _ (hks _ hl)).2.1 ((List.mem_singleton.mp hm).symm)
  · intro b hb
    rw [List.mem_singleton.mp hb]
    exact next_is_new F
  · intro p hp hI
    exact absurd (Heap.lt_size (N p (sub0 p hp)).1) ((List.mem_singleton.mp hI) ▸ Nat.lt_irrefl _)
  · rintro i v m₁ news₁ s₁ own hin hP ⟨psE, psL, cE, cL, oE, oL, rfl, ok, hm⟩ hoff hown hget hfp hst F₁ N₁
    obtain ⟨⟨it, hit, hcl, hd⟩, hlo⟩ := hst
    have hlt' : i < ns.length := hin
    obtain ⟨t, hx⟩ := hi.get i ns[i] (by simp [hlt'])
    have hv : v = .int ns[i] t := by
      have hP' : vs[i]? = some v := by simpa using hP
      rw [hx] at hP'; exact (Option.some.inj hP').symm
    subst hv
    have hmem := hfp s.heap.objs.size (List.mem_cons_self ..) (next_is_new F) _ hit
    have N₂ : News h₀ env.locals s₁.heap ((s.heap.objs.size, it) :: tabLed psE psL cE cL oE oL keep) := fun p hp => by
      rcases List.mem_cons.mp hp with rfl | hp
      · exact N₁ _ (List.mem_append_left _ hmem)
      · exact N₁ _ (List.mem_append_right _ hp)
    refine wpAny_mono (turn ns[i] t m₁ s₁ s.heap.objs.size it psE psL cE cL oE oL (List.getElem_mem ..) (kst_fr (fun _ h => nomatch h) (fun z h1 _ h3 => hm z h1 h3) F₁) N₂ hcl ok.1 ok.2.1 ok.2.2.1 ok.2.2.2 hn1 hn2 hkl) (fun f s₂ p => ?_) fun _ _ e => e
    obtain ⟨rfl, h', tk, m', psE', psL', cE', cL', oE', oL', rfl, F', N', ok', hm'⟩ := p
    refine ⟨rfl, h', tk, m', tabLed psE' psL' cE' cL' oE' oL' keep, rfl, F', fun p hp => ?_, ?_, ⟨_, _, _, _, _, _, rfl, ok', hm'⟩⟩
    · rcases List.mem_append.mp hp with hp | hp
      · rcases List.mem_cons.mp (hown p hp) with h1 | h1
        · have h2 : s₁.heap.get? p.1 = some p.2 := hget p hp
          have h3 : p = (s.heap.objs.size, it) := by
            rw [h1, hit] at h2
            exact Prod.ext h1 (Option.some.inj h2).symm
          rw [h3]; exact N' _ (List.mem_cons_self ..)
        · have h1' := List.mem_singleton.mp h1
          have h2 : s₁.heap.get? p.1 = some p.2 := hget p hp
          have h4 : s₁.heap.get? l = some (listOf vs.toArray nn) := (N₂ _ (.tail _ (.tail _ (.tail _ (.tail _ (.tail _ hl)))))).1
          have h3 : p = (l, listOf vs.toArray nn) := by
            rw [h1', h4] at h2
            exact Prod.ext h1' (Option.some.inj h2).symm
          rw [h3]; exact N' _ (.tail _ (.tail _ (.tail _ (.tail _ (.tail _ hl)))))
      · exact N' p (.tail _ hp)
    · exact off (fun p hp => N' p (.tail _ hp)) ok' (fun q g => iter_not N' (List.mem_cons_self ..) (q := (cE', oE')) (.tail _ (.tail _ (.head _))) hd g) (fun q g => iter_not N' (List.mem_cons_self ..) (q := (cL', oL')) (.tail _ (.tail _ (.tail _ (.tail _ (.head _))))) hd g)
  · rintro h' tk m' news' F' N' _ ⟨psE, psL, cE, cL, oE, oL, rfl, ok, hm⟩
    refine done m' h' tk psE psL (kst_frOut (fun _ h => nomatch h) (fun z h1 _ h3 => hm z h1 h3) F') fun p hp => N' p ?_
    rcases List.mem_cons.mp hp with rfl | hp
    · exact .head _
    · rcases List.mem_cons.mp hp with rfl | hp
      · exact .tail _ (.tail _ (.head _))
      · exact .tail _ (.tail _ (.tail _ (.tail _ hp)))
theorem iter_tabsV {l : Addr} {vs : List Value} {ns : List Int} {nn : Nat} {m₀ : Str → Option Value} {led led₁ keep : List (Addr × Obj)} (stored : List Str)
    (hh : A.handled = none) (F : Fr h₀ env.locals s.heap m₀) (N : News h₀ env.locals s.heap led) (mE : (291, tabObj #[]) ∈ led) (mL : (305, tabObj #[]) ∈ led) (S1 : Sift 291 led led₁) (S2 : Sift 305 led₁ keep)
    (hl : (l, listOf vs.toArray nn) ∈ keep) (hi : IntsAre vs ns)
    (turn : ∀ n t (u : Str → Option Value) (s₁ : Shared) I it psE psL cE cL oE oL, n ∈ ns →
      Fr h₀ env.locals s₁.heap (fun y => if y = x then some (.int n t) else kstB (fun z => if stored.contains z then u z else m₀ z) [] y) → News h₀ env.locals s₁.heap ((I, it) :: tabLed psE psL cE cL oE oL keep) →
      it.cls = .type "list_iterator" → TabOk posE qualE psE cE oE → (cE = 291 ∨ CodeNm qualE oE) → TabOk posL qualL psL cL oL → (cL = 305 ∨ CodeNm qualL oL) → 291 < I → 305 < I → (∀ q ∈ keep, q.1 < I) →
      wpAny (model prog w) A (execs body env) (TurnEnd h₀ env.locals I it keep x stored m₀ s₁) E s₁)
    (done : ∀ (u : Str → Option Value) h tk psE psL, Fr h₀ env.locals h (fun y => if y = x then u y else kstB (fun z => if stored.contains z then u z else m₀ z) [] y) → News h₀ env.locals h ((291, tabObj psE) :: (305, tabObj psL) :: keep) → Q .next { s with heap := h, toks := tk }) :
    wpAny (model prog w) A (pyIter (.ref l)) (fun it s₂ => LoopAtV prog w A h₀ env x body Q E it s₂) E s :=
  wpAny_mono (iter_tabs stored hh F N mE mL S1 S2 hl hi turn done) (fun _ _ h => h.toV) fun _ _ e => e
end
section
variable {M : Model} {A : Around} {E : Value → Shared → Prop} {s : Shared} {h₀ : Heap} {L a c P : Addr} {m mg mb : Str → Option Value} {cn : Str} {cs : Scope} {ccd : Value} {cl : List (Str × Addr)} {led news : List (Addr × Obj)}
  {p : Program} {loose : List Str} {mean : ExcName → Option Value} {name qual : Str} {params : Arguments} {body : Expr} {scope : Scope} {ps : Array Value} {pos : Pos} {firstLine : Nat} {clos : List (Str × Addr)}
theorem lam_T {Q : Value → Shared → Prop} (F : Fr h₀ L s.heap m) (N : News h₀ L s.heap led) (T : Top p loose mean mg mb h₀) (C : CodeHd h₀ c P) (hcd : ccd = .ref c) (hm : (P, tabObj ps) ∈ led) (S : Sift P led news)
    (ht : TriplesOk ps.toList) (hnf : codeAmong pos ps.toList = none) (hcl : closureFor scope (envX cn cs L a ccd cl) = pure clos)
    (h : ∀ f c' oc vs t ctv h' tk, Fr h₀ L h' m →
      News h₀ L h' ((f, kla_obj name qual params body scope clos ((mg "__name__").getD .none) c' ctv) :: (c', oc) :: (P, tabObj (ps ++ #[rawInt pos.line, rawInt pos.col, .ref c'])) :: news) →
      oc.data = .fields vs → vs[1]? = some (.str qual t) → (∀ q ∈ news, q.1 < c') → c' < f → Q (.ref f) { s with heap := h', toks := tk }) :
    wpAny M A (makeFunction name qual params (.expr body) scope (envX cn cs L a ccd cl) [] [] [] pos firstLine) Q E s := by
  have N2 : News h₀ L s.heap ((P, tabObj ps) :: news) := fun q hq => N q ((List.mem_cons.mp hq).elim (fun e => e ▸ hm) (S.sub q))
  exact kla_nest F N2 T C hcd (UpdF.head S.ne) ht hnf hcl fun f c' oc vs t ctv h' tk F' N' hd hv l1 l2 => h f c' oc vs t ctv h' tk F' N' hd hv (fun q hq => l1 q (.tail _ hq)) l2
end
theorem sgn_abs {x : Int} : sgn (0 - absI x) ≤ 0 := by
  unfold sgn absI
  by_cases c : x < 0
  · rw [if_pos c, decide_eq_false (by omega : ¬ 0 < 0 - -x)]
    cases decide (0 - -x < 0) <;> decide
  · rw [if_neg c, decide_eq_false (by omega : ¬ 0 < 0 - x)]
    cases decide (0 - x < 0) <;> decide
end
section
open PySem PySem.W PySem.Spec PySem.Calls PyProof.Rows Builtin Builtin.ObjectAttr
set_option Elab.async false
set_option maxRecDepth 100000
set_option maxHeartbeats 0
/-- an exception object just made, or with its own dict -/
noncomputable abbrev excO (C t : Addr) (d : Option Addr) : Obj := { cls := .ref C, dict := d, data := .fields #[.ref t, .none, .none, .none, .bool false, .none] }
noncomputable abbrev tupL (l : List Value) : Obj := { cls := .type "tuple", data := .seq l.toArray }
/-- what is asked of an exception class of the program's own, whose objects Exception makes -/
noncomputable def excObj (C : Addr) (o : Obj) : Bool := o.cls == .type "type" && (match o.data with
  | .cls cd => cd.mro.head? == some (.ref C) && o.slots.toList.length == 6 && o.slots.toList[4]? == some (some (.builtin "Exception.__new__")) && !cd.hasDel && cd.mro.contains (.type "Exception") && cd.mro.contains (.type "BaseException") && !cd.mro.contains (.type "AttributeError") && !cd.mro.contains (.type "NameError")
  | _ => false)
noncomputable def excClsIn (K : Frag) (C : Addr) : Bool := (K.lookup C).any (excObj C)
noncomputable def ExcCls (h : Heap) (C : Addr) : Prop := ∃ o, h.get? C = some o ∧ excObj C o = true
theorem excCls_of {K : Frag} {h : Heap} {C : Addr} (X : K.In h) (e : excClsIn K C = true) : ExcCls h C := by
  unfold excClsIn at e
  cases ho : K.lookup C with
  | none => rw [ho] at e; cases e
  | some o => rw [ho] at e; exact ⟨o, X _ _ ho, e⟩
theorem ExcCls.keeps {h h' : Heap} {C : Addr} (x : ExcCls h C) (k : ∀ b o, h.get? b = some o → h'.get? b = some o) : ExcCls h' C :=
  let ⟨o, a, r⟩ := x
  ⟨o, k _ _ a, r⟩
theorem six_of {α : Type} {l : List α} (h : l.length = 6) : ∃ a b c d e f, l = [a, b, c, d, e, f] := by
  obtain ⟨a, l, rfl⟩ := List.exists_cons_of_length_eq_add_one h
  obtain ⟨b, l, rfl⟩ := List.exists_cons_of_length_eq_add_one (Nat.succ.inj h)
  obtain ⟨c, l, rfl⟩ := List.exists_cons_of_length_eq_add_one (Nat.succ.inj (Nat.succ.inj h))
  obtain ⟨d, l, rfl⟩ := List.exists_cons_of_length_eq_add_one (Nat.succ.inj (Nat.succ.inj (Nat.succ.inj h)))
  obtain ⟨e, l, rfl⟩ := List.exists_cons_of_length_eq_add_one (Nat.succ.inj (Nat.succ.inj (Nat.succ.inj (Nat.succ.inj h))))
  obtain ⟨f, l, rfl⟩ := List.exists_cons_of_length_eq_add_one (Nat.succ.inj (Nat.succ.inj (Nat.succ.inj (Nat.succ.inj (Nat.succ.inj h)))))
  have h0 : l.length = 0 := Nat.succ.inj (Nat.succ.inj (Nat.succ.inj (Nat.succ.inj (Nat.succ.inj (Nat.succ.inj h)))))
  exact ⟨a, b, c, d, e, f, by rw [List.eq_nil_of_length_eq_zero h0]⟩
theorem clsD_of {C : Addr} {o : Obj} (e : excObj C o = true) : ∃ cd, o.data = .cls cd ∧ o.cls = .type "type" ∧ cd.mro.head? = some (.ref C) ∧ o.slots.toList.length = 6 ∧ o.slots.toList[4]? = some (some (.builtin "Exception.__new__")) ∧ cd.hasDel = false ∧ cd.mro.contains (.type "Exception") = true ∧ cd.mro.contains (.type "BaseException") = true ∧ cd.mro.contains (.type "AttributeError") = false ∧ cd.mro.contains (.type "NameError") = false := by
  unfold excObj at e
  rw [Bool.and_eq_true, beq_iff_eq] at e
  obtain ⟨e0, e⟩ := e
  cases hd : o.data with
  | cls cd =>
    rw [hd] at e
    simp only [Bool.and_eq_true, beq_iff_eq, Bool.not_eq_true'] at e
    obtain ⟨⟨⟨⟨⟨⟨⟨e1, e2⟩, e3⟩, e4⟩, e5⟩, e6⟩, e7⟩, e8⟩ := e
    exact ⟨cd, rfl, e0, e1, e2, e3, e4, e5, e6, e7, e8⟩
  | _ => rw [hd] at e; cases e
theorem ExcCls.obj {h : Heap} {C : Addr} (x : ExcCls h C) : ∃ nm q N bs bm hdct sn sub ab col dd k0 k1 k2 k3 k5, h.get? C = some (excClassObj nm q C N bs bm hdct sn sub ab col dd k0 k1 k2 k3 k5 "Exception.__new__") ∧
    (Value.ref C :: bm).contains (.type "Exception") = true ∧ (Value.ref C :: bm).contains (.type "BaseException") = true ∧ (Value.ref C :: bm).contains (.type "AttributeError") = false ∧ (Value.ref C :: bm).contains (.type "NameError") = false := by
  obtain ⟨o, ho, e⟩ := x
  obtain ⟨cd, hd, e0, e1, e2, e3, e4, e5, e6, e7, e8⟩ := clsD_of e
  obtain ⟨cl, dd, da, ⟨sl⟩⟩ := o
  dsimp only at hd e0 e2 e3
  subst hd e0
  obtain ⟨k0, k1, k2, k3, k4, k5, rfl⟩ := six_of e2
  obtain ⟨nm, bs, mro, ns, qn, hdt, sn, sub, ab, col, del⟩ := cd
  dsimp only at e1 e4 e5 e6 e7 e8
  subst e4
  cases mro with
  | nil => cases e1
  | cons v bm =>
    obtain rfl : v = .ref C := Option.some.inj e1
    obtain rfl : k4 = some (.builtin "Exception.__new__") := Option.some.inj e3
    exact ⟨nm, qn, ns, bs, bm, hdt, sn, sub, ab, col, dd, k0, k1, k2, k3, k5, ho, e5, e6, e7, e8⟩
section
variable {prog : Program} {w : World} {A : Around} {R : Result → Shared → Prop} {E : Value → Shared → Prop} {h : Heap} {g : Array GenState} {d : Drawn} {t : Nat} {os : OsState}
variable {nm q : Str} {C N : Addr} {bs bm bmB : List Value} {hdct : Bool} {sn : List Str} {sub : List Value} {ab : Bool} {col : Option Bool} {dd : Option Addr} {k0 k1 k2 k3 k5 : Option Value} {B newId initId : String}
theorem new_check {M : Model} (F : ExcBaseFacts B newId initId bmB) (hB : (Value.ref C :: bm).contains (.type B) = true) {rest : List Value} {Q : Unit → Shared → Prop}
    (hC : h.get? C = some (excClassObj nm q C N bs bm hdct sn sub ab col dd k0 k1 k2 k3 k5 newId)) (hq : Q () ⟨h, g, d, t, os⟩) : wpAny M A (checkBuiltinCall newId ⟨.ref C :: rest, []⟩) Q E ⟨h, g, d, t, os⟩ := by
  have hstar := F.noStar
  simp only [checkBuiltinCall, F.newKind, F.newSplit, F.newRow]
  repeat (first | refine wpAny_loadPart_at hC ?_ | (refine wpAny_isSubtype_exc hC ?_; rw [hB]) | refine wpAny_staticBase_exc hC ?_ | refine wpAny_madeBy_exc hC ?_ | simp only [bne_self_eq_false, Bool.false_eq_true, if_false] | wp_step)
  exact hq
theorem new_made (F : ExcBaseFacts B newId initId bmB) (hB : (Value.ref C :: bm).contains (.type B) = true) (hA : (Value.ref C :: bm).contains (.type "AttributeError") = false) (hN : (Value.ref C :: bm).contains (.type "NameError") = false)
    {rest : List Value} (hC : h.get? C = some (excClassObj nm q C N bs bm hdct sn sub ab col dd k0 k1 k2 k3 k5 newId))
    (hq : R (.ok (.ret (.ref (h.objs.size + 1)))) ⟨(h.push (tupL rest)).push (excO C h.objs.size none), g, d, t, os⟩) (hrest : rest.length ≤ sizeLine) :
    codeAny (model prog w) A (.builtin newId ⟨.ref C :: rest, []⟩) R ⟨h, g, d, t, os⟩ := by
  have hends := F.ends
  refine codeAny_builtinAt F.entry ?_
  unfold Builtin.«BaseException.__new__»
  refine PySem.wpAt_bind ?_
  show PySem.wpAt _ _ _ (stack >>= _) _ _ _
  refine PySem.wpAt_bind (PySem.wpAt_stack fun p below => PySem.wpAt_of_wpAny ?_)
  wp_walk
  refine PySem.wpAt_of_wpAny ?_
  rw [F.owner]
  repeat (first | with_reducible refine wpAny_madeHere_exc F.canon hC ?_ | with_reducible refine wpAny_loadPart_at hC ?_ | (with_reducible refine wpAny_isSubtype_exc hC ?_; first | rw [hB] | rw [hA] | rw [hN]) | wp_step)
  show R _ _
  rw [Heap.size_push]
  exact hq
end
section
variable {prog : Program} {w : World} {A : Around} {C : Addr} {s : Shared} {h₀ : Heap} {L : Addr} {m : Str → Option Value} {news : List (Addr × Obj)} {R : Result → Shared → Prop} {K : Frag}
theorem make_exc {rest : List Value} {fI : Addr} (F : Fr h₀ L s.heap m) (N : News h₀ L s.heap news) (X : K.In s.heap) (hm : excClsIn K C = true)
    (hi : findIn K (.ref C) "__init__" = some (some (.ref fI))) (hf : typeIn K (.ref fI) = some (.type "function")) (hrest : rest.length ≤ sizeLine)
    (k : ∀ x t h', Fr h₀ L h' m → News h₀ L h' ((x, excO C t none) :: (t, tupL rest) :: news) → (∀ p ∈ news, p.1 < t) → t < x →
      codeAny (model prog w) (A.under (.builtin "type.__call__" ⟨.ref C :: rest, []⟩)) (.call (.ref fI) ⟨.ref x :: rest, []⟩) (InitBack x R) { s with heap := h' }) :
    codeAny (model prog w) A (.call (.ref C) ⟨rest, []⟩) R s := by
  obtain ⟨h, g, d, t, os⟩ := s
  obtain ⟨nm, q, Nn, bs, bm, hdct, sn, sub, ab, col, dd, k0, k1, k2, k3, k5, hC, hB, hBB, hA, hN⟩ := (excCls_of X hm).obj
  have f1 := tc_lookup
  have f2 := tc_bind (.ref C)
  have FE := PySem.F.excBase_Exception
  refine codeAny_of_tree ?_
  show wpAny _ _ (callAny (.ref C) _) _ _ _
  repeat (any_goals (first | assumption | with_reducible refine wpAny_loadPart_at hC ?_ | wp_step))
  refine ⟨rfl, ?_⟩
  refine codeAny_call_builtin_at (Code.quiet_builtin _ (by decide +kernel)) entry_typeCall (wpAny_check_type_call_sub hC ?_)
  repeat (first | with_reducible refine wpAny_loadPart_at hC ?_ | with_reducible refine wpAny_madeBy_exc hC ?_ | wp_step)
  refine codeAny_call_builtin_code (Code.quiet_builtin _ FE.quiet) (new_check FE hB hC ?_)
  refine new_made FE hB hA hN hC ?_ hrest
  show wpAny _ _ _ _ _ _
  have hC₁ := Heap.get?_push_of_some (excO C h.objs.size none) (Heap.get?_push_of_some (tupL rest) hC)
  have kk : ∀ b o, h.get? b = some o → ((h.push (tupL rest)).push (excO C h.objs.size none)).get? b = some o := fun b o e => Heap.get?_push_of_some _ (Heap.get?_push_of_some _ e)
  have hget : ((h.push (tupL rest)).push (excO C h.objs.size none)).get? (h.objs.size + 1) = some (excO C h.objs.size none) := by heap_get
  have hcC : (Value.ref C :: bm).contains (.ref C) = true := by simp
  have X₁ : K.In ((h.push (tupL rest)).push (excO C h.objs.size none)) := fun b o e => kk b o (X b o e)
  have t1 : Looks (model prog w) ((h.push (tupL rest)).push (excO C h.objs.size none)) (typeOf (.ref (h.objs.size + 1))) (.ref C) := (Looks.ld hget).andThen .now
  have s1 : Looks (model prog w) ((h.push (tupL rest)).push (excO C h.objs.size none)) (isSubtype (.ref C) (.ref C)) true := by
    intro A Q E s k q
    obtain ⟨hp, g, d, tk, os⟩ := s
    refine wpAny_isSubtype_exc (k _ _ hC₁) ?_
    rw [hcC]; exact q
  have i1 := looks_findIn (M := model prog w) X₁ hi
  have b1 := bind_fn (M := model prog w) X₁ (.ref (h.objs.size + 1)) hf
  show wpAny (model prog w) (A.under (Code.builtin "type.__call__" ⟨.ref C :: rest, []⟩)) (isInstance (.ref (h.objs.size + 1)) (.ref C) >>= _) _ _ ⟨(h.push (tupL rest)).push (excO C h.objs.size none), g, d, t, os⟩
  unfold isInstance callSpecial? specialOf
  repeat (first | simp only [hcC, Bool.not_true, Bool.false_eq_true, if_false] | with_reducible refine wpAny_call ?_ | lk)
  have N' := (N.push F (tupL rest)).push (F.push _) (excO C h.objs.size none)
  rw [Heap.size_push] at N'
  refine codeAny_mono (k _ h.objs.size _ ((F.push _).push _) N' (fun p hp => Heap.lt_size (N p hp).1) (Nat.lt_succ_self _)) fun r s' z => ?_
  rcases r with e | (v | _ | _ | _) <;> first | exact z | exact z.elim | skip
  obtain ⟨rfl, z⟩ := z
  exact wpAny_pure (wpAny_pure z)
end
end
section
open PySem PySem.W PySem.Spec PySem.Calls PyProof.Rows Builtin Builtin.ObjectAttr
set_option Elab.async false
set_option maxRecDepth 100000
set_option maxHeartbeats 0
section
variable {M : Model} {A : Around} {E : Value → Shared → Prop} {s' : Shared} {base g g₂ h : Heap} {outer : List Env} {L a e t C : Addr} {m : Str → Option Value} {env : Env} {Q : Unit → Shared → Prop} {news led : List (Addr × Obj)} {dd : Option Addr}
theorem pushE (K : Below A base outer g) (F : Fr g L h m) (hf : env.frame = some L) (hk : env.scope.kind = .function) : Below (A.deeper env) base (env :: outer) h := by
  have hnew : base.get? L = none := by
    cases hq : base.get? L with
    | none => rfl
    | some o => exact absurd (Nat.lt_of_lt_of_le (Heap.lt_size (K.stays L o hq)) F.above) (Nat.lt_irrefl _)
  refine ⟨Around.frames_deeper K.stack, fun b o e => F.keep b o (K.stays b o e), ?_⟩
  exact .cons (by rw [hk]; decide) hf F.ns hnew (K.frames.of_keeps fun b o e _ => ⟨o, F.keep b o e, rfl⟩)
theorem memE {b : Addr} (hf : env.frame = some L) (hm : b ∈ (env :: outer).filterMap (·.frame)) : b = L ∨ b ∈ outer.filterMap (·.frame) := by
  rw [List.filterMap_cons, hf] at hm
  exact List.mem_cons.mp hm
theorem leave_exc (K : Below A base outer g) (F : Fr g L s'.heap m) (N : News g L s'.heap led) (he : (e, excO C t dd) ∈ led) (S : Sift e led news) (hf : env.frame = some L) (hk : env.scope.kind = .function)
    (hQ : ∀ h', RaisedSN base g outer e (.ref C) news h' → g.UpToSlots h' → Q () { s' with heap := h' }) : wpAny M (A.deeper env) (leaving env (.ref e)) Q E s' := by
  have K' := pushE (env := env) K F hf hk
  have hin : ∀ v ∈ (env :: outer), ∀ b, v.frame = some b → b ∈ e :: (env :: outer).filterMap (·.frame) := fun v hv b hb => .tail _ (List.mem_filterMap.mpr ⟨v, hv, hb⟩)
  have eb : base.get? e = none := fresh_of_stays K.stays (N _ he).2.2
  have st : base.StaysIn (hideAll s'.heap (e :: (env :: outer).filterMap (·.frame))) := fun b o q => hideAll_get _ (K'.stays b o q) fun hm => by
    rcases List.mem_cons.mp hm with rfl | hm
    · rw [eb] at q; cases q
    · rw [(K'.frames.mem hm).1] at q; cases q
  have sg : ∀ b o, g.get? b = some o → b ∉ outer.filterMap (·.frame) → (hideAll s'.heap (e :: (env :: outer).filterMap (·.frame))).get? b = some o := fun b o q nm => hideAll_get _ (F.keep b o q) fun hm => by
    rcases List.mem_cons.mp hm with rfl | hm
    · rw [(N _ he).2.2] at q; cases q
    · rcases memE hf hm with z | z
      · rw [z, kts_self F] at q; cases q
      · exact nm z
  have hl : ∀ q ∈ news, (hideAll s'.heap (e :: (env :: outer).filterMap (·.frame))).get? q.1 = some q.2 ∧ g.get? q.1 = none ∧ base.get? q.1 = none := fun q hq => by
    have hq' := S.sub q hq
    refine ⟨hideAll_get _ (N q hq').1 fun hm => ?_, (N q hq').2.2, fresh_of_stays K.stays (N q hq').2.2⟩
    rcases List.mem_cons.mp hm with z | hm
    · exact S.ne q hq z
    · rcases memE hf hm with z | z
      · exact (N q hq').2.1 z
      · obtain ⟨o, ho, _⟩ := (K.frames.mem z).2
        rw [(N q hq').2.2] at ho; cases ho
  have hen : (hideAll s'.heap (e :: (env :: outer).filterMap (·.frame))).get? e = none := hideAll_none _ (.head _)
  refine wpAny_leaving_firstW (a0 := .ref t) K'.stack (funFrames_hide K'.frames hin) hf (N _ he).1 (fun b o hb => of_hideAll _ hb) hen rfl rfl rfl fun h' hL => ?_
  obtain ⟨k1, k2, k3, k4⟩ := hL
  exact hQ h' ⟨_, .ref t, st, sg, hl, k1, hen, k2.2.2, k3⟩ ((Heap.UpToSlots.of_keeps F.keep).trans k4)
theorem leave_onX {cls : Value} (K : Below A base outer g) (F : Fr g L g₂ m) (hf : env.frame = some L) (R : RaisedSN base g₂ (env :: outer) e cls news s'.heap) (hsm : g₂.UpToSlots s'.heap)
    (hQ : ∀ h', RaisedSN base g outer e cls news h' → g.UpToSlots h' → Q () { s' with heap := h' }) : wpAny M (A.deeper env) (leaving env (.ref e)) Q E s' := by
  obtain ⟨B, a0, hB, hBG, hl, hfl⟩ := R
  exact wpAny_leaves_onW (Around.frames_deeper K.stack) hf hfl fun h' x1 x2 =>
    hQ h' ⟨B, a0, hB, fun b o q nm => hBG b o (F.keep b o q) (fun hm => by
      rcases memE hf hm with z | z
      · rw [z, kts_self F] at q
        cases q
      · exact nm z), fun q hq => ⟨(hl q hq).1, kts_none F.keep (hl q hq).2.1, (hl q hq).2.2⟩, x1⟩ ((Heap.UpToSlots.of_keeps F.keep).trans (hsm.trans x2))
end
/-- what a raised value answers to -/
noncomputable def RaiseP (C : Addr) (E : Value → Shared → Prop) (v : Value) (s₁ : Shared) : Prop := ∃ e t d, v = .ref e ∧ ExcCls s₁.heap C ∧ s₁.heap.get? e = some (excO C t d) ∧ E v s₁
section
variable {M : Model} {A : Around} {E : Value → Shared → Prop} {s : Shared} {env : Env} {C : Addr}
theorem raise_stmt {x : Sem Value} {Q : Flow → Shared → Prop} (hh : A.handled = none) (h : wpAny M A x (RaiseP C E) E s) : wpAny M A (raiseStmt env (some x) none) Q E s := by
  unfold raiseStmt
  refine wpAny_bind (wpAny_mono h (fun v s₁ h₁ => ?_) fun _ _ x => x)
  obtain ⟨e, t, dd, rfl, hc, he, hE⟩ := h₁
  obtain ⟨nm, q, Nn, bs, bm, hdct, sn, sub, ab, col, dd, k0, k1, k2, k3, k5, hC, hB, hcB, hA, hN⟩ := hc.obj
  obtain ⟨hp, g, d, tk, os⟩ := s₁
  repeat (first | with_reducible refine wpAny_loadPart_at he ?_ | with_reducible refine wpAny_loadPart_at hC ?_ | (with_reducible refine wpAny_isSubtype_exc hC ?_; rw [hcB]) | wp_step)
  exact wpAny_raiseNew_none hh hE
end
section
variable {prog : Program} {w : World} {A : Around} {E : Value → Shared → Prop} {s : Shared} {env : Env} {C : Addr}
theorem raise_own {x : Expr} {pos : Pos} {Q : Flow → Shared → Prop} (hh : A.handled = none) (h : wpAny (model prog w) A (eval x env) (RaiseP C E) E s) : wpAny (model prog w) A (exec (.Raise (some x) none pos) env) Q E s := by
  rw [arm_exec_Raise]
  exact wpAny_bind (wpAny_standAt (raise_stmt (C := C) hh (wpAny_bind (wpAny_mono h (fun v s₃ h₃ => wpAny_bind (wpAny_standAt (wpAny_pure h₃))) fun _ _ x => x))))
end
section
variable {s : Shared} {g : Heap} {L e t C : Addr} {d : Option Addr} {K : Frag} {led : List (Addr × Obj)} {E : Value → Shared → Prop} {m : Str → Option Value}
theorem raiseP_of (F : Fr g L s.heap m) (X : K.In g) (hm : excClsIn K C = true) (N : News g L s.heap led) (he : (e, excO C t d) ∈ led) (h : E (.ref e) s) : RaiseP C E (.ref e) s :=
  ⟨e, t, d, rfl, excCls_of (X.keeps F.keep) hm, (N _ he).1, h⟩
end
end
section
open PySem PySem.W PySem.Spec PySem.Calls PyProof.Rows Builtin Builtin.ObjectAttr
set_option Elab.async false
set_option maxRecDepth 100000
set_option maxHeartbeats 0
/-- a dict of attributes with names among a list -/
noncomputable def DictN (ns : List Str) (od : Obj) : Prop := ∃ mA es ep, Within mA ns ∧ od.data = .dict es ep ∧ StrKeys es ∧ UniqKeys es ∧ ∀ name, nsFind es name = mA name
theorem same_news {h₀ h h' : Heap} {L d : Addr} {m : Str → Option Value} {led news : List (Addr × Obj)} {o o' : Obj} (F : Fr h₀ L h m) (N : News h₀ L h led) (hd : (d, o) ∈ led) (S : Sift d led news) (hs : Heap.SameBut d h h') (ho : h'.get? d = some o') :
    Fr h₀ L h' m ∧ News h₀ L h' ((d, o') :: news) := by
  have D := N _ hd
  obtain ⟨oL, es, ep, hL, r⟩ := F.ns
  refine ⟨⟨⟨oL, es, ep, (hs.2 L (Ne.symm D.2.1)).trans hL, r⟩, fun b x q => (hs.2 b fun z => ?_).trans (F.keep b x q), F.above⟩, fun p hp => ?_⟩
  · have := D.2.2; rw [← z, q] at this; cases this
  · rcases List.mem_cons.mp hp with rfl | hp
    · exact ⟨ho, D.2⟩
    · exact ⟨(hs.2 _ (S.ne p hp)).trans (N p (S.sub p hp)).1, (N p (S.sub p hp)).2⟩
noncomputable def isRef : Value → Bool
  | .ref _ => true
  | _ => false
theorem isRef_of {v : Value} (h : isRef v = true) : ∃ c, v = .ref c := by
  cases v with
  | ref c => exact ⟨c, rfl⟩
  | _ => cases h
noncomputable def excOnly (l : List Value) : Bool := l.dropWhile isRef == [.type "Exception", .type "BaseException", .type "object"]
theorem refuse_base (self : Value) : refuseLoop self "__setattr__" [.type "Exception", .type "BaseException", .type "object"] = pure () := by kernel_rfl
theorem excOnly_ind {P : List Value → Prop} (h0 : P [.type "Exception", .type "BaseException", .type "object"]) (h1 : ∀ c r, P r → P (.ref c :: r)) (l : List Value) (e : excOnly l = true) : P l := by
  unfold excOnly at e
  rw [beq_iff_eq] at e
  induction l with
  | nil => cases e
  | cons v r ih =>
    cases hv : isRef v with
    | true => obtain ⟨c, rfl⟩ := isRef_of hv; exact h1 c r (ih e)
    | false => rw [List.dropWhile_cons, hv] at e; rw [show v :: r = _ from e]; exact h0
theorem refuse_exc (self : Value) {l : List Value} (e : excOnly l = true) : refuseLoop self "__setattr__" l = pure () :=
  excOnly_ind (P := fun l => refuseLoop self "__setattr__" l = pure ()) (refuse_base self) (fun c r h => by rw [refuseLoop_ref]; exact h) l e
theorem excOnly_has {l : List Value} (e : excOnly l = true) : l.contains (.type "object") = true :=
  excOnly_ind (P := fun l => l.contains (.type "object") = true) (by decide +kernel) (fun c r h => by rw [List.contains_cons, h, Bool.or_true]) l e
noncomputable def excOver (K : Frag) (C : Addr) : Bool := (clsIn K C).any fun cd => excOnly cd.mro && cd.hasDict
section
variable {prog : Program} {w : World} {A : Around} {K : Frag} {C x t dx : Addr} {s : Shared} {h₀ : Heap} {L : Addr} {m : Str → Option Value} {news led : List (Addr × Obj)} {R : Result → Shared → Prop} {ox : Obj} {od : Option Obj} {name : Str} {tk : Tok} {v : Value}
theorem osaE (X : K.In s.heap) (I : InstAt s.heap x ox C od) (hp : excOver K C = true) (ht : findIn K (.ref C) name = some none)
    (h : wpAny (model prog w) A.in1 (storeInOwnDict (.ref x) (.ref C) (.str name tk) name v false)
      (fun fin s' => match fin with | .done f => R (.ok f) s' | .again c' => c'.quiet = true ∧ codeAny (model prog w) A c' R s') (fun e s' => R (.error e) s') s) :
    codeAny (model prog w) A (.call (.builtin "object.__setattr__") ⟨[.ref x, .str name tk, v], []⟩) R s := by
  have SF := PySem.F.store_object
  obtain ⟨cd, hc, ho⟩ := any_some hp
  rw [Bool.and_eq_true] at ho
  have ne : cd.mro.isEmpty = false := by cases q : cd.mro with | nil => rw [q] at ho; cases ho.1 | cons _ _ => rfl
  have sub : Looks (model prog w) s.heap (isInstance (.ref x) (.type "object")) true := I.type.andThen (looks_mroIn X (by unfold mroIn; rw [hc, Option.bind_some, if_neg (by rw [ne]; decide), excOnly_has ho.1]))
  refine codeAny_call_builtin SF.slot.plain SF.entry (@check_slot (model prog w) _ _ s "object.__setattr__" "object" "__setattr__" (.ref x) [.str name tk, v] [] _ SF.kind SF.split sub (SF.args (.ref x) (.str name tk) v) ?_)
  have hm : Looks (model prog w) s.heap (mroOf (.ref C)) cd.mro := (looks_clsIn X hc).andThen .now
  have L3 : Looks (model prog w) s.heap (storeTaker? none) none := .now
  rw [osa_eq, refuse_eq]
  refine wpAny_bind (wpAny_bind (I.type.here (wpAny_bind (hm.here ?_))))
  rw [refuse_exc _ ho.1]
  refine wpAny_pure (wpAny_bind (I.type.here (wpAny_bind ((looks_findIn X ht).here (wpAny_bind (L3.here ?_))))))
  exact h
end
section
variable {M : Model} {A : Around} {E : Value → Shared → Prop} {K : Frag} {C x t dx : Addr} {h : Heap} {g : Array GenState} {d : Drawn} {tt : Nat} {os : OsState} {h₀ : Heap} {L : Addr} {m : Str → Option Value} {news led : List (Addr × Obj)} {name : Str} {tk : Tok} {v : Value} {Q : PySem.Fin → Shared → Prop} {ns : List Str} {od : Obj}
theorem own_some (F : Fr h₀ L h m) (N : News h₀ L h led) (X : K.In h) (hp : excOver K C = true) (hx : (x, excO C t (some dx)) ∈ led) (hd : (dx, od) ∈ led) (D : DictN ns od) (S : Sift dx led news) (hl : ns.length ≤ 900)
    (k : ∀ h' od' tk', Fr h₀ L h' m → News h₀ L h' ((dx, od') :: news) → DictN (name :: ns) od' → Q (.done (.ret .none)) ⟨h', g, d, tk', os⟩) :
    wpAny M A (storeInOwnDict (.ref x) (.ref C) (.str name tk) name v false) Q E ⟨h, g, d, tt, os⟩ := by
  obtain ⟨cd, hc, ho⟩ := any_some hp
  rw [Bool.and_eq_true] at ho
  obtain ⟨mA, es, ep, hw, hdd, hsk, huk, hf⟩ := D
  have hns : h.Ns1 dx mA := ⟨od, es, ep, (N _ hd).1, hdd, hsk, huk, hf⟩
  refine wpAny_bind (wpAny_pure (wpAny_bind (wpAny_bind (wpAny_loadPart (N _ hx).1 (wpAny_bind ((looks_clsIn X hc).here ?_))))))
  rw [ho.2]
  refine wpAny_pure (a := some dx) (wpAny_bind (wpAny_pure (wpAny_bind (wpAny_nsSet1 hns fun h' hn' hs => ?_))))
  obtain ⟨oD, esD, epD, hoD, hdD, hcD⟩ := hn'.count (Within.cons name v hw)
  refine wpAny_bind (wpAny_lookBehind hoD (by rw [hdD]; exact pastItsLine_dict (Nat.le_trans hcD (by rw [List.length_cons, sizeLine_eq]; omega))) ?_)
  obtain ⟨o', es', ep', e1, e2, e3, e4, e5⟩ := hn'
  obtain ⟨F', N'⟩ := same_news F N hd S hs e1
  exact wpAny_pure (k _ _ _ F' N' ⟨_, es', ep', Within.cons name v hw, e2, e3, e4, e5⟩)
theorem own_none (F : Fr h₀ L h m) (N : News h₀ L h led) (X : K.In h) (hp : excOver K C = true) (hx : (x, excO C t none) ∈ led) (S : Sift x led news)
    (k : ∀ h' dx od' tk', Fr h₀ L h' m → News h₀ L h' ((dx, od') :: (x, excO C t (some dx)) :: news) → DictN [name] od' → (∀ q ∈ led, q.1 < dx) → Q (.done (.ret .none)) ⟨h', g, d, tk', os⟩) :
    wpAny M A (storeInOwnDict (.ref x) (.ref C) (.str name tk) name v false) Q E ⟨h, g, d, tt, os⟩ := by
  obtain ⟨cd, hc, ho⟩ := any_some hp
  rw [Bool.and_eq_true] at ho
  have N₁ := N.push F emptyDict
  have F₁ := F.push emptyDict
  have lt : ∀ q ∈ led, q.1 < h.objs.size := fun q hq => Heap.lt_size (N q hq).1
  have N₂ : News h₀ L (h.push emptyDict) ([(h.objs.size, emptyDict)] ++ (x, excO C t none) :: news) := fun q hq => by
    rcases List.mem_cons.mp hq with rfl | hq
    · exact N₁ _ (.head _)
    · rcases List.mem_cons.mp hq with rfl | hq
      · exact N₁ _ (.tail _ hx)
      · exact N₁ _ (.tail _ (S.sub _ hq))
  obtain ⟨F₃, N₃⟩ := news_upd (f := fun o => { o with dict := some h.objs.size }) F₁ N₂ (fun p hp => by obtain rfl := List.mem_singleton.mp hp; exact Nat.ne_of_gt (lt _ hx)) S.ne (o' := excO C t (some h.objs.size)) rfl rfl
  have hgd := (N₃ (h.objs.size, emptyDict) (.head _)).1
  have hnd : ((h.push emptyDict).update x fun o => { o with dict := some h.objs.size }).Ns h.objs.size (fun _ => none) :=
    ⟨_, #[], _, hgd, rfl, fun e he => absurd he (by simp), fun _ => rfl⟩
  refine wpAny_bind (wpAny_pure (wpAny_bind (wpAny_bind (wpAny_loadPart (N _ hx).1 (wpAny_bind ((looks_clsIn X hc).here ?_))))))
  rw [ho.2]
  refine wpAny_bind (wpAny_alloc' ?_)
  refine wpAny_bind (wpAny_update' (N₁ _ (.tail _ hx)).1 ?_)
  refine wpAny_pure (a := some h.objs.size) (wpAny_bind (wpAny_pure (wpAny_bind (wpAny_nsSet1 (Heap.Ns1.of_empty hnd) fun h' hn' hs => ?_))))
  obtain ⟨oD, esD, epD, hoD, hdD, hcD⟩ := hn'.count (Within.cons name v Within.nil)
  refine wpAny_bind (wpAny_lookBehind hoD (by rw [hdD]; exact pastItsLine_dict (Nat.le_trans hcD (by rw [List.length_cons, List.length_nil, sizeLine_eq]; omega))) ?_)
  obtain ⟨o', es', ep', e1, e2, e3, e4, e5⟩ := hn'
  obtain ⟨F', N'⟩ := same_news (news := (x, excO C t (some h.objs.size)) :: news) F₃ N₃ (.head _) (.drop (.all fun q hq => by
    rcases List.mem_cons.mp hq with rfl | hq
    · exact Nat.ne_of_lt (lt (x, excO C t none) hx)
    · exact Nat.ne_of_lt (lt _ (S.sub _ hq)))) hs e1
  exact wpAny_pure (k _ _ _ _ F' N' ⟨_, es', ep', Within.cons name v Within.nil, e2, e3, e4, e5⟩ lt)
end
section
variable {prog : Program} {w : World} {A : Around} {E : Value → Shared → Prop} {K : Frag} {C x t dx : Addr} {s : Shared} {h₀ : Heap} {L : Addr} {m : Str → Option Value} {news led : List (Addr × Obj)} {name : Str} {v : Value} {Q : Unit → Shared → Prop} {ns : List Str} {od : Obj}
theorem setExc_some (F : Fr h₀ L s.heap m) (N : News h₀ L s.heap led) (X : K.In h₀) (hp : excOver K C = true) (hs : findIn K (.ref C) "__setattr__" = some (some (.builtin "object.__setattr__"))) (ht : findIn K (.ref C) name = some none)
    (hx : (x, excO C t (some dx)) ∈ led) (hd : (dx, od) ∈ led) (D : DictN ns od) (S : Sift dx led news) (hl : ns.length ≤ 900)
    (k : ∀ h' od' tk', Fr h₀ L h' m → News h₀ L h' ((dx, od') :: news) → DictN (name :: ns) od' → Q () { s with heap := h', toks := tk' }) : wpAny (model prog w) A (setAttr (.ref x) name v) Q E s := by
  have I : InstAt s.heap x (excO C t (some dx)) C (some od) := ⟨(N _ hx).1, rfl, rfl, (N _ hd).1⟩
  refine set_plain (X.keeps F.keep) I hs ?_
  refine osaE (X.keeps F.keep) I hp ht ?_
  exact own_some F N (X.keeps F.keep) hp hx hd D S hl fun h' od' tk' F' N' D' => k h' od' tk' F' N' D'
theorem setExc_none (F : Fr h₀ L s.heap m) (N : News h₀ L s.heap led) (X : K.In h₀) (hp : excOver K C = true) (hs : findIn K (.ref C) "__setattr__" = some (some (.builtin "object.__setattr__"))) (ht : findIn K (.ref C) name = some none)
    (hx : (x, excO C t none) ∈ led) (S : Sift x led news)
    (k : ∀ h' dx od' tk', Fr h₀ L h' m → News h₀ L h' ((dx, od') :: (x, excO C t (some dx)) :: news) → DictN [name] od' → (∀ q ∈ led, q.1 < dx) → Q () { s with heap := h', toks := tk' }) : wpAny (model prog w) A (setAttr (.ref x) name v) Q E s := by
  have I : InstAt s.heap x (excO C t none) C none := ⟨(N _ hx).1, rfl, rfl, trivial⟩
  refine set_plain (X.keeps F.keep) I hs ?_
  refine osaE (X.keeps F.keep) I hp ht ?_
  exact own_none F N (X.keeps F.keep) hp hx S fun h' dx od' tk' F' N' D' l => k h' dx od' tk' F' N' D' l
end
section
variable {prog : Program} {w : World} {A : Around} {C : Addr} {s : Shared} {h₀ : Heap} {L : Addr} {m : Str → Option Value} {news : List (Addr × Obj)} {R : Result → Shared → Prop} {K : Frag}
theorem make_excH {rest : List Value} {fI : Addr} (F : Fr h₀ L s.heap m) (N : News h₀ L s.heap news) (X : K.In h₀) (hm : excClsIn K C = true)
    (hi : findIn K (.ref C) "__init__" = some (some (.ref fI))) (hf : typeIn K (.ref fI) = some (.type "function")) (hrest : rest.length ≤ sizeLine)
    (k : ∀ x t h', Fr h₀ L h' m → News h₀ L h' ((x, excO C t none) :: (t, tupL rest) :: news) → (∀ p ∈ news, p.1 < t) → t < x →
      codeAny (model prog w) (A.under (.builtin "type.__call__" ⟨.ref C :: rest, []⟩)) (.call (.ref fI) ⟨.ref x :: rest, []⟩) (InitBack x R) { s with heap := h' }) :
    codeAny (model prog w) A (.call (.ref C) ⟨rest, []⟩) R s := make_exc F N (X.keeps F.keep) hm hi hf hrest k
theorem raised_sub {base G h : Heap} {l : List Env} {e : Addr} {cls : Value} {led : List (Addr × Obj)} (R : RaisedSN base G l e cls led h) (k : ∀ p ∈ news, p ∈ led) : RaisedSN base G l e cls news h := by
  obtain ⟨B, a0, hB, hBG, hl, hfl⟩ := R
  exact ⟨B, a0, hB, hBG, fun q hq => hl q (k q hq), hfl⟩
end
end
section
open PySem PySem.W PySem.Spec PySem.Calls PyProof.Rows Builtin Builtin.ObjectAttr
set_option Elab.async false
set_option maxRecDepth 100000
set_option maxHeartbeats 0
section
variable {prog : Program} {w : World} {A₀ A : Around} {s : Shared} {base h₀ : Heap} {L : Addr} {m : Str → Option Value} {news : List (Addr × Obj)} {K : Frag} {p : Program} {loose : List Str} {mean : ExcName → Option Value} {mg mb : Str → Option Value} {env : Env}
    {R : Result → Shared → Prop} {name qual : Str} {params : Arguments} {body : List Stmt} {scope : Scope} {dV kV doc pm cdv ct oc : Value} {an od : Option Addr} {osl : Array (Option Value)} {f : Addr} {args : Args} {binds : List (Str × Value)}
/-- the callee's heap, where what the caller laid is hidden: with the caller's own dict in it -/
theorem turn_back {g : Heap} {oL : Obj} {es : Array DictEntry} {ep : Nat} (F : Fr h₀ L s.heap m) (st : h₀.StaysIn g) (hg : g.get? L = some oL) (hd : oL.data = .dict es ep)
    (hn : ∀ (sl : Array (Option Value)) h', h'.get? L = some { oL with slots := sl } → Heap.Ns h' L m) (hf : env.frame = some L) {v : Value} {s' : Shared}
    (hl : LeaveS0 ([env].filterMap (·.frame)) h₀ L m g R v s') : R (.ok (.ret v)) s' := by
  obtain ⟨g', L', m', news', T', F', N', k⟩ := hl
  obtain ⟨sl, hs⟩ := T'.up hg
  have nL := kts_self F
  have far : ∀ b o, h₀.get? b = some o → g'.get? b = some o := fun b o e => T'.other b o (st b o e) fun hm => by
    rw [List.filterMap_cons, hf] at hm
    rcases List.mem_cons.mp hm with rfl | hm
    · rw [nL] at e; cases e
    · cases hm
  refine k ⟨hn sl _ (F'.keep _ _ hs), fun b o e => F'.keep b o (far b o e), F.above⟩ fun q hq => ?_
  obtain ⟨n1, n2, n3⟩ := N' q hq
  refine ⟨n1, fun z => ?_, ?_⟩
  · rw [z, hs] at n3; cases n3
  · cases c : h₀.get? q.1 with
    | none => rfl
    | some o => rw [far _ _ c] at n3; cases n3
theorem code_defT (B : Below A₀ base [] h₀) (F : Fr h₀ L s.heap m) (X₀ : K.In h₀) (N : News h₀ L s.heap news) (T : Top p loose mean mg mb h₀) (hA : A.frames = some [env]) (hf : env.frame = some L) (hke : env.scope.kind = .function)
    (ho : K.lookup f = some ⟨oc, od, .func (fnOf name qual params body scope dV kV doc pm an cdv ct), osl⟩) (hcd : codeIn K cdv qual = true) (hroom : A.depth < recursionLimit)
    (hbind : BindsTo s (fnOf name qual params body scope dV kV doc pm an cdv ct) args binds) (hloc : ∀ y ∈ binds, scope.names.lookup y.1 = some .local)
    (h : ∀ g L' h₁, Fr h₀ L g m → Fr g L' h₁ (fun y => binds.reverse.lookup y) → News g L' h₁ news → Below A base [env] g → K.In g → Top p loose mean mg mb g → KtsDicts ([env].filterMap (·.frame)) g →
      wpAny (model prog w) (A.deeper (envOf qual scope L' f cdv)) (execs body (envOf qual scope L' f cdv))
        (fun fl s' => LeaveS0 ([env].filterMap (·.frame)) h₀ L m g R (match fl with | .ret v => v | _ => .none) s')
        (fun e s' => wpAny (model prog w) (A.deeper (envOf qual scope L' f cdv)) (leaving (envOf qual scope L' f cdv) e) (fun _ s'' => R (.error e) s'') (fun e' s'' => R (.error e') s'') s')
        { s with heap := h₁, toks := s.toks + binds.length })
    (hco : scope.isCoroutine = false) (hgen : scope.isGenerator = false) (hk : scope.kind = .function)
    (hcell : ∀ x ∈ scope.names, x.2 ≠ .cell) : codeAny (model prog w) A (.call (.ref f) args) R s := by
  have X := X₀.keeps F.keep
  have off : ∀ q ∈ news.map (·.1), h₀.get? q = none ∧ q ≠ L := fun q hq => by
    obtain ⟨x, hx, rfl⟩ := List.mem_map.mp hq
    exact ⟨(N x hx).2.2, (N x hx).2.1⟩
  have st : h₀.StaysIn (hideAll s.heap (news.map (·.1))) := fun b o e => hideAll_get _ (F.keep b o e) fun hm => by
    rw [(off b hm).1] at e; cases e
  obtain ⟨oL, es, ep, hL, hd, l1, l2⟩ := F.ns
  have hg : (hideAll s.heap (news.map (·.1))).get? L = some oL := hideAll_get _ hL fun hm => (off L hm).2 rfl
  have Bg : Below A base [env] (hideAll s.heap (news.map (·.1))) := by
    refine ⟨hA, fun b o e => st b o (B.stays b o e), funFrames_hideAll (pushE B F hf hke).frames fun v hv a ha hva => ?_⟩
    rcases List.mem_cons.mp hv with rfl | hv
    · rw [hf] at hva
      exact (off a ha).2 (Option.some.inj hva).symm
    · cases hv
  have Dg : KtsDicts ([env].filterMap (·.frame)) (hideAll s.heap (news.map (·.1))) := fun b hb => by
    rw [List.filterMap_cons, hf] at hb
    rcases List.mem_cons.mp hb with rfl | hb
    · exact ⟨oL, es, ep, hg, hd⟩
    · cases hb
  refine codeAny_call_def (fd := fnOf name qual params body scope dV kV doc pm an cdv ct) (body := body) (binds := binds) hroom (X _ _ ho) rfl (T.nolimit.keeps F.keep) (codeRec_of X hcd) rfl hbind hcell hloc (fun h₁ hns hk₁ => ?_) hco hgen hk
  refine wpAny_mono (h _ s.heap.objs.size h₁ ⟨⟨oL, es, ep, hg, hd, l1, l2⟩, st, F.above⟩ ⟨hns, fun b o e => hk₁ b o (of_hideAll _ e), Nat.le_of_eq (hideAll_size _ _)⟩
    (fun q hq => ⟨hk₁ _ _ (N q hq).1, Nat.ne_of_lt (Heap.lt_size (N q hq).1), hideAll_none _ (List.mem_map_of_mem hq)⟩) Bg (X₀.keeps st) (T.keeps st) Dg)
    (fun fl s' hl => turn_back F st hg hd (fun sl h' e => ⟨_, es, ep, e, hd, l1, l2⟩) hf hl) fun _ _ y => y
end
end
local macro_rules | `(tactic| k_room) => `(tactic| ktr_room)
local macro_rules | `(tactic| ktr_room) => `(tactic| k_dflt (first | (refine room2 (by with_reducible assumption) ?_; exact rfl) | (refine room1 (by with_reducible assumption) ?_; exact rfl) | exact room0 (by with_reducible assumption) | exact Nat.le_of_ble_eq_true rfl))
local macro_rules | `(tactic| ktr_units) => `(tactic| k_dflt (first | (refine room2 (by with_reducible assumption) ?_; exact rfl) | (refine room1 (by with_reducible assumption) ?_; exact rfl) | exact room0 (by with_reducible assumption) | exact Nat.le_of_ble_eq_true rfl))
local macro_rules | `(tactic| k_mem) => `(tactic| first | exact List.Mem.head _ | ktr_member | (refine List.mem_cons_of_mem _ ?_; k_mem))
local macro_rules | `(tactic| ktr_rel) => `(tactic| first | assumption | exact sm_one | decide | exact Sm.of_le (by omega) | exact Sm.pow2 (by omega) | exact Sm.pow2b (by omega) | exact sm_sgn | exact Sm.abs (by assumption) | k_dflt ((repeat (with_reducible rename News _ _ _ _ => zN; clear zN)); (repeat (with_reducible rename Fr _ _ _ _ => zN; clear zN)); subst_vars; first | assumption | exact sm_sgn | exact Sm.abs (by assumption)))
local macro_rules | `(tactic| kwd_less) => `(tactic| k_dflt (first | assumption | (subst_vars; assumption)))
local macro_rules | `(tactic| mul_fits) => `(tactic| exact Sm.mul (by ktr_rel) (by ktr_rel))
local macro_rules | `(tactic| walk_at $s:str) => `(tactic| k_extra $s)
section
open PySem PySem.W PySem.Spec PySem.Calls PyProof.Rows
set_option Elab.async false
set_option maxRecDepth 100000
set_option maxHeartbeats 0
theorem reg_1 : True := by
  k_with_none
  k_with "lt9" => (first | with_reducible assumption | (refine ltc (by with_reducible assumption) ?_; first | exact pj1 | exact pj2 | exact pj3 | exact pj4 | exact pj5 | exact pj6 | exact pj7 | exact pj8 | exact pj9 | exact pj10 | exact pj11 | exact pj12 | exact pj13 | exact pj14 | exact qj1 | exact qj2 | exact qj3 | exact qj4 | exact qj5 | exact qj6 | exact qj7 | exact qj8 | exact qj9 | exact qj10 | exact qj11 | exact qj12 | exact qj13 | exact qj14))
  k_with "ne9" => (first | decide | (refine Nat.ne_of_lt ?_; walk_at "lt9") | (refine Nat.ne_of_gt ?_; walk_at "lt9") | exact Nat.ne_of_lt (Nat.lt_succ_self _) | exact Nat.ne_of_gt (Nat.lt_succ_self _) | (refine ne_up1 ?_; walk_at "lt9") | (refine ne_up2 ?_; walk_at "lt9") | (refine Ne.symm (ne_up1 ?_); walk_at "lt9") | (refine Ne.symm (ne_up2 ?_); walk_at "lt9"))
  trivial
-- Sm facts
theorem reg_2 : True := by
  k_with "binaryOp FloorDiv int int" => ((k_here; (with_reducible refine floordiv_int ?feq3 ?_ (Or.inl (Sm.py ?fpq3))); (case feq3 => first | decide | omega | assumption); (case fpq3 => ktr_rel)))
  k_with "binaryOp LShift int int" => ((k_here; (with_reducible refine lshift_int ?feq4 ?fpq4 ?_); (case feq4 => omega); (case fpq4 => exact Sm.shl (by ktr_rel) (by omega))))
  k_with "ite" => ((k_here; k_openite; k_spoken; first
  | (refine ite_pos (by ((try simp only [beq_iff_eq, bne_iff_ne, ne_eq, Bool.not_eq_true', beq_eq_false_iff_ne]); (try law_clear); (try subst_vars); first | assumption | exact decide_eq_true rfl | exact Int.not_le.mp (by assumption) | exact Int.not_lt.mp (by assumption) | (law_clear; omega))) ?_; walk_say "PRUNED own")
  | (refine ite_neg (by ((try simp only [beq_iff_eq, bne_iff_ne, ne_eq, Bool.not_eq_true', beq_eq_false_iff_ne]); (try law_clear); (try subst_vars); first | assumption | exact Int.not_le.mpr (by assumption) | exact Int.not_lt.mpr (by assumption) | (law_clear; omega))) ?_; walk_say "PRUNED own")))
  k_with "subscriptTail" => ((k_here; (with_reducible show wpAny _ _ (subscriptTail _ _ (Value.ref _) (Value.int _ _)) _ _ _); k_dflt (refine' item_tupleT ?tq6 ?aq6 ?bq6 ?cq6 ?dq6 ?_; (case tq6 => exact News.isTup (by k_asm) (by k_mem)); (case aq6 => decide); (case bq6 => decide); (case cq6 => rfl); (case dq6 => rfl); k_whole)))
  k_with "subscriptTail Name Constant ref int" => ((k_here; (with_reducible show wpAny _ _ (subscriptTail _ _ (Value.ref _) (Value.int _ _)) _ _ _); k_dflt (refine' item_tupleT ?tq7 ?aq7 ?bq7 ?cq7 ?dq7 ?_; (case tq7 => exact News.isTup (by k_asm) (by k_mem)); (case aq7 => decide); (case bq7 => decide); (case cq7 => rfl); (case dq7 => rfl); k_whole)))
  k_with "callWith ref" => ((k_here; k_dflt (refine' callWith_K ?k1q8 ?k2q8 ?_; (case k1q8 => k_asm); (case k2q8 => k_is); k_whole)))
  k_with "call builtin:divmod" => ((k_here; (with_reducible show wpAny _ _ (call (Value.builtin _) [Value.int _ _, Value.int _ _]) _ _ _); k_dflt (refine' divmod_N ?k1q9 ?k2q9 ?feq9 ?_ (Or.inl (Sm.py ?fpq9)); (case k1q9 => k_asm); (case k2q9 => k_asm); (case feq9 => first | omega | exact Int.ne_of_gt (Int.mul_pos (by omega) (pow2_pos _))); (case fpq9 => ktr_rel)); intro h' F' N'; (try k_sweep)))
  k_with "call builtin:max" => ((k_here; (with_reducible show wpAny _ _ (call (Value.builtin _) [Value.ref _]) _ _ _); k_dflt (first
  | (refine' max_tup ?k0q10 ?k1q10 ?k2q10 ?k3q10 ?_; (case k0q10 => exact rfl); (case k1q10 => k_asm); (case k2q10 => k_asm); (case k3q10 => exact News.isTup (by k_asm) (by k_mem)))
  | (refine' max_list4 ?k0q10 ?k1q10 ?k2q10 ?k3q10 ?_; (case k0q10 => exact rfl); (case k1q10 => k_asm); (case k2q10 => k_asm); (case k3q10 => exact News.isList (by k_asm) (by k_mem)))); k_whole; intro h' r' tk' F' N'; (try k_sweep)))
  k_with "call builtin:min" => ((k_here; (with_reducible show wpAny _ _ (call (Value.builtin _) [Value.ref _]) _ _ _); k_dflt (first
  | (refine' min_tup ?k0q11 ?k1q11 ?k2q11 ?k3q11 ?_; (case k0q11 => exact rfl); (case k1q11 => k_asm); (case k2q11 => k_asm); (case k3q11 => exact News.isTup (by k_asm) (by k_mem)))
  | (refine' min_list4 ?k0q11 ?k1q11 ?k2q11 ?k3q11 ?_; (case k0q11 => exact rfl); (case k1q11 => k_asm); (case k2q11 => k_asm); (case k3q11 => exact News.isList (by k_asm) (by k_mem)))); k_whole; intro h' r' tk' F' N'; (try k_sweep)))
  trivial
section
variable {w : World} {loose : List Str} {mean : ExcName → Option Value} {mg mb : Str → Option Value}
  {dp un : Nat} {gd : Option (List Code)} {cn : Str} {cs : Scope} {a : Addr} {ccd : Value} {cl : List (Str × Addr)} {outer : List Env} {A₀ : Around} {base h₀ : Heap} {L : Addr} {m : Str → Option Value} {news : List (Addr × Obj)} {s : Shared} {Q E : Value → Shared → Prop}

theorem size_of_c {x : Int} {t1 : Tok}
  (B : Below A₀ base outer h₀) (F : Fr h₀ L s.heap m) (X : (hd.heap_1 w.params).In h₀) (N : News h₀ L s.heap (news)) (T : Top topProg loose mean mg mb h₀) (hk : cs.kind = .function)
  (hdp : dp + 3 < recursionLimit) (hun : un + 40 < cLine)
   
  (hret : ∀ z t h' tk', z = szI x → Fr h₀ L h' m → News h₀ L h' news → Q (.int z t) { s with heap := h', toks := tk' }) :
  wpAny (model Challenge.rw_nt0168_01.row.prog w) (ktrTop dp un gd cn cs L a ccd cl outer) (call (.ref 100) [.int x t1]) Q E s := by
  refine wpAny_call ?_
  k_dflt ktr_enter
  k_steps
  all_goals (refine retI hret (by assumption) (by k_asm) (by first | ((repeat (first | exact sub_refl | refine sub_cons ?_)); done) | (intro p hp; first | exact hp | (repeat (first | exact hp | refine List.mem_cons_of_mem _ ?_)))) ?_)
  all_goals (unfold szI absI; rfl)
theorem reg_3 : True := by
  k_with "call ref" => ((k_here; (with_reducible show wpAny _ _ (call (Value.ref 100) _ _) _ _ _); k_dflt (refine' size_of_c ?k1q12 ?k2q12 ?k3q12 ?k4q12 ?k5q12 ?kKq12 ?kdq12 ?kuq12   ?_; (case k1q12 => k_asm); (case k2q12 => k_asm); (case k3q12 => k_asm); (case k4q12 => k_asm); (case k5q12 => k_asm); (case kKq12 => first | exact rfl | assumption); (case kdq12 => ktr_room); (case kuq12 => ktr_units); k_whole); intro z9 t9 h9 tk9 e9 F9 N9; (try k_sweep); (try dsimp only); (try k_fold); skip))
  trivial
theorem sign_of_whole_c {x : Int} {t1 : Tok}
  (B : Below A₀ base outer h₀) (F : Fr h₀ L s.heap m) (X : (hd.heap_1 w.params).In h₀) (N : News h₀ L s.heap (news)) (T : Top topProg loose mean mg mb h₀) (hk : cs.kind = .function)
  (hdp : dp + 3 < recursionLimit) (hun : un + 40 < cLine)
   
  (hret : ∀ z t h' tk', z = sgn x → Fr h₀ L h' m → News h₀ L h' news → Q (.int z t) { s with heap := h', toks := tk' }) :
  wpAny (model Challenge.rw_nt0168_01.row.prog w) (ktrTop dp un gd cn cs L a ccd cl outer) (call (.ref 107) [.int x t1]) Q E s := by
  refine wpAny_call ?_
  k_dflt ktr_enter
  k_steps
  all_goals (refine retI hret (by assumption) (by k_asm) (by first | ((repeat (first | exact sub_refl | refine sub_cons ?_)); done) | (intro p hp; first | exact hp | (repeat (first | exact hp | refine List.mem_cons_of_mem _ ?_)))) ?_)
  all_goals (unfold sgn; rfl)
theorem reg_4 : True := by
  k_with "call ref" => ((k_here; (with_reducible show wpAny _ _ (call (Value.ref 107) _ _) _ _ _); k_dflt (refine' sign_of_whole_c ?k1q13 ?k2q13 ?k3q13 ?k4q13 ?k5q13 ?kKq13 ?kdq13 ?kuq13   ?_; (case k1q13 => k_asm); (case k2q13 => k_asm); (case k3q13 => k_asm); (case k4q13 => k_asm); (case k5q13 => k_asm); (case kKq13 => first | exact rfl | assumption); (case kdq13 => ktr_room); (case kuq13 => ktr_units); k_whole); intro z9 t9 h9 tk9 e9 F9 N9; (try k_sweep); (try dsimp only); (try k_fold); skip))
  trivial
theorem zeros_below_c {x : Int} {t1 : Tok}
  (B : Below A₀ base outer h₀) (F : Fr h₀ L s.heap m) (X : (hd.heap_1 w.params).In h₀) (N : News h₀ L s.heap (news)) (T : Top topProg loose mean mg mb h₀) (hk : cs.kind = .function)
  (hdp : dp + 3 < recursionLimit) (hun : un + 40 < cLine)
   
  (hret : ∀ z t h' tk', z = zerosI x → Fr h₀ L h' m → News h₀ L h' news → Q (.int z t) { s with heap := h', toks := tk' }) :
  wpAny (model Challenge.rw_nt0168_01.row.prog w) (ktrTop dp un gd cn cs L a ccd cl outer) (call (.ref 114) [.int x t1]) Q E s := by
  refine wpAny_call ?_
  k_dflt ktr_enter
  k_steps
  all_goals (refine retI hret (by assumption) (by k_asm) (by first | ((repeat (first | exact sub_refl | refine sub_cons ?_)); done) | (intro p hp; first | exact hp | (repeat (first | exact hp | refine List.mem_cons_of_mem _ ?_)))) ?_)
  all_goals (unfold zerosI; rfl)
theorem reg_5 : True := by
  k_with "call ref" => ((k_here; (with_reducible show wpAny _ _ (call (Value.ref 114) _ _) _ _ _); k_dflt (refine' zeros_below_c ?k1q14 ?k2q14 ?k3q14 ?k4q14 ?k5q14 ?kKq14 ?kdq14 ?kuq14   ?_; (case k1q14 => k_asm); (case k2q14 => k_asm); (case k3q14 => k_asm); (case k4q14 => k_asm); (case k5q14 => k_asm); (case kKq14 => first | exact rfl | assumption); (case kdq14 => ktr_room); (case kuq14 => ktr_units); k_whole); intro z9 t9 h9 tk9 e9 F9 N9; (try k_sweep); (try dsimp only); (try k_fold); skip))
  trivial
theorem up_shift_c {x p : Int} {t1 t2 : Tok}
  (B : Below A₀ base outer h₀) (F : Fr h₀ L s.heap m) (X : (hd.heap_1 w.params).In h₀) (N : News h₀ L s.heap (news)) (T : Top topProg loose mean mg mb h₀) (hk : cs.kind = .function)
  (hdp : dp + 3 < recursionLimit) (hun : un + 40 < cLine)
   (hp : 0 ≤ p)
  (hret : ∀ z t h' tk', z = upShift x p → Fr h₀ L h' m → News h₀ L h' news → Q (.int z t) { s with heap := h', toks := tk' }) :
  wpAny (model Challenge.rw_nt0168_01.row.prog w) (ktrTop dp un gd cn cs L a ccd cl outer) (call (.ref 177) [.int x t1, .int p t2]) Q E s := by
  refine wpAny_call ?_
  k_dflt ktr_enter
  k_steps
  all_goals (refine retI hret (by assumption) (by k_asm) (by first | ((repeat (first | exact sub_refl | refine sub_cons ?_)); done) | (intro p hp; first | exact hp | (repeat (first | exact hp | refine List.mem_cons_of_mem _ ?_)))) ?_)
  all_goals (simp only [upShift, p2_eq])
theorem reg_6 : True := by
  k_with "call ref" => ((k_here; (with_reducible show wpAny _ _ (call (Value.ref 177) _ _) _ _ _); k_dflt (refine' up_shift_c ?k1q15 ?k2q15 ?k3q15 ?k4q15 ?k5q15 ?kKq15 ?kdq15 ?kuq15  ?p0q15 ?_; (case k1q15 => k_asm); (case k2q15 => k_asm); (case k3q15 => k_asm); (case k4q15 => k_asm); (case k5q15 => k_asm); (case kKq15 => first | exact rfl | assumption); (case kdq15 => ktr_room); (case kuq15 => ktr_units); (case p0q15 => first | with_reducible assumption | omega); k_whole); intro z9 t9 h9 tk9 e9 F9 N9; (try k_sweep); (try dsimp only); (try k_fold); skip))
  trivial
theorem up_over_c {x b : Int} {t1 t2 : Tok}
  (B : Below A₀ base outer h₀) (F : Fr h₀ L s.heap m) (X : (hd.heap_1 w.params).In h₀) (N : News h₀ L s.heap (news)) (T : Top topProg loose mean mg mb h₀) (hk : cs.kind = .function)
  (hdp : dp + 3 < recursionLimit) (hun : un + 40 < cLine)
   (hb : 0 < b) (hs : Sm b)
  (hret : ∀ z t h' tk', z = upOver x b → Fr h₀ L h' m → News h₀ L h' news → Q (.int z t) { s with heap := h', toks := tk' }) :
  wpAny (model Challenge.rw_nt0168_01.row.prog w) (ktrTop dp un gd cn cs L a ccd cl outer) (call (.ref 184) [.int x t1, .int b t2]) Q E s := by
  refine wpAny_call ?_
  k_dflt ktr_enter
  k_steps
  all_goals (refine retI hret (by assumption) (by k_asm) (by first | ((repeat (first | exact sub_refl | refine sub_cons ?_)); done) | (intro p hp; first | exact hp | (repeat (first | exact hp | refine List.mem_cons_of_mem _ ?_)))) ?_)
  all_goals (unfold upOver; rfl)
theorem reg_7 : True := by
  k_with "call ref" => ((k_here; (with_reducible show wpAny _ _ (call (Value.ref 184) _ _) _ _ _); k_dflt (refine' up_over_c ?k1q16 ?k2q16 ?k3q16 ?k4q16 ?k5q16 ?kKq16 ?kdq16 ?kuq16  ?p0q16 ?p1q16 ?_; (case k1q16 => k_asm); (case k2q16 => k_asm); (case k3q16 => k_asm); (case k4q16 => k_asm); (case k5q16 => k_asm); (case kKq16 => first | exact rfl | assumption); (case kdq16 => ktr_room); (case kuq16 => ktr_units); (case p0q16 => first | with_reducible assumption | omega); (case p1q16 => ktr_rel); k_whole); intro z9 t9 h9 tk9 e9 F9 N9; (try k_sweep); (try dsimp only); (try k_fold); skip))
  trivial
theorem with_sticky_c {x : Int} {b : Bool} {t1 : Tok}
  (B : Below A₀ base outer h₀) (F : Fr h₀ L s.heap m) (X : (hd.heap_1 w.params).In h₀) (N : News h₀ L s.heap (news)) (T : Top topProg loose mean mg mb h₀) (hk : cs.kind = .function)
  (hdp : dp + 3 < recursionLimit) (hun : un + 40 < cLine)
   
  (hret : ∀ z t h' tk', z = stickyI x b → Fr h₀ L h' m → News h₀ L h' news → Q (.int z t) { s with heap := h', toks := tk' }) :
  wpAny (model Challenge.rw_nt0168_01.row.prog w) (ktrTop dp un gd cn cs L a ccd cl outer) (call (.ref 142) [.int x t1, .bool b]) Q E s := by
  refine wpAny_call ?_
  k_dflt ktr_enter
  k_steps
  all_goals (refine retI hret (by assumption) (by k_asm) (by first | ((repeat (first | exact sub_refl | refine sub_cons ?_)); done) | (intro p hp; first | exact hp | (repeat (first | exact hp | refine List.mem_cons_of_mem _ ?_)))) ?_)
  all_goals (simp_all [stickyI])
theorem reg_8 : True := by
  k_with "call ref" => ((k_here; (with_reducible show wpAny _ _ (call (Value.ref 142) _ _) _ _ _); k_dflt (refine' with_sticky_c ?k1q17 ?k2q17 ?k3q17 ?k4q17 ?k5q17 ?kKq17 ?kdq17 ?kuq17   ?_; (case k1q17 => k_asm); (case k2q17 => k_asm); (case k3q17 => k_asm); (case k4q17 => k_asm); (case k5q17 => k_asm); (case kKq17 => first | exact rfl | assumption); (case kdq17 => ktr_room); (case kuq17 => ktr_units); k_whole); intro z9 t9 h9 tk9 e9 F9 N9; (try k_sweep); (try dsimp only); (try k_fold); skip))
  trivial
theorem nearest_shift_c {x p : Int} {t1 t2 : Tok}
  (B : Below A₀ base outer h₀) (F : Fr h₀ L s.heap m) (X : (hd.heap_1 w.params).In h₀) (N : News h₀ L s.heap (news)) (T : Top topProg loose mean mg mb h₀) (hk : cs.kind = .function)
  (hdp : dp + 3 < recursionLimit) (hun : un + 40 < cLine)
   (hp : 1 ≤ p) (hq : p < 9000)
  (hret : ∀ z t h' tk', z = nearI x p → Fr h₀ L h' m → News h₀ L h' news → Q (.int z t) { s with heap := h', toks := tk' }) :
  wpAny (model Challenge.rw_nt0168_01.row.prog w) (ktrTop dp un gd cn cs L a ccd cl outer) (call (.ref 128) [.int x t1, .int p t2]) Q E s := by
  refine wpAny_call ?_
  k_dflt ktr_enter
  k_steps
  all_goals (refine retI hret (by assumption) (by k_asm) (by first | ((repeat (first | exact sub_refl | refine sub_cons ?_)); done) | (intro p hp; first | exact hp | (repeat (first | exact hp | refine List.mem_cons_of_mem _ ?_)))) ?_)
  all_goals (first | (simp_all [nearI, p2_eq]; done) | (simp_all [nearI, p2_eq]; omega))
theorem reg_9 : True := by
  k_with "call ref" => ((k_here; (with_reducible show wpAny _ _ (call (Value.ref 128) _ _) _ _ _); k_dflt (refine' nearest_shift_c ?k1q18 ?k2q18 ?k3q18 ?k4q18 ?k5q18 ?kKq18 ?kdq18 ?kuq18  ?p0q18 ?p1q18 ?_; (case k1q18 => k_asm); (case k2q18 => k_asm); (case k3q18 => k_asm); (case k4q18 => k_asm); (case k5q18 => k_asm); (case kKq18 => first | exact rfl | assumption); (case kdq18 => ktr_room); (case kuq18 => ktr_units); (case p0q18 => first | with_reducible assumption | omega); (case p1q18 => first | with_reducible assumption | omega); k_whole); intro z9 t9 h9 tk9 e9 F9 N9; (try k_sweep); (try dsimp only); (try k_fold); skip))
  trivial
theorem more_of_c {x1 y1 x2 y2 : Int} {t1 u1 t2 u2 : Tok} {a1 a2 : Addr}
  (B : Below A₀ base outer h₀) (F : Fr h₀ L s.heap m) (X : (hd.heap_1 w.params).In h₀) (N : News h₀ L s.heap (news)) (T : Top topProg loose mean mg mb h₀) (hk : cs.kind = .function)
  (hdp : dp + 3 < recursionLimit) (hun : un + 40 < cLine)
  (Ma1 : (a1, tupO x1 t1 y1 u1) ∈ news) (Ma2 : (a2, tupO x2 t2 y2 u2) ∈ news) 
  (hret : ∀ r z1 z2 u1 u2 h' tk', z1 = (moreI (x1, y1) (x2, y2)).1 → z2 = (moreI (x1, y1) (x2, y2)).2 → Fr h₀ L h' m → News h₀ L h' ((r, tupO z1 u1 z2 u2) :: news) → Q (.ref r) { s with heap := h', toks := tk' }) :
  wpAny (model Challenge.rw_nt0168_01.row.prog w) (ktrTop dp un gd cn cs L a ccd cl outer) (call (.ref 198) [.ref a1, .ref a2]) Q E s := by
  refine wpAny_call ?_
  k_dflt ktr_enter
  k_steps
  all_goals (refine retT hret (by assumption) (by k_asm) (by k_mem) (by first | ((repeat (first | exact sub_refl | refine sub_cons ?_)); done) | (intro p hp; first | exact hp | (repeat (first | exact hp | refine List.mem_cons_of_mem _ ?_)))) ?_)
  all_goals (unfold moreI; rfl)
theorem reg_10 : True := by
  k_with "call ref" => ((k_here; (with_reducible show wpAny _ _ (call (Value.ref 198) _ _) _ _ _); k_dflt (refine' more_of_c ?k1q19 ?k2q19 ?k3q19 ?k4q19 ?k5q19 ?kKq19 ?kdq19 ?kuq19 ?m0q19 ?m1q19  ?_; (case k1q19 => k_asm); (case k2q19 => k_asm); (case k3q19 => k_asm); (case k4q19 => k_asm); (case k5q19 => k_asm); (case kKq19 => first | exact rfl | assumption); (case kdq19 => ktr_room); (case kuq19 => ktr_units); (case m0q19 => k_mem); (case m1q19 => k_mem); k_whole); intro r9 z9 y9 t9 u9 h9 tk9 e9 f9 F9 N9; (try k_sweep); (try dsimp only); (try k_fold); skip))
  trivial
theorem less_of_c {x1 y1 x2 y2 : Int} {t1 u1 t2 u2 : Tok} {a1 a2 : Addr}
  (B : Below A₀ base outer h₀) (F : Fr h₀ L s.heap m) (X : (hd.heap_1 w.params).In h₀) (N : News h₀ L s.heap (news)) (T : Top topProg loose mean mg mb h₀) (hk : cs.kind = .function)
  (hdp : dp + 3 < recursionLimit) (hun : un + 40 < cLine)
  (Ma1 : (a1, tupO x1 t1 y1 u1) ∈ news) (Ma2 : (a2, tupO x2 t2 y2 u2) ∈ news) 
  (hret : ∀ r z1 z2 u1 u2 h' tk', z1 = (lessI (x1, y1) (x2, y2)).1 → z2 = (lessI (x1, y1) (x2, y2)).2 → Fr h₀ L h' m → News h₀ L h' ((r, tupO z1 u1 z2 u2) :: news) → Q (.ref r) { s with heap := h', toks := tk' }) :
  wpAny (model Challenge.rw_nt0168_01.row.prog w) (ktrTop dp un gd cn cs L a ccd cl outer) (call (.ref 205) [.ref a1, .ref a2]) Q E s := by
  refine wpAny_call ?_
  k_dflt ktr_enter
  k_steps
  all_goals (refine retT hret (by assumption) (by k_asm) (by k_mem) (by first | ((repeat (first | exact sub_refl | refine sub_cons ?_)); done) | (intro p hp; first | exact hp | (repeat (first | exact hp | refine List.mem_cons_of_mem _ ?_)))) ?_)
  all_goals (unfold lessI; rfl)
theorem reg_11 : True := by
  k_with "call ref" => ((k_here; (with_reducible show wpAny _ _ (call (Value.ref 205) _ _) _ _ _); k_dflt (refine' less_of_c ?k1q20 ?k2q20 ?k3q20 ?k4q20 ?k5q20 ?kKq20 ?kdq20 ?kuq20 ?m0q20 ?m1q20  ?_; (case k1q20 => k_asm); (case k2q20 => k_asm); (case k3q20 => k_asm); (case k4q20 => k_asm); (case k5q20 => k_asm); (case kKq20 => first | exact rfl | assumption); (case kdq20 => ktr_room); (case kuq20 => ktr_units); (case m0q20 => k_mem); (case m1q20 => k_mem); k_whole); intro r9 z9 y9 t9 u9 h9 tk9 e9 f9 F9 N9; (try k_sweep); (try dsimp only); (try k_fold); skip))
  trivial
theorem often_c {x1 y1 z : Int} {t1 u1 t3 : Tok} {a1 : Addr}
  (B : Below A₀ base outer h₀) (F : Fr h₀ L s.heap m) (X : (hd.heap_1 w.params).In h₀) (N : News h₀ L s.heap (news)) (T : Top topProg loose mean mg mb h₀) (hk : cs.kind = .function)
  (hdp : dp + 3 < recursionLimit) (hun : un + 40 < cLine)
  (Ma1 : (a1, tupO x1 t1 y1 u1) ∈ news) (h1 : IntMulOk x1 z) (h2 : IntMulOk y1 z)
  (hret : ∀ r z1 z2 u1 u2 h' tk', z1 = (oftenI (x1, y1) z).1 → z2 = (oftenI (x1, y1) z).2 → Fr h₀ L h' m → News h₀ L h' ((r, tupO z1 u1 z2 u2) :: news) → Q (.ref r) { s with heap := h', toks := tk' }) :
  wpAny (model Challenge.rw_nt0168_01.row.prog w) (ktrTop dp un gd cn cs L a ccd cl outer) (call (.ref 212) [.ref a1, .int z t3]) Q E s := by
  refine wpAny_call ?_
  k_dflt ktr_enter
  k_steps
  all_goals (refine retT hret (by assumption) (by k_asm) (by k_mem) (by first | ((repeat (first | exact sub_refl | refine sub_cons ?_)); done) | (intro p hp; first | exact hp | (repeat (first | exact hp | refine List.mem_cons_of_mem _ ?_)))) ?_)
  all_goals (unfold oftenI; rfl)
theorem reg_12 : True := by
  k_with "call ref" => ((k_here; (with_reducible show wpAny _ _ (call (Value.ref 212) _ _) _ _ _); k_dflt (refine' often_c ?k1q21 ?k2q21 ?k3q21 ?k4q21 ?k5q21 ?kKq21 ?kdq21 ?kuq21 ?m0q21 ?p0q21 ?p1q21 ?_; (case k1q21 => k_asm); (case k2q21 => k_asm); (case k3q21 => k_asm); (case k4q21 => k_asm); (case k5q21 => k_asm); (case kKq21 => first | exact rfl | assumption); (case kdq21 => ktr_room); (case kuq21 => ktr_units); (case m0q21 => k_mem); (case p0q21 => mul_fits); (case p1q21 => mul_fits); k_whole); intro r9 z9 y9 t9 u9 h9 tk9 e9 f9 F9 N9; (try k_sweep); (try dsimp only); (try k_fold); skip))
  trivial
theorem widened_c {x1 y1 z : Int} {t1 u1 t3 : Tok} {a1 : Addr}
  (B : Below A₀ base outer h₀) (F : Fr h₀ L s.heap m) (X : (hd.heap_1 w.params).In h₀) (N : News h₀ L s.heap (news)) (T : Top topProg loose mean mg mb h₀) (hk : cs.kind = .function)
  (hdp : dp + 3 < recursionLimit) (hun : un + 40 < cLine)
  (Ma1 : (a1, tupO x1 t1 y1 u1) ∈ news) 
  (hret : ∀ r z1 z2 u1 u2 h' tk', z1 = (widI (x1, y1) z).1 → z2 = (widI (x1, y1) z).2 → Fr h₀ L h' m → News h₀ L h' ((r, tupO z1 u1 z2 u2) :: news) → Q (.ref r) { s with heap := h', toks := tk' }) :
  wpAny (model Challenge.rw_nt0168_01.row.prog w) (ktrTop dp un gd cn cs L a ccd cl outer) (call (.ref 233) [.ref a1, .int z t3]) Q E s := by
  refine wpAny_call ?_
  k_dflt ktr_enter
  k_steps
  all_goals (refine retT hret (by assumption) (by k_asm) (by k_mem) (by first | ((repeat (first | exact sub_refl | refine sub_cons ?_)); done) | (intro p hp; first | exact hp | (repeat (first | exact hp | refine List.mem_cons_of_mem _ ?_)))) ?_)
  all_goals (unfold widI; rfl)
theorem reg_13 : True := by
  k_with "call ref" => ((k_here; (with_reducible show wpAny _ _ (call (Value.ref 233) _ _) _ _ _); k_dflt (refine' widened_c ?k1q22 ?k2q22 ?k3q22 ?k4q22 ?k5q22 ?kKq22 ?kdq22 ?kuq22 ?m0q22  ?_; (case k1q22 => k_asm); (case k2q22 => k_asm); (case k3q22 => k_asm); (case k4q22 => k_asm); (case k5q22 => k_asm); (case kKq22 => first | exact rfl | assumption); (case kdq22 => ktr_room); (case kuq22 => ktr_units); (case m0q22 => k_mem); k_whole); intro r9 z9 y9 t9 u9 h9 tk9 e9 f9 F9 N9; (try k_sweep); (try dsimp only); (try k_fold); skip))
  trivial
theorem greatest_of_c {x1 y1 : Int} {t1 u1 : Tok} {a1 : Addr}
  (B : Below A₀ base outer h₀) (F : Fr h₀ L s.heap m) (X : (hd.heap_1 w.params).In h₀) (N : News h₀ L s.heap (news)) (T : Top topProg loose mean mg mb h₀) (hk : cs.kind = .function)
  (hdp : dp + 3 < recursionLimit) (hun : un + 40 < cLine)
  (Ma1 : (a1, tupO x1 t1 y1 u1) ∈ news) 
  (hret : ∀ z t h' tk', z = greatI (x1, y1) → Fr h₀ L h' m → News h₀ L h' news → Q (.int z t) { s with heap := h', toks := tk' }) :
  wpAny (model Challenge.rw_nt0168_01.row.prog w) (ktrTop dp un gd cn cs L a ccd cl outer) (call (.ref 240) [.ref a1]) Q E s := by
  refine wpAny_call ?_
  k_dflt ktr_enter
  k_steps
  all_goals (refine retI hret (by assumption) (by k_asm) (by first | ((repeat (first | exact sub_refl | refine sub_cons ?_)); done) | (intro p hp; first | exact hp | (repeat (first | exact hp | refine List.mem_cons_of_mem _ ?_)))) ?_)
  all_goals (unfold greatI maxI absI; rfl)
theorem reg_14 : True := by
  k_with "call ref" => ((k_here; (with_reducible show wpAny _ _ (call (Value.ref 240) _ _) _ _ _); k_dflt (refine' greatest_of_c ?k1q23 ?k2q23 ?k3q23 ?k4q23 ?k5q23 ?kKq23 ?kdq23 ?kuq23 ?m0q23  ?_; (case k1q23 => k_asm); (case k2q23 => k_asm); (case k3q23 => k_asm); (case k4q23 => k_asm); (case k5q23 => k_asm); (case kKq23 => first | exact rfl | assumption); (case kdq23 => ktr_room); (case kuq23 => ktr_units); (case m0q23 => k_mem); k_whole); intro z9 t9 h9 tk9 e9 F9 N9; (try k_sweep); (try dsimp only); (try k_fold); skip))
  trivial
theorem part_of_c {x1 y1 z : Int} {t1 u1 t3 : Tok} {a1 : Addr}
  (B : Below A₀ base outer h₀) (F : Fr h₀ L s.heap m) (X : (hd.heap_1 w.params).In h₀) (N : News h₀ L s.heap (news)) (T : Top topProg loose mean mg mb h₀) (hk : cs.kind = .function)
  (hdp : dp + 6 < recursionLimit) (hun : un + 80 < cLine)
  (Ma1 : (a1, tupO x1 t1 y1 u1) ∈ news) (h1 : 0 < z) (h2 : Sm z)
  (hret : ∀ r z1 z2 u1 u2 h' tk', z1 = (partI (x1, y1) z).1 → z2 = (partI (x1, y1) z).2 → Fr h₀ L h' m → News h₀ L h' ((r, tupO z1 u1 z2 u2) :: news) → Q (.ref r) { s with heap := h', toks := tk' }) :
  wpAny (model Challenge.rw_nt0168_01.row.prog w) (ktrTop dp un gd cn cs L a ccd cl outer) (call (.ref 226) [.ref a1, .int z t3]) Q E s := by
  refine wpAny_call ?_
  k_dflt ktr_enter
  k_steps
  all_goals (refine retT hret (by assumption) (by k_asm) (by k_mem) (by first | ((repeat (first | exact sub_refl | refine sub_cons ?_)); done) | (intro p hp; first | exact hp | (repeat (first | exact hp | refine List.mem_cons_of_mem _ ?_)))) ?_)
  all_goals ((try law_clear); subst_vars; unfold partI; rfl)
theorem reg_15 : True := by
  k_with "call ref" => ((k_here; (with_reducible show wpAny _ _ (call (Value.ref 226) _ _) _ _ _); k_dflt (refine' part_of_c ?k1q24 ?k2q24 ?k3q24 ?k4q24 ?k5q24 ?kKq24 ?kdq24 ?kuq24 ?m0q24 ?p0q24 ?p1q24 ?_; (case k1q24 => k_asm); (case k2q24 => k_asm); (case k3q24 => k_asm); (case k4q24 => k_asm); (case k5q24 => k_asm); (case kKq24 => first | exact rfl | assumption); (case kdq24 => ktr_room); (case kuq24 => ktr_units); (case m0q24 => k_mem); (case p0q24 => first | with_reducible assumption | omega); (case p1q24 => ktr_rel); k_whole); intro r9 z9 y9 t9 u9 h9 tk9 e9 f9 F9 N9; (try k_sweep); (try dsimp only); (try k_fold); skip))
  trivial
theorem product_of_c {p : Int} {t3 : Tok} {x1 y1 x2 y2 : Int} {t1 u1 t2 u2 : Tok} {a1 a2 : Addr}
  (B : Below A₀ base outer h₀) (F : Fr h₀ L s.heap m) (X : (hd.heap_1 w.params).In h₀) (N : News h₀ L s.heap (news)) (T : Top topProg loose mean mg mb h₀) (hk : cs.kind = .function)
  (hdp : dp + 6 < recursionLimit) (hun : un + 80 < cLine)
  (Ma1 : (a1, tupO x1 t1 y1 u1) ∈ news) (Ma2 : (a2, tupO x2 t2 y2 u2) ∈ news) (h0 : 0 ≤ p) (h1 : Sm x1) (h2 : Sm y1) (h3 : Sm x2) (h4 : Sm y2)
  (hret : ∀ r z1 z2 u1 u2 h' tk', z1 = (prodI p (x1, y1) (x2, y2)).1 → z2 = (prodI p (x1, y1) (x2, y2)).2 → Fr h₀ L h' m → News h₀ L h' ((r, tupO z1 u1 z2 u2) :: news) → Q (.ref r) { s with heap := h', toks := tk' }) :
  wpAny (model Challenge.rw_nt0168_01.row.prog w) (ktrTop dp un gd cn cs L a ccd cl outer) (call (.ref 219) [.int p t3, .ref a1, .ref a2]) Q E s := by
  refine wpAny_call ?_
  k_dflt ktr_enter
  k_steps
  all_goals (refine retT hret (by assumption) (by k_asm) (by k_mem) (by first | ((repeat (first | exact sub_refl | refine sub_cons ?_)); done) | (intro p hp; first | exact hp | (repeat (first | exact hp | refine List.mem_cons_of_mem _ ?_)))) ?_)
  all_goals ((try law_clear); subst_vars; simp only [prodI, p2_eq])
theorem reg_16 : True := by
  k_with "call ref" => ((k_here; (with_reducible show wpAny _ _ (call (Value.ref 219) _ _) _ _ _); k_dflt (refine' product_of_c ?k1q25 ?k2q25 ?k3q25 ?k4q25 ?k5q25 ?kKq25 ?kdq25 ?kuq25 ?m0q25 ?m1q25 ?p0q25 ?p1q25 ?p2q25 ?p3q25 ?p4q25 ?_; (case k1q25 => k_asm); (case k2q25 => k_asm); (case k3q25 => k_asm); (case k4q25 => k_asm); (case k5q25 => k_asm); (case kKq25 => first | exact rfl | assumption); (case kdq25 => ktr_room); (case kuq25 => ktr_units); (case m0q25 => k_mem); (case m1q25 => k_mem); (case p0q25 => first | with_reducible assumption | omega); (case p1q25 => ktr_rel); (case p2q25 => ktr_rel); (case p3q25 => ktr_rel); (case p4q25 => ktr_rel); k_whole); intro r9 z9 y9 t9 u9 h9 tk9 e9 f9 F9 N9; (try k_sweep); (try dsimp only); (try k_fold); skip))
  trivial
theorem fraction_bounds_c {p x b : Int} {t1 t2 t3 : Tok}
  (B : Below A₀ base outer h₀) (F : Fr h₀ L s.heap m) (X : (hd.heap_1 w.params).In h₀) (N : News h₀ L s.heap (news)) (T : Top topProg loose mean mg mb h₀) (hk : cs.kind = .function)
  (hdp : dp + 6 < recursionLimit) (hun : un + 80 < cLine)
   (h0 : 0 ≤ p) (h1 : p < 9000) (h2 : Sm x) (h3 : 0 < b) (h4 : Sm b)
  (hret : ∀ r z1 z2 u1 u2 h' tk', z1 = (fracB p x b).1 → z2 = (fracB p x b).2 → Fr h₀ L h' m → News h₀ L h' ((r, tupO z1 u1 z2 u2) :: news) → Q (.ref r) { s with heap := h', toks := tk' }) :
  wpAny (model Challenge.rw_nt0168_01.row.prog w) (ktrTop dp un gd cn cs L a ccd cl outer) (call (.ref 191) [.int p t1, .int x t2, .int b t3]) Q E s := by
  refine wpAny_call ?_
  k_dflt ktr_enter
  k_steps
  all_goals (refine retT hret (by assumption) (by k_asm) (by k_mem) (by first | ((repeat (first | exact sub_refl | refine sub_cons ?_)); done) | (intro p hp; first | exact hp | (repeat (first | exact hp | refine List.mem_cons_of_mem _ ?_)))) ?_)
  all_goals ((try law_clear); subst_vars; simp only [fracB, p2_eq])
theorem reg_17 : True := by
  k_with "call ref" => ((k_here; (with_reducible show wpAny _ _ (call (Value.ref 191) _ _) _ _ _); k_dflt (refine' fraction_bounds_c ?k1q26 ?k2q26 ?k3q26 ?k4q26 ?k5q26 ?kKq26 ?kdq26 ?kuq26  ?p0q26 ?p1q26 ?p2q26 ?p3q26 ?p4q26 ?_; (case k1q26 => k_asm); (case k2q26 => k_asm); (case k3q26 => k_asm); (case k4q26 => k_asm); (case k5q26 => k_asm); (case kKq26 => first | exact rfl | assumption); (case kdq26 => ktr_room); (case kuq26 => ktr_units); (case p0q26 => first | with_reducible assumption | omega); (case p1q26 => first | with_reducible assumption | omega); (case p2q26 => ktr_rel); (case p3q26 => first | with_reducible assumption | omega); (case p4q26 => ktr_rel); k_whole); intro r9 z9 y9 t9 u9 h9 tk9 e9 f9 F9 N9; (try k_sweep); (try dsimp only); (try k_fold); skip))
  trivial
theorem real_c {x y : Int} {t1 t2 : Tok}
  (B : Below A₀ base outer h₀) (F : Fr h₀ L s.heap m) (X : (hd.heap_1 w.params).In h₀) (N : News h₀ L s.heap (news)) (T : Top topProg loose mean mg mb h₀) (hk : cs.kind = .function)
  (hdp : dp + 3 < recursionLimit) (hun : un + 40 < cLine)
   
  (hret : ∀ r d z1 z2 j u1 k u2 h' tk', z1 = ((x, y)).1 → z2 = ((x, y)).2 → Fr h₀ L h' m → News h₀ L h' ((r, instObj (nat_lit 89) d) :: (d, realO w j z1 u1 k z2 u2) :: news) → Q (.ref r) { s with heap := h', toks := tk' }) :
  wpAny (model Challenge.rw_nt0168_01.row.prog w) (ktrTop dp un gd cn cs L a ccd cl outer) (call (.ref 89) [.int x t1, .int y t2]) Q E s := by
  k_dflt (refine' call_cls ?k1 ?k2 ?k3 ?k4 ?k5 ?k6 ?_; (case k1 => k_asm); (case k2 => k_asm); (case k3 => k_asm); (case k4 => k_is); (case k5 => k_is); (case k6 => k_is); k_whole; intro x' d' h' F' N' l1 l2; (try (replace l1 := allLt_of l1; dsimp only [AllLt] at l1)); (try k_lt2 l2); (try k_sweep); ktr_enter)
  k_steps
  all_goals (refine retR hret (by assumption) (by k_asm) (by k_mem) (by k_mem) (by first | ((repeat (first | exact sub_refl | refine sub_cons ?_)); done) | (intro p hp; first | exact hp | (repeat (first | exact hp | refine List.mem_cons_of_mem _ ?_)))) ?_)
  all_goals rfl
theorem reg_18 : True := by
  k_with "call ref" => ((k_here; (with_reducible show wpAny _ _ (call (Value.ref 89) _ _) _ _ _); k_dflt (refine' real_c ?k1q27 ?k2q27 ?k3q27 ?k4q27 ?k5q27 ?kKq27 ?kdq27 ?kuq27   ?_; (case k1q27 => k_asm); (case k2q27 => k_asm); (case k3q27 => k_asm); (case k4q27 => k_asm); (case k5q27 => k_asm); (case kKq27 => first | exact rfl | assumption); (case kdq27 => ktr_room); (case kuq27 => ktr_units); k_whole); intro r9 d9 z9 y9 j9 t9 i9 u9 h9 tk9 e9 f9 F9 N9; (try k_sweep); (try dsimp only); (try k_fold); skip))
  trivial
theorem place_of_c {x1 y1 : Int} {j1 t1 k1 u1 : Tok} {a1 d1 : Addr}
  (B : Below A₀ base outer h₀) (F : Fr h₀ L s.heap m) (X : (hd.heap_1 w.params).In h₀) (N : News h₀ L s.heap (news)) (T : Top topProg loose mean mg mb h₀) (hk : cs.kind = .function)
  (hdp : dp + 6 < recursionLimit) (hun : un + 80 < cLine)
  (Ma1 : (a1, instObj (nat_lit 89) d1) ∈ news) (Md1 : (d1, realO w j1 x1 t1 k1 y1 u1) ∈ news) 
  (hret : ∀ z t h' tk', z = placeI x1 y1 → Fr h₀ L h' m → News h₀ L h' news → Q (.int z t) { s with heap := h', toks := tk' }) :
  wpAny (model Challenge.rw_nt0168_01.row.prog w) (ktrTop dp un gd cn cs L a ccd cl outer) (call (.ref 156) [.ref a1]) Q E s := by
  refine wpAny_call ?_
  k_dflt ktr_enter
  k_steps
  all_goals (refine retI hret (by assumption) (by k_asm) (by first | ((repeat (first | exact sub_refl | refine sub_cons ?_)); done) | (intro p hp; first | exact hp | (repeat (first | exact hp | refine List.mem_cons_of_mem _ ?_)))) ?_)
  all_goals (simp only [placeI, *])
theorem reg_19 : True := by
  k_with "call ref" => ((k_here; (with_reducible show wpAny _ _ (call (Value.ref 156) _ _) _ _ _); k_dflt (refine' place_of_c ?k1q28 ?k2q28 ?k3q28 ?k4q28 ?k5q28 ?kKq28 ?kdq28 ?kuq28 ?m0q28 ?m1q28  ?_; (case k1q28 => k_asm); (case k2q28 => k_asm); (case k3q28 => k_asm); (case k4q28 => k_asm); (case k5q28 => k_asm); (case kKq28 => first | exact rfl | assumption); (case kdq28 => ktr_room); (case kuq28 => ktr_units); (case m0q28 => k_mem); (case m1q28 => k_mem); k_whole); intro z9 t9 h9 tk9 e9 F9 N9; (try k_sweep); (try dsimp only); (try k_fold); skip))
  trivial
theorem sign_of_c {x1 y1 : Int} {j1 t1 k1 u1 : Tok} {a1 d1 : Addr}
  (B : Below A₀ base outer h₀) (F : Fr h₀ L s.heap m) (X : (hd.heap_1 w.params).In h₀) (N : News h₀ L s.heap (news)) (T : Top topProg loose mean mg mb h₀) (hk : cs.kind = .function)
  (hdp : dp + 6 < recursionLimit) (hun : un + 80 < cLine)
  (Ma1 : (a1, instObj (nat_lit 89) d1) ∈ news) (Md1 : (d1, realO w j1 x1 t1 k1 y1 u1) ∈ news) 
  (hret : ∀ z t h' tk', z = sgn x1 → Fr h₀ L h' m → News h₀ L h' news → Q (.int z t) { s with heap := h', toks := tk' }) :
  wpAny (model Challenge.rw_nt0168_01.row.prog w) (ktrTop dp un gd cn cs L a ccd cl outer) (call (.ref 163) [.ref a1]) Q E s := by
  refine wpAny_call ?_
  k_dflt ktr_enter
  k_steps
  all_goals (refine retI hret (by assumption) (by k_asm) (by first | ((repeat (first | exact sub_refl | refine sub_cons ?_)); done) | (intro p hp; first | exact hp | (repeat (first | exact hp | refine List.mem_cons_of_mem _ ?_)))) ?_)
  all_goals (assumption)
theorem reg_20 : True := by
  k_with "call ref" => ((k_here; (with_reducible show wpAny _ _ (call (Value.ref 163) _ _) _ _ _); k_dflt (refine' sign_of_c ?k1q29 ?k2q29 ?k3q29 ?k4q29 ?k5q29 ?kKq29 ?kdq29 ?kuq29 ?m0q29 ?m1q29  ?_; (case k1q29 => k_asm); (case k2q29 => k_asm); (case k3q29 => k_asm); (case k4q29 => k_asm); (case k5q29 => k_asm); (case kKq29 => first | exact rfl | assumption); (case kdq29 => ktr_room); (case kuq29 => ktr_units); (case m0q29 => k_mem); (case m1q29 => k_mem); k_whole); intro z9 t9 h9 tk9 e9 F9 N9; (try k_sweep); (try dsimp only); (try k_fold); skip))
  trivial
theorem same_real_c {x1 y1 x2 y2 : Int} {j1 t1 k1 u1 j2 t2 k2 u2 : Tok} {a1 d1 a2 d2 : Addr}
  (B : Below A₀ base outer h₀) (F : Fr h₀ L s.heap m) (X : (hd.heap_1 w.params).In h₀) (N : News h₀ L s.heap (news)) (T : Top topProg loose mean mg mb h₀) (hk : cs.kind = .function)
  (hdp : dp + 3 < recursionLimit) (hun : un + 40 < cLine)
  (Ma1 : (a1, instObj (nat_lit 89) d1) ∈ news) (Md1 : (d1, realO w j1 x1 t1 k1 y1 u1) ∈ news) (Ma2 : (a2, instObj (nat_lit 89) d2) ∈ news) (Md2 : (d2, realO w j2 x2 t2 k2 y2 u2) ∈ news) 
  (hret : ∀ h' tk', Fr h₀ L h' m → News h₀ L h' news → Q (.bool (decide ((x1, y1) = (x2, y2)))) { s with heap := h', toks := tk' }) :
  wpAny (model Challenge.rw_nt0168_01.row.prog w) (ktrTop dp un gd cn cs L a ccd cl outer) (call (.ref 170) [.ref a1, .ref a2]) Q E s := by
  refine wpAny_call ?_
  k_dflt ktr_enter
  k_steps
  all_goals (refine retB hret (by assumption) (by k_asm) (by first | ((repeat (first | exact sub_refl | refine sub_cons ?_)); done) | (intro p hp; first | exact hp | (repeat (first | exact hp | refine List.mem_cons_of_mem _ ?_)))) ?_)
  all_goals (first | (simp_all; done) | (simp_all; rfl))
theorem reg_21 : True := by
  k_with "call ref" => ((k_here; (with_reducible show wpAny _ _ (call (Value.ref 170) _ _) _ _ _); k_dflt (refine' same_real_c ?k1q30 ?k2q30 ?k3q30 ?k4q30 ?k5q30 ?kKq30 ?kdq30 ?kuq30 ?m0q30 ?m1q30 ?m2q30 ?m3q30  ?_; (case k1q30 => k_asm); (case k2q30 => k_asm); (case k3q30 => k_asm); (case k4q30 => k_asm); (case k5q30 => k_asm); (case kKq30 => first | exact rfl | assumption); (case kdq30 => ktr_room); (case kuq30 => ktr_units); (case m0q30 => k_mem); (case m1q30 => k_mem); (case m2q30 => k_mem); (case m3q30 => k_mem); k_whole); intro h9 tk9 F9 N9; (try k_sweep); (try dsimp only); (try k_fold); skip))
  trivial
theorem fraction_of_c {x1 y1 : Int} {j1 t1 k1 u1 : Tok} {a1 d1 : Addr}
  (B : Below A₀ base outer h₀) (F : Fr h₀ L s.heap m) (X : (hd.heap_1 w.params).In h₀) (N : News h₀ L s.heap (news)) (T : Top topProg loose mean mg mb h₀) (hk : cs.kind = .function)
  (hdp : dp + 3 < recursionLimit) (hun : un + 40 < cLine)
  (Ma1 : (a1, instObj (nat_lit 89) d1) ∈ news) (Md1 : (d1, realO w j1 x1 t1 k1 y1 u1) ∈ news) (h1 : Sm x1) (h2 : -1000 ≤ y1) (h3 : y1 ≤ 1000)
  (hret : ∀ r z1 z2 u1 u2 h' tk', z1 = (fracOf x1 y1).1 → z2 = (fracOf x1 y1).2 → Fr h₀ L h' m → News h₀ L h' ((r, tupO z1 u1 z2 u2) :: news) → Q (.ref r) { s with heap := h', toks := tk' }) :
  wpAny (model Challenge.rw_nt0168_01.row.prog w) (ktrTop dp un gd cn cs L a ccd cl outer) (call (.ref 247) [.ref a1]) Q E s := by
  refine wpAny_call ?_
  k_dflt ktr_enter
  k_steps
  all_goals (refine retT hret (by assumption) (by k_asm) (by k_mem) (by first | ((repeat (first | exact sub_refl | refine sub_cons ?_)); done) | (intro p hp; first | exact hp | (repeat (first | exact hp | refine List.mem_cons_of_mem _ ?_)))) ?_)
  all_goals (first | rw [fracOf, if_pos (by omega), p2_eq] | rw [fracOf, if_neg (by omega), p2_eq])
theorem reg_22 : True := by
  k_with "call ref" => ((k_here; (with_reducible show wpAny _ _ (call (Value.ref 247) _ _) _ _ _); k_dflt (refine' fraction_of_c ?k1q31 ?k2q31 ?k3q31 ?k4q31 ?k5q31 ?kKq31 ?kdq31 ?kuq31 ?m0q31 ?m1q31 ?p0q31 ?p1q31 ?p2q31 ?_; (case k1q31 => k_asm); (case k2q31 => k_asm); (case k3q31 => k_asm); (case k4q31 => k_asm); (case k5q31 => k_asm); (case kKq31 => first | exact rfl | assumption); (case kdq31 => ktr_room); (case kuq31 => ktr_units); (case m0q31 => k_mem); (case m1q31 => k_mem); (case p0q31 => ktr_rel); (case p1q31 => first | with_reducible assumption | omega); (case p2q31 => first | with_reducible assumption | omega); k_whole); intro r9 z9 y9 t9 u9 h9 tk9 e9 f9 F9 N9; (try k_sweep); (try dsimp only); (try k_fold); skip))
  trivial
end
end
section
open PySem PySem.W PySem.Spec PySem.Calls PyProof.Rows
set_option Elab.async false
set_option maxRecDepth 100000
set_option maxHeartbeats 0
theorem reg_23 : True := by
  k_with_none
  k_with "lt9" => (first | with_reducible assumption | (refine ltc (by with_reducible assumption) ?_; first | exact pj1 | exact pj2 | exact pj3 | exact pj4 | exact pj5 | exact pj6 | exact pj7 | exact pj8 | exact pj9 | exact pj10 | exact pj11 | exact pj12 | exact pj13 | exact pj14 | exact qj1 | exact qj2 | exact qj3 | exact qj4 | exact qj5 | exact qj6 | exact qj7 | exact qj8 | exact qj9 | exact qj10 | exact qj11 | exact qj12 | exact qj13 | exact qj14))
  k_with "ne9" => (first | decide | (refine Nat.ne_of_lt ?_; walk_at "lt9") | (refine Nat.ne_of_gt ?_; walk_at "lt9") | exact Nat.ne_of_lt (Nat.lt_succ_self _) | exact Nat.ne_of_gt (Nat.lt_succ_self _) | (refine ne_up1 ?_; walk_at "lt9") | (refine ne_up2 ?_; walk_at "lt9") | (refine Ne.symm (ne_up1 ?_); walk_at "lt9") | (refine Ne.symm (ne_up2 ?_); walk_at "lt9"))
  trivial
-- Sm facts
theorem reg_24 : True := by
  k_with "binaryOp FloorDiv int int" => ((k_here; (with_reducible refine floordiv_int ?feq34 ?_ (Or.inl (Sm.py ?fpq34))); (case feq34 => first | decide | omega | assumption); (case fpq34 => ktr_rel)))
  k_with "binaryOp LShift int int" => ((k_here; (with_reducible refine lshift_int ?feq35 ?fpq35 ?_); (case feq35 => omega); (case fpq35 => exact Sm.shl (by ktr_rel) (by omega))))
  k_with "ite" => ((k_here; k_openite; k_spoken; first
  | (refine ite_pos (by ((try simp only [beq_iff_eq, bne_iff_ne, ne_eq, Bool.not_eq_true', beq_eq_false_iff_ne]); (try law_clear); (try subst_vars); first | assumption | exact decide_eq_true rfl | exact Int.not_le.mp (by assumption) | exact Int.not_lt.mp (by assumption) | (law_clear; omega))) ?_; walk_say "PRUNED own")
  | (refine ite_neg (by ((try simp only [beq_iff_eq, bne_iff_ne, ne_eq, Bool.not_eq_true', beq_eq_false_iff_ne]); (try law_clear); (try subst_vars); first | assumption | exact Int.not_le.mpr (by assumption) | exact Int.not_lt.mpr (by assumption) | (law_clear; omega))) ?_; walk_say "PRUNED own")))
  k_with "subscriptTail" => ((k_here; (with_reducible show wpAny _ _ (subscriptTail _ _ (Value.ref _) (Value.int _ _)) _ _ _); k_dflt (refine' item_tupleT ?tq37 ?aq37 ?bq37 ?cq37 ?dq37 ?_; (case tq37 => exact News.isTup (by k_asm) (by k_mem)); (case aq37 => decide); (case bq37 => decide); (case cq37 => rfl); (case dq37 => rfl); k_whole)))
  k_with "subscriptTail Name Constant ref int" => ((k_here; (with_reducible show wpAny _ _ (subscriptTail _ _ (Value.ref _) (Value.int _ _)) _ _ _); k_dflt (refine' item_tupleT ?tq38 ?aq38 ?bq38 ?cq38 ?dq38 ?_; (case tq38 => exact News.isTup (by k_asm) (by k_mem)); (case aq38 => decide); (case bq38 => decide); (case cq38 => rfl); (case dq38 => rfl); k_whole)))
  k_with "callWith ref" => ((k_here; k_dflt (refine' callWith_K ?k1q39 ?k2q39 ?_; (case k1q39 => k_asm); (case k2q39 => k_is); k_whole)))
  k_with "call builtin:divmod" => ((k_here; (with_reducible show wpAny _ _ (call (Value.builtin _) [Value.int _ _, Value.int _ _]) _ _ _); k_dflt (refine' divmod_N ?k1q40 ?k2q40 ?feq40 ?_ (Or.inl (Sm.py ?fpq40)); (case k1q40 => k_asm); (case k2q40 => k_asm); (case feq40 => first | omega | exact Int.ne_of_gt (Int.mul_pos (by omega) (pow2_pos _))); (case fpq40 => ktr_rel)); intro h' F' N'; (try k_sweep)))
  k_with "call builtin:max" => ((k_here; (with_reducible show wpAny _ _ (call (Value.builtin _) [Value.ref _]) _ _ _); k_dflt (first
  | (refine' max_tup ?k0q41 ?k1q41 ?k2q41 ?k3q41 ?_; (case k0q41 => exact rfl); (case k1q41 => k_asm); (case k2q41 => k_asm); (case k3q41 => exact News.isTup (by k_asm) (by k_mem)))
  | (refine' max_list4 ?k0q41 ?k1q41 ?k2q41 ?k3q41 ?_; (case k0q41 => exact rfl); (case k1q41 => k_asm); (case k2q41 => k_asm); (case k3q41 => exact News.isList (by k_asm) (by k_mem)))); k_whole; intro h' r' tk' F' N'; (try k_sweep)))
  k_with "call builtin:min" => ((k_here; (with_reducible show wpAny _ _ (call (Value.builtin _) [Value.ref _]) _ _ _); k_dflt (first
  | (refine' min_tup ?k0q42 ?k1q42 ?k2q42 ?k3q42 ?_; (case k0q42 => exact rfl); (case k1q42 => k_asm); (case k2q42 => k_asm); (case k3q42 => exact News.isTup (by k_asm) (by k_mem)))
  | (refine' min_list4 ?k0q42 ?k1q42 ?k2q42 ?k3q42 ?_; (case k0q42 => exact rfl); (case k1q42 => k_asm); (case k2q42 => k_asm); (case k3q42 => exact News.isList (by k_asm) (by k_mem)))); k_whole; intro h' r' tk' F' N'; (try k_sweep)))
  k_with "call ref" => ((k_here; (with_reducible show wpAny _ _ (call (Value.ref 100) _ _) _ _ _); k_dflt (refine' size_of_c ?k1q43 ?k2q43 ?k3q43 ?k4q43 ?k5q43 ?kKq43 ?kdq43 ?kuq43   ?_; (case k1q43 => k_asm); (case k2q43 => k_asm); (case k3q43 => k_asm); (case k4q43 => k_asm); (case k5q43 => k_asm); (case kKq43 => first | exact rfl | assumption); (case kdq43 => ktr_room); (case kuq43 => ktr_units); k_whole); intro z9 t9 h9 tk9 e9 F9 N9; (try k_sweep); (try dsimp only); (try k_fold); skip))
  k_with "call ref" => ((k_here; (with_reducible show wpAny _ _ (call (Value.ref 107) _ _) _ _ _); k_dflt (refine' sign_of_whole_c ?k1q44 ?k2q44 ?k3q44 ?k4q44 ?k5q44 ?kKq44 ?kdq44 ?kuq44   ?_; (case k1q44 => k_asm); (case k2q44 => k_asm); (case k3q44 => k_asm); (case k4q44 => k_asm); (case k5q44 => k_asm); (case kKq44 => first | exact rfl | assumption); (case kdq44 => ktr_room); (case kuq44 => ktr_units); k_whole); intro z9 t9 h9 tk9 e9 F9 N9; (try k_sweep); (try dsimp only); (try k_fold); skip))
  k_with "call ref" => ((k_here; (with_reducible show wpAny _ _ (call (Value.ref 114) _ _) _ _ _); k_dflt (refine' zeros_below_c ?k1q45 ?k2q45 ?k3q45 ?k4q45 ?k5q45 ?kKq45 ?kdq45 ?kuq45   ?_; (case k1q45 => k_asm); (case k2q45 => k_asm); (case k3q45 => k_asm); (case k4q45 => k_asm); (case k5q45 => k_asm); (case kKq45 => first | exact rfl | assumption); (case kdq45 => ktr_room); (case kuq45 => ktr_units); k_whole); intro z9 t9 h9 tk9 e9 F9 N9; (try k_sweep); (try dsimp only); (try k_fold); skip))
  k_with "call ref" => ((k_here; (with_reducible show wpAny _ _ (call (Value.ref 177) _ _) _ _ _); k_dflt (refine' up_shift_c ?k1q46 ?k2q46 ?k3q46 ?k4q46 ?k5q46 ?kKq46 ?kdq46 ?kuq46  ?p0q46 ?_; (case k1q46 => k_asm); (case k2q46 => k_asm); (case k3q46 => k_asm); (case k4q46 => k_asm); (case k5q46 => k_asm); (case kKq46 => first | exact rfl | assumption); (case kdq46 => ktr_room); (case kuq46 => ktr_units); (case p0q46 => first | with_reducible assumption | omega); k_whole); intro z9 t9 h9 tk9 e9 F9 N9; (try k_sweep); (try dsimp only); (try k_fold); skip))
  k_with "call ref" => ((k_here; (with_reducible show wpAny _ _ (call (Value.ref 184) _ _) _ _ _); k_dflt (refine' up_over_c ?k1q47 ?k2q47 ?k3q47 ?k4q47 ?k5q47 ?kKq47 ?kdq47 ?kuq47  ?p0q47 ?p1q47 ?_; (case k1q47 => k_asm); (case k2q47 => k_asm); (case k3q47 => k_asm); (case k4q47 => k_asm); (case k5q47 => k_asm); (case kKq47 => first | exact rfl | assumption); (case kdq47 => ktr_room); (case kuq47 => ktr_units); (case p0q47 => first | with_reducible assumption | omega); (case p1q47 => ktr_rel); k_whole); intro z9 t9 h9 tk9 e9 F9 N9; (try k_sweep); (try dsimp only); (try k_fold); skip))
  k_with "call ref" => ((k_here; (with_reducible show wpAny _ _ (call (Value.ref 142) _ _) _ _ _); k_dflt (refine' with_sticky_c ?k1q48 ?k2q48 ?k3q48 ?k4q48 ?k5q48 ?kKq48 ?kdq48 ?kuq48   ?_; (case k1q48 => k_asm); (case k2q48 => k_asm); (case k3q48 => k_asm); (case k4q48 => k_asm); (case k5q48 => k_asm); (case kKq48 => first | exact rfl | assumption); (case kdq48 => ktr_room); (case kuq48 => ktr_units); k_whole); intro z9 t9 h9 tk9 e9 F9 N9; (try k_sweep); (try dsimp only); (try k_fold); skip))
  k_with "call ref" => ((k_here; (with_reducible show wpAny _ _ (call (Value.ref 128) _ _) _ _ _); k_dflt (refine' nearest_shift_c ?k1q49 ?k2q49 ?k3q49 ?k4q49 ?k5q49 ?kKq49 ?kdq49 ?kuq49  ?p0q49 ?p1q49 ?_; (case k1q49 => k_asm); (case k2q49 => k_asm); (case k3q49 => k_asm); (case k4q49 => k_asm); (case k5q49 => k_asm); (case kKq49 => first | exact rfl | assumption); (case kdq49 => ktr_room); (case kuq49 => ktr_units); (case p0q49 => first | with_reducible assumption | omega); (case p1q49 => first | with_reducible assumption | omega); k_whole); intro z9 t9 h9 tk9 e9 F9 N9; (try k_sweep); (try dsimp only); (try k_fold); skip))
  k_with "call ref" => ((k_here; (with_reducible show wpAny _ _ (call (Value.ref 198) _ _) _ _ _); k_dflt (refine' more_of_c ?k1q50 ?k2q50 ?k3q50 ?k4q50 ?k5q50 ?kKq50 ?kdq50 ?kuq50 ?m0q50 ?m1q50  ?_; (case k1q50 => k_asm); (case k2q50 => k_asm); (case k3q50 => k_asm); (case k4q50 => k_asm); (case k5q50 => k_asm); (case kKq50 => first | exact rfl | assumption); (case kdq50 => ktr_room); (case kuq50 => ktr_units); (case m0q50 => k_mem); (case m1q50 => k_mem); k_whole); intro r9 z9 y9 t9 u9 h9 tk9 e9 f9 F9 N9; (try k_sweep); (try dsimp only); (try k_fold); skip))
  k_with "call ref" => ((k_here; (with_reducible show wpAny _ _ (call (Value.ref 205) _ _) _ _ _); k_dflt (refine' less_of_c ?k1q51 ?k2q51 ?k3q51 ?k4q51 ?k5q51 ?kKq51 ?kdq51 ?kuq51 ?m0q51 ?m1q51  ?_; (case k1q51 => k_asm); (case k2q51 => k_asm); (case k3q51 => k_asm); (case k4q51 => k_asm); (case k5q51 => k_asm); (case kKq51 => first | exact rfl | assumption); (case kdq51 => ktr_room); (case kuq51 => ktr_units); (case m0q51 => k_mem); (case m1q51 => k_mem); k_whole); intro r9 z9 y9 t9 u9 h9 tk9 e9 f9 F9 N9; (try k_sweep); (try dsimp only); (try k_fold); skip))
  k_with "call ref" => ((k_here; (with_reducible show wpAny _ _ (call (Value.ref 212) _ _) _ _ _); k_dflt (refine' often_c ?k1q52 ?k2q52 ?k3q52 ?k4q52 ?k5q52 ?kKq52 ?kdq52 ?kuq52 ?m0q52 ?p0q52 ?p1q52 ?_; (case k1q52 => k_asm); (case k2q52 => k_asm); (case k3q52 => k_asm); (case k4q52 => k_asm); (case k5q52 => k_asm); (case kKq52 => first | exact rfl | assumption); (case kdq52 => ktr_room); (case kuq52 => ktr_units); (case m0q52 => k_mem); (case p0q52 => mul_fits); (case p1q52 => mul_fits); k_whole); intro r9 z9 y9 t9 u9 h9 tk9 e9 f9 F9 N9; (try k_sweep); (try dsimp only); (try k_fold); skip))
  k_with "call ref" => ((k_here; (with_reducible show wpAny _ _ (call (Value.ref 233) _ _) _ _ _); k_dflt (refine' widened_c ?k1q53 ?k2q53 ?k3q53 ?k4q53 ?k5q53 ?kKq53 ?kdq53 ?kuq53 ?m0q53  ?_; (case k1q53 => k_asm); (case k2q53 => k_asm); (case k3q53 => k_asm); (case k4q53 => k_asm); (case k5q53 => k_asm); (case kKq53 => first | exact rfl | assumption); (case kdq53 => ktr_room); (case kuq53 => ktr_units); (case m0q53 => k_mem); k_whole); intro r9 z9 y9 t9 u9 h9 tk9 e9 f9 F9 N9; (try k_sweep); (try dsimp only); (try k_fold); skip))
  k_with "call ref" => ((k_here; (with_reducible show wpAny _ _ (call (Value.ref 240) _ _) _ _ _); k_dflt (refine' greatest_of_c ?k1q54 ?k2q54 ?k3q54 ?k4q54 ?k5q54 ?kKq54 ?kdq54 ?kuq54 ?m0q54  ?_; (case k1q54 => k_asm); (case k2q54 => k_asm); (case k3q54 => k_asm); (case k4q54 => k_asm); (case k5q54 => k_asm); (case kKq54 => first | exact rfl | assumption); (case kdq54 => ktr_room); (case kuq54 => ktr_units); (case m0q54 => k_mem); k_whole); intro z9 t9 h9 tk9 e9 F9 N9; (try k_sweep); (try dsimp only); (try k_fold); skip))
  k_with "call ref" => ((k_here; (with_reducible show wpAny _ _ (call (Value.ref 226) _ _) _ _ _); k_dflt (refine' part_of_c ?k1q55 ?k2q55 ?k3q55 ?k4q55 ?k5q55 ?kKq55 ?kdq55 ?kuq55 ?m0q55 ?p0q55 ?p1q55 ?_; (case k1q55 => k_asm); (case k2q55 => k_asm); (case k3q55 => k_asm); (case k4q55 => k_asm); (case k5q55 => k_asm); (case kKq55 => first | exact rfl | assumption); (case kdq55 => ktr_room); (case kuq55 => ktr_units); (case m0q55 => k_mem); (case p0q55 => first | with_reducible assumption | omega); (case p1q55 => ktr_rel); k_whole); intro r9 z9 y9 t9 u9 h9 tk9 e9 f9 F9 N9; (try k_sweep); (try dsimp only); (try k_fold); skip))
  k_with "call ref" => ((k_here; (with_reducible show wpAny _ _ (call (Value.ref 219) _ _) _ _ _); k_dflt (refine' product_of_c ?k1q56 ?k2q56 ?k3q56 ?k4q56 ?k5q56 ?kKq56 ?kdq56 ?kuq56 ?m0q56 ?m1q56 ?p0q56 ?p1q56 ?p2q56 ?p3q56 ?p4q56 ?_; (case k1q56 => k_asm); (case k2q56 => k_asm); (case k3q56 => k_asm); (case k4q56 => k_asm); (case k5q56 => k_asm); (case kKq56 => first | exact rfl | assumption); (case kdq56 => ktr_room); (case kuq56 => ktr_units); (case m0q56 => k_mem); (case m1q56 => k_mem); (case p0q56 => first | with_reducible assumption | omega); (case p1q56 => ktr_rel); (case p2q56 => ktr_rel); (case p3q56 => ktr_rel); (case p4q56 => ktr_rel); k_whole); intro r9 z9 y9 t9 u9 h9 tk9 e9 f9 F9 N9; (try k_sweep); (try dsimp only); (try k_fold); skip))
  k_with "call ref" => ((k_here; (with_reducible show wpAny _ _ (call (Value.ref 191) _ _) _ _ _); k_dflt (refine' fraction_bounds_c ?k1q57 ?k2q57 ?k3q57 ?k4q57 ?k5q57 ?kKq57 ?kdq57 ?kuq57  ?p0q57 ?p1q57 ?p2q57 ?p3q57 ?p4q57 ?_; (case k1q57 => k_asm); (case k2q57 => k_asm); (case k3q57 => k_asm); (case k4q57 => k_asm); (case k5q57 => k_asm); (case kKq57 => first | exact rfl | assumption); (case kdq57 => ktr_room); (case kuq57 => ktr_units); (case p0q57 => first | with_reducible assumption | omega); (case p1q57 => first | with_reducible assumption | omega); (case p2q57 => ktr_rel); (case p3q57 => first | with_reducible assumption | omega); (case p4q57 => ktr_rel); k_whole); intro r9 z9 y9 t9 u9 h9 tk9 e9 f9 F9 N9; (try k_sweep); (try dsimp only); (try k_fold); skip))
  k_with "call ref" => ((k_here; (with_reducible show wpAny _ _ (call (Value.ref 89) _ _) _ _ _); k_dflt (refine' real_c ?k1q58 ?k2q58 ?k3q58 ?k4q58 ?k5q58 ?kKq58 ?kdq58 ?kuq58   ?_; (case k1q58 => k_asm); (case k2q58 => k_asm); (case k3q58 => k_asm); (case k4q58 => k_asm); (case k5q58 => k_asm); (case kKq58 => first | exact rfl | assumption); (case kdq58 => ktr_room); (case kuq58 => ktr_units); k_whole); intro r9 d9 z9 y9 j9 t9 i9 u9 h9 tk9 e9 f9 F9 N9; (try k_sweep); (try dsimp only); (try k_fold); skip))
  k_with "call ref" => ((k_here; (with_reducible show wpAny _ _ (call (Value.ref 156) _ _) _ _ _); k_dflt (refine' place_of_c ?k1q59 ?k2q59 ?k3q59 ?k4q59 ?k5q59 ?kKq59 ?kdq59 ?kuq59 ?m0q59 ?m1q59  ?_; (case k1q59 => k_asm); (case k2q59 => k_asm); (case k3q59 => k_asm); (case k4q59 => k_asm); (case k5q59 => k_asm); (case kKq59 => first | exact rfl | assumption); (case kdq59 => ktr_room); (case kuq59 => ktr_units); (case m0q59 => k_mem); (case m1q59 => k_mem); k_whole); intro z9 t9 h9 tk9 e9 F9 N9; (try k_sweep); (try dsimp only); (try k_fold); skip))
  k_with "call ref" => ((k_here; (with_reducible show wpAny _ _ (call (Value.ref 163) _ _) _ _ _); k_dflt (refine' sign_of_c ?k1q60 ?k2q60 ?k3q60 ?k4q60 ?k5q60 ?kKq60 ?kdq60 ?kuq60 ?m0q60 ?m1q60  ?_; (case k1q60 => k_asm); (case k2q60 => k_asm); (case k3q60 => k_asm); (case k4q60 => k_asm); (case k5q60 => k_asm); (case kKq60 => first | exact rfl | assumption); (case kdq60 => ktr_room); (case kuq60 => ktr_units); (case m0q60 => k_mem); (case m1q60 => k_mem); k_whole); intro z9 t9 h9 tk9 e9 F9 N9; (try k_sweep); (try dsimp only); (try k_fold); skip))
  k_with "call ref" => ((k_here; (with_reducible show wpAny _ _ (call (Value.ref 170) _ _) _ _ _); k_dflt (refine' same_real_c ?k1q61 ?k2q61 ?k3q61 ?k4q61 ?k5q61 ?kKq61 ?kdq61 ?kuq61 ?m0q61 ?m1q61 ?m2q61 ?m3q61  ?_; (case k1q61 => k_asm); (case k2q61 => k_asm); (case k3q61 => k_asm); (case k4q61 => k_asm); (case k5q61 => k_asm); (case kKq61 => first | exact rfl | assumption); (case kdq61 => ktr_room); (case kuq61 => ktr_units); (case m0q61 => k_mem); (case m1q61 => k_mem); (case m2q61 => k_mem); (case m3q61 => k_mem); k_whole); intro h9 tk9 F9 N9; (try k_sweep); (try dsimp only); (try k_fold); skip))
  k_with "call ref" => ((k_here; (with_reducible show wpAny _ _ (call (Value.ref 247) _ _) _ _ _); k_dflt (refine' fraction_of_c ?k1q62 ?k2q62 ?k3q62 ?k4q62 ?k5q62 ?kKq62 ?kdq62 ?kuq62 ?m0q62 ?m1q62 ?p0q62 ?p1q62 ?p2q62 ?_; (case k1q62 => k_asm); (case k2q62 => k_asm); (case k3q62 => k_asm); (case k4q62 => k_asm); (case k5q62 => k_asm); (case kKq62 => first | exact rfl | assumption); (case kdq62 => ktr_room); (case kuq62 => ktr_units); (case m0q62 => k_mem); (case m1q62 => k_mem); (case p0q62 => ktr_rel); (case p1q62 => first | with_reducible assumption | omega); (case p2q62 => first | with_reducible assumption | omega); k_whole); intro r9 z9 y9 t9 u9 h9 tk9 e9 f9 F9 N9; (try k_sweep); (try dsimp only); (try k_fold); skip))
  trivial
section
variable {w : World} {loose : List Str} {mean : ExcName → Option Value} {mg mb : Str → Option Value}
  {dp un : Nat} {gd : Option (List Code)} {cn : Str} {cs : Scope} {a : Addr} {ccd : Value} {cl : List (Str × Addr)} {outer : List Env} {A₀ : Around} {base h₀ : Heap} {L : Addr} {m : Str → Option Value} {news : List (Addr × Obj)} {s : Shared} {Q E : Value → Shared → Prop}

theorem inverse_series_c {wk : Int} {t1 t2 t3 : Tok} {v : Int × Int}
  (B : Below A₀ base outer h₀) (F : Fr h₀ L s.heap m) (X : (hd.heap_1 w.params).In h₀) (N : News h₀ L s.heap (news)) (T : Top topProg loose mean mg mb h₀) (hk : cs.kind = .function)
  (hdp : dp + 6 < recursionLimit) (hun : un + 80 < cLine)
   (h0 : 0 ≤ wk) (h1 : wk < 9000) (hv : invF 60 ((p2 wk).fdiv 3) 0 1 0 = some v)
  (hret : ∀ r z1 z2 u1 u2 h' tk', z1 = (widI (v.1, v.1) (2 * v.2 + 4)).1 → z2 = (widI (v.1, v.1) (2 * v.2 + 4)).2 → Fr h₀ L h' m → News h₀ L h' ((r, tupO z1 u1 z2 u2) :: news) → Q (.ref r) { s with heap := h', toks := tk' }) :
  wpAny (model Challenge.rw_nt0168_01.row.prog w) (ktrTop dp un gd cn cs L a ccd cl outer) (call (.ref 254) [.int wk t1, .int 3 t2, .int 1 t3]) Q E s := by
  have hp2 := p2_eq wk
  k_with "exec While Compare cons nil" => (subst_vars; (rename Fr _ _ _ _ => lF'); (rename News _ _ _ _ => lN'); (with_unfolding_all refine' ksw_while (σ := IS) (fun c => news) (fun c => [(Str.ofString "power", .int c.p c.a), (Str.ofString "total", .int c.t c.b), (Str.ofString "exponent", .int c.e c.c), (Str.ofString "now", .int 1 c.d), (Str.ofString "steps", .int c.k c.f)]) (fun _ => True) [] (fun c => invF c.n c.p c.t c.e c.k = some v ∧ 0 < c.e ∧ c.e + 2 * c.n ≤ 1000) (fun c => c.n) ⟨60, _, _, _, _, _, _, _, _, _⟩ lF' ?kn ?kf ?kk ?kp ?_); (case kk => kst_all); (case kn => (exact kst_newsOf lN' (by (try dsimp only); first | exact fun p hp => hp | (refine List.forall_mem_cons.mpr ⟨by k_mem, List.forall_mem_cons.mpr ⟨by k_mem, List.forall_mem_cons.mpr ⟨by k_mem, fun p hp => ?_⟩⟩⟩; (repeat (first | exact hp | refine List.mem_cons_of_mem _ ?_))) | (refine List.forall_mem_cons.mpr ⟨by k_mem, List.forall_mem_cons.mpr ⟨by k_mem, fun p hp => ?_⟩⟩; (repeat (first | exact hp | refine List.mem_cons_of_mem _ ?_))) | (refine List.forall_mem_cons.mpr ⟨by k_mem, fun p hp => ?_⟩; (repeat (first | exact hp | refine List.mem_cons_of_mem _ ?_))) | (intro p hp; (repeat (first | exact hp | refine List.mem_cons_of_mem _ ?_)))))); (case kf => trivial); (case kp => ((try dsimp only); exact ⟨by rw [Int.one_mul, ← hp2]; exact hv, by decide, by decide⟩)); (clear lF' lN'); intro c u h tk hf hP F' N'; obtain ⟨n, p, t, e, k, ta, tb, tc, td, tf⟩ := c; dsimp only at hf hP F' N'; clear hf; obtain ⟨hP1, hP2, hP3⟩ := hP; rcases n with _ | n; (· (simp [invF] at hP1)); all_goals ((try dsimp only); (try k_fold)))
  refine wpAny_call ?_
  k_dflt ktr_enter
  k_steps
  · ((try dsimp only); (rename News _ _ _ _ => nE'); (rename Fr _ _ _ _ => fE'); refine' ksw_end ⟨n, _, _, _, _, _, _, _, _, _⟩ fE' nE' ?kn ?kf ?kk ?kr ?kp (Nat.lt_succ_self _); (case kk => kst_all); (case kn => ((try dsimp only); first | exact fun p hp => hp | (refine List.forall_mem_cons.mpr ⟨by k_mem, List.forall_mem_cons.mpr ⟨by k_mem, List.forall_mem_cons.mpr ⟨by k_mem, fun p hp => ?_⟩⟩⟩; (repeat (first | exact hp | refine List.mem_cons_of_mem _ ?_))) | (refine List.forall_mem_cons.mpr ⟨by k_mem, List.forall_mem_cons.mpr ⟨by k_mem, fun p hp => ?_⟩⟩; (repeat (first | exact hp | refine List.mem_cons_of_mem _ ?_))) | (refine List.forall_mem_cons.mpr ⟨by k_mem, fun p hp => ?_⟩; (repeat (first | exact hp | refine List.mem_cons_of_mem _ ?_))) | (intro p hp; (repeat (first | exact hp | refine List.mem_cons_of_mem _ ?_))))); (case kf => trivial); (case kr => (intro z h2 h3; simp only [List.forall_mem_cons, List.not_mem_nil, false_implies, implies_true, and_true, ne_eq] at h2; simp [kstB, h2])); (case kp => ((try dsimp only); refine ⟨?_, by omega, by omega⟩; rw [Int.one_mul]; exact (invF_step (by assumption)).symm.trans hP1)))

  all_goals (refine retT hret (by assumption) (by k_asm) (by k_mem) (by first | ((repeat (first | exact sub_refl | refine sub_cons ?_)); done) | (intro p hp; first | exact hp | (repeat (first | exact hp | refine List.mem_cons_of_mem _ ?_)))) ?_)
  all_goals (have e1 := Option.some.inj (hP1.symm.trans (invF_stop (by assumption))); subst e1; (try law_clear); subst_vars; rfl)
theorem reg_25 : True := by
  k_with "call ref" => ((k_here; (with_reducible show wpAny _ _ (call (Value.ref 254) _ _) _ _ _); k_dflt (refine' inverse_series_c ?k1q63 ?k2q63 ?k3q63 ?k4q63 ?k5q63 ?kKq63 ?kdq63 ?kuq63  ?p0q63 ?p1q63 ?p2q63 ?_; (case k1q63 => k_asm); (case k2q63 => k_asm); (case k3q63 => k_asm); (case k4q63 => k_asm); (case k5q63 => k_asm); (case kKq63 => first | exact rfl | assumption); (case kdq63 => ktr_room); (case kuq63 => ktr_units); (case p0q63 => first | with_reducible assumption | omega); (case p1q63 => first | with_reducible assumption | omega); (case p2q63 => first | with_reducible assumption | k_dflt (have hq := (‹invF _ _ _ _ _ = some _›); refine Eq.trans ?_ hq; law_clear; subst_vars; exact rfl) | kwd_less); k_whole); intro r9 z9 y9 t9 u9 h9 tk9 e9 f9 F9 N9; (try k_sweep); (try dsimp only); (try k_fold); skip))
  trivial
theorem log_of_two_c {wk : Int} {t1 : Tok} {v : Int × Int}
  (B : Below A₀ base outer h₀) (F : Fr h₀ L s.heap m) (X : (hd.heap_1 w.params).In h₀) (N : News h₀ L s.heap (news)) (T : Top topProg loose mean mg mb h₀) (hk : cs.kind = .function)
  (hdp : dp + 9 < recursionLimit) (hun : un + 120 < cLine)
   (h0 : 0 ≤ wk) (h1 : wk < 9000) (hv : log2F wk = some v)
  (hret : ∀ r z1 z2 u1 u2 h' tk', z1 = (v).1 → z2 = (v).2 → Fr h₀ L h' m → News h₀ L h' ((r, tupO z1 u1 z2 u2) :: news) → Q (.ref r) { s with heap := h', toks := tk' }) :
  wpAny (model Challenge.rw_nt0168_01.row.prog w) (ktrTop dp un gd cn cs L a ccd cl outer) (call (.ref 261) [.int wk t1]) Q E s := by
  obtain ⟨u, hw, hv1⟩ := log2F_parts hv
  refine wpAny_call ?_
  k_dflt ktr_enter
  k_steps
  all_goals (refine retT hret (by assumption) (by k_asm) (by k_mem) (by first | ((repeat (first | exact sub_refl | refine sub_cons ?_)); done) | (intro p hp; first | exact hp | (repeat (first | exact hp | refine List.mem_cons_of_mem _ ?_)))) ?_)
  all_goals ((try law_clear); subst_vars; rfl)
theorem reg_26 : True := by
  k_with "call ref" => ((k_here; (with_reducible show wpAny _ _ (call (Value.ref 261) _ _) _ _ _); k_dflt (refine' log_of_two_c ?k1q64 ?k2q64 ?k3q64 ?k4q64 ?k5q64 ?kKq64 ?kdq64 ?kuq64  ?p0q64 ?p1q64 ?p2q64 ?_; (case k1q64 => k_asm); (case k2q64 => k_asm); (case k3q64 => k_asm); (case k4q64 => k_asm); (case k5q64 => k_asm); (case kKq64 => first | exact rfl | assumption); (case kdq64 => ktr_room); (case kuq64 => ktr_units); (case p0q64 => first | with_reducible assumption | omega); (case p1q64 => first | with_reducible assumption | omega); (case p2q64 => first | with_reducible assumption | k_dflt (have hq := (‹log2F _ = some _›); refine Eq.trans ?_ hq; law_clear; subst_vars; exact rfl) | kwd_less); k_whole); intro r9 z9 y9 t9 u9 h9 tk9 e9 f9 F9 N9; (try k_sweep); (try dsimp only); (try k_fold); skip))
  trivial
theorem exp_series_c {p : Int} {t3 : Tok} {x1 y1 : Int} {t1 u1 : Tok} {a1 : Addr} {v : Int × Int}
  (B : Below A₀ base outer h₀) (F : Fr h₀ L s.heap m) (X : (hd.heap_1 w.params).In h₀) (N : News h₀ L s.heap (news)) (T : Top topProg loose mean mg mb h₀) (hk : cs.kind = .function)
  (hdp : dp + 9 < recursionLimit) (hun : un + 120 < cLine)
  (Ma1 : (a1, tupO x1 t1 y1 u1) ∈ news) (h0 : 0 ≤ p) (h1 : p < 9000) (hv : expS p (x1, y1) = some v)
  (hret : ∀ r z1 z2 u1 u2 h' tk', z1 = (v).1 → z2 = (v).2 → Fr h₀ L h' m → News h₀ L h' ((r, tupO z1 u1 z2 u2) :: news) → Q (.ref r) { s with heap := h', toks := tk' }) :
  wpAny (model Challenge.rw_nt0168_01.row.prog w) (ktrTop dp un gd cn cs L a ccd cl outer) (call (.ref 268) [.int p t3, .ref a1]) Q E s := by
  have hn : expS p (x1, y1) ≠ none := by rw [hv]; exact nofun
  obtain ⟨hs1, hs2, u, hv1, hv2⟩ := expS_parts hn
  have hv3 := Option.some.inj (hv.symm.trans hv2)
  dsimp only at hs1 hs2
  have hp2 := p2_eq p
  k_with "exec While Compare cons nil" => (subst_vars; (rename Fr _ _ _ _ => lF'); (rename News _ _ _ _ => lN'); (with_unfolding_all refine' ksw_while (σ := ES) (fun c => (c.aT, tupO c.T1 c.a c.T2 c.b) :: (c.aD, tupO c.D1 c.c c.D2 c.d) :: news) (fun c => [(Str.ofString "total", .ref c.aT), (Str.ofString "term", .ref c.aD), (Str.ofString "count", .int c.k c.f)]) (fun _ => True) [] (fun c => expL c.n p (x1, y1) (c.T1, c.T2) (c.D1, c.D2) c.k = some u) (fun c => c.n) ⟨60, _, _, _, _, _, _, _, _, _, _, _, _⟩ lF' ?kn ?kf ?kk ?kp ?_); (case kk => kst_all); (case kn => (exact kst_newsOf lN' (by (try dsimp only); first | exact fun p hp => hp | (refine List.forall_mem_cons.mpr ⟨by k_mem, List.forall_mem_cons.mpr ⟨by k_mem, List.forall_mem_cons.mpr ⟨by k_mem, fun p hp => ?_⟩⟩⟩; (repeat (first | exact hp | refine List.mem_cons_of_mem _ ?_))) | (refine List.forall_mem_cons.mpr ⟨by k_mem, List.forall_mem_cons.mpr ⟨by k_mem, fun p hp => ?_⟩⟩; (repeat (first | exact hp | refine List.mem_cons_of_mem _ ?_))) | (refine List.forall_mem_cons.mpr ⟨by k_mem, fun p hp => ?_⟩; (repeat (first | exact hp | refine List.mem_cons_of_mem _ ?_))) | (intro p hp; (repeat (first | exact hp | refine List.mem_cons_of_mem _ ?_)))))); (case kf => trivial); (case kp => ((try dsimp only); (first | exact hv1 | (rw [hp2] at hv1; exact hv1) | (rw [← hp2]; exact hv1)))); (clear lF' lN'); intro c u h tk hf hP F' N'; obtain ⟨n, T1, T2, D1, D2, k, aT, aD, ta, tb, tc, td, tf⟩ := c; dsimp only at hf hP F' N'; clear hf; rcases n with _ | n; (· (simp [expL] at hP)); by_cases hg : 1 < greatI (D1, D2); obtain ⟨hg1, hg2, hg3, hg4, hP⟩ := expL_step hg hP; all_goals ((try dsimp only); (try k_fold)))
  refine wpAny_call ?_
  k_dflt ktr_enter
  k_steps
  · ((try dsimp only); (rename News _ _ _ _ => nE'); (rename Fr _ _ _ _ => fE'); refine' ksw_end ⟨n, _, _, _, _, _, _, _, _, _, _, _, _⟩ fE' nE' ?kn ?kf ?kk ?kr ?kp (Nat.lt_succ_self _); (case kk => kst_all); (case kn => ((try dsimp only); first | exact fun p hp => hp | (refine List.forall_mem_cons.mpr ⟨by k_mem, List.forall_mem_cons.mpr ⟨by k_mem, List.forall_mem_cons.mpr ⟨by k_mem, fun p hp => ?_⟩⟩⟩; (repeat (first | exact hp | refine List.mem_cons_of_mem _ ?_))) | (refine List.forall_mem_cons.mpr ⟨by k_mem, List.forall_mem_cons.mpr ⟨by k_mem, fun p hp => ?_⟩⟩; (repeat (first | exact hp | refine List.mem_cons_of_mem _ ?_))) | (refine List.forall_mem_cons.mpr ⟨by k_mem, fun p hp => ?_⟩; (repeat (first | exact hp | refine List.mem_cons_of_mem _ ?_))) | (intro p hp; (repeat (first | exact hp | refine List.mem_cons_of_mem _ ?_))))); (case kf => trivial); (case kr => (intro z h2 h3; simp only [List.forall_mem_cons, List.not_mem_nil, false_implies, implies_true, and_true, ne_eq] at h2; simp [kstB, h2])); (case kp => ((try dsimp only); subst_vars; exact hP)))

  all_goals (refine retT hret (by assumption) (by k_asm) (by k_mem) (by first | ((repeat (first | exact sub_refl | refine sub_cons ?_)); done) | (intro p hp; first | exact hp | (repeat (first | exact hp | refine List.mem_cons_of_mem _ ?_)))) ?_)
  all_goals (
    have e1 := Option.some.inj ((expL_stop hg).symm.trans hP)
    first | rw [hv3, ← e1] | rw [← e1]
    (try law_clear)
    subst_vars
    rfl)
theorem reg_27 : True := by
  k_with "call ref" => ((k_here; (with_reducible show wpAny _ _ (call (Value.ref 268) _ _) _ _ _); k_dflt (refine' exp_series_c ?k1q65 ?k2q65 ?k3q65 ?k4q65 ?k5q65 ?kKq65 ?kdq65 ?kuq65 ?m0q65 ?p0q65 ?p1q65 ?p2q65 ?_; (case k1q65 => k_asm); (case k2q65 => k_asm); (case k3q65 => k_asm); (case k4q65 => k_asm); (case k5q65 => k_asm); (case kKq65 => first | exact rfl | assumption); (case kdq65 => ktr_room); (case kuq65 => ktr_units); (case m0q65 => k_mem); (case p0q65 => first | with_reducible assumption | omega); (case p1q65 => first | with_reducible assumption | omega); (case p2q65 => first | with_reducible assumption | k_dflt (have hq := (‹expS _ _ = some _›); refine Eq.trans ?_ hq; law_clear; subst_vars; exact rfl) | kwd_less); k_whole); intro r9 z9 y9 t9 u9 h9 tk9 e9 f9 F9 N9; (try k_sweep); (try dsimp only); (try k_fold); skip))
  trivial
end
end
section
open PySem PySem.W PySem.Spec PySem.Calls PyProof.Rows
set_option Elab.async false
set_option maxRecDepth 100000
set_option maxHeartbeats 0
theorem reg_28 : True := by
  k_with_none
  k_with "lt9" => (first | with_reducible assumption | (refine ltc (by with_reducible assumption) ?_; first | exact pj1 | exact pj2 | exact pj3 | exact pj4 | exact pj5 | exact pj6 | exact pj7 | exact pj8 | exact pj9 | exact pj10 | exact pj11 | exact pj12 | exact pj13 | exact pj14 | exact qj1 | exact qj2 | exact qj3 | exact qj4 | exact qj5 | exact qj6 | exact qj7 | exact qj8 | exact qj9 | exact qj10 | exact qj11 | exact qj12 | exact qj13 | exact qj14))
  k_with "ne9" => (first | decide | (refine Nat.ne_of_lt ?_; walk_at "lt9") | (refine Nat.ne_of_gt ?_; walk_at "lt9") | exact Nat.ne_of_lt (Nat.lt_succ_self _) | exact Nat.ne_of_gt (Nat.lt_succ_self _) | (refine ne_up1 ?_; walk_at "lt9") | (refine ne_up2 ?_; walk_at "lt9") | (refine Ne.symm (ne_up1 ?_); walk_at "lt9") | (refine Ne.symm (ne_up2 ?_); walk_at "lt9"))
  trivial
-- Sm facts
theorem reg_29 : True := by
  k_with "binaryOp FloorDiv int int" => ((k_here; (with_reducible refine floordiv_int ?feq68 ?_ (Or.inl (Sm.py ?fpq68))); (case feq68 => first | decide | omega | assumption); (case fpq68 => ktr_rel)))
  k_with "binaryOp LShift int int" => ((k_here; (with_reducible refine lshift_int ?feq69 ?fpq69 ?_); (case feq69 => omega); (case fpq69 => exact Sm.shl (by ktr_rel) (by omega))))
  k_with "ite" => ((k_here; k_openite; k_spoken; first
  | (refine ite_pos (by ((try simp only [beq_iff_eq, bne_iff_ne, ne_eq, Bool.not_eq_true', beq_eq_false_iff_ne]); (try law_clear); (try subst_vars); first | assumption | exact decide_eq_true rfl | exact Int.not_le.mp (by assumption) | exact Int.not_lt.mp (by assumption) | (law_clear; omega))) ?_; walk_say "PRUNED own")
  | (refine ite_neg (by ((try simp only [beq_iff_eq, bne_iff_ne, ne_eq, Bool.not_eq_true', beq_eq_false_iff_ne]); (try law_clear); (try subst_vars); first | assumption | exact Int.not_le.mpr (by assumption) | exact Int.not_lt.mpr (by assumption) | (law_clear; omega))) ?_; walk_say "PRUNED own")))
  k_with "subscriptTail" => ((k_here; (with_reducible show wpAny _ _ (subscriptTail _ _ (Value.ref _) (Value.int _ _)) _ _ _); k_dflt (refine' item_tupleT ?tq71 ?aq71 ?bq71 ?cq71 ?dq71 ?_; (case tq71 => exact News.isTup (by k_asm) (by k_mem)); (case aq71 => decide); (case bq71 => decide); (case cq71 => rfl); (case dq71 => rfl); k_whole)))
  k_with "subscriptTail Name Constant ref int" => ((k_here; (with_reducible show wpAny _ _ (subscriptTail _ _ (Value.ref _) (Value.int _ _)) _ _ _); k_dflt (refine' item_tupleT ?tq72 ?aq72 ?bq72 ?cq72 ?dq72 ?_; (case tq72 => exact News.isTup (by k_asm) (by k_mem)); (case aq72 => decide); (case bq72 => decide); (case cq72 => rfl); (case dq72 => rfl); k_whole)))
  k_with "callWith ref" => ((k_here; k_dflt (refine' callWith_K ?k1q73 ?k2q73 ?_; (case k1q73 => k_asm); (case k2q73 => k_is); k_whole)))
  k_with "call builtin:divmod" => ((k_here; (with_reducible show wpAny _ _ (call (Value.builtin _) [Value.int _ _, Value.int _ _]) _ _ _); k_dflt (refine' divmod_N ?k1q74 ?k2q74 ?feq74 ?_ (Or.inl (Sm.py ?fpq74)); (case k1q74 => k_asm); (case k2q74 => k_asm); (case feq74 => first | omega | exact Int.ne_of_gt (Int.mul_pos (by omega) (pow2_pos _))); (case fpq74 => ktr_rel)); intro h' F' N'; (try k_sweep)))
  k_with "call builtin:max" => ((k_here; (with_reducible show wpAny _ _ (call (Value.builtin _) [Value.ref _]) _ _ _); k_dflt (first
  | (refine' max_tup ?k0q75 ?k1q75 ?k2q75 ?k3q75 ?_; (case k0q75 => exact rfl); (case k1q75 => k_asm); (case k2q75 => k_asm); (case k3q75 => exact News.isTup (by k_asm) (by k_mem)))
  | (refine' max_list4 ?k0q75 ?k1q75 ?k2q75 ?k3q75 ?_; (case k0q75 => exact rfl); (case k1q75 => k_asm); (case k2q75 => k_asm); (case k3q75 => exact News.isList (by k_asm) (by k_mem)))); k_whole; intro h' r' tk' F' N'; (try k_sweep)))
  k_with "call builtin:min" => ((k_here; (with_reducible show wpAny _ _ (call (Value.builtin _) [Value.ref _]) _ _ _); k_dflt (first
  | (refine' min_tup ?k0q76 ?k1q76 ?k2q76 ?k3q76 ?_; (case k0q76 => exact rfl); (case k1q76 => k_asm); (case k2q76 => k_asm); (case k3q76 => exact News.isTup (by k_asm) (by k_mem)))
  | (refine' min_list4 ?k0q76 ?k1q76 ?k2q76 ?k3q76 ?_; (case k0q76 => exact rfl); (case k1q76 => k_asm); (case k2q76 => k_asm); (case k3q76 => exact News.isList (by k_asm) (by k_mem)))); k_whole; intro h' r' tk' F' N'; (try k_sweep)))
  k_with "call ref" => ((k_here; (with_reducible show wpAny _ _ (call (Value.ref 100) _ _) _ _ _); k_dflt (refine' size_of_c ?k1q77 ?k2q77 ?k3q77 ?k4q77 ?k5q77 ?kKq77 ?kdq77 ?kuq77   ?_; (case k1q77 => k_asm); (case k2q77 => k_asm); (case k3q77 => k_asm); (case k4q77 => k_asm); (case k5q77 => k_asm); (case kKq77 => first | exact rfl | assumption); (case kdq77 => ktr_room); (case kuq77 => ktr_units); k_whole); intro z9 t9 h9 tk9 e9 F9 N9; (try k_sweep); (try dsimp only); (try k_fold); skip))
  k_with "call ref" => ((k_here; (with_reducible show wpAny _ _ (call (Value.ref 107) _ _) _ _ _); k_dflt (refine' sign_of_whole_c ?k1q78 ?k2q78 ?k3q78 ?k4q78 ?k5q78 ?kKq78 ?kdq78 ?kuq78   ?_; (case k1q78 => k_asm); (case k2q78 => k_asm); (case k3q78 => k_asm); (case k4q78 => k_asm); (case k5q78 => k_asm); (case kKq78 => first | exact rfl | assumption); (case kdq78 => ktr_room); (case kuq78 => ktr_units); k_whole); intro z9 t9 h9 tk9 e9 F9 N9; (try k_sweep); (try dsimp only); (try k_fold); skip))
  k_with "call ref" => ((k_here; (with_reducible show wpAny _ _ (call (Value.ref 114) _ _) _ _ _); k_dflt (refine' zeros_below_c ?k1q79 ?k2q79 ?k3q79 ?k4q79 ?k5q79 ?kKq79 ?kdq79 ?kuq79   ?_; (case k1q79 => k_asm); (case k2q79 => k_asm); (case k3q79 => k_asm); (case k4q79 => k_asm); (case k5q79 => k_asm); (case kKq79 => first | exact rfl | assumption); (case kdq79 => ktr_room); (case kuq79 => ktr_units); k_whole); intro z9 t9 h9 tk9 e9 F9 N9; (try k_sweep); (try dsimp only); (try k_fold); skip))
  k_with "call ref" => ((k_here; (with_reducible show wpAny _ _ (call (Value.ref 177) _ _) _ _ _); k_dflt (refine' up_shift_c ?k1q80 ?k2q80 ?k3q80 ?k4q80 ?k5q80 ?kKq80 ?kdq80 ?kuq80  ?p0q80 ?_; (case k1q80 => k_asm); (case k2q80 => k_asm); (case k3q80 => k_asm); (case k4q80 => k_asm); (case k5q80 => k_asm); (case kKq80 => first | exact rfl | assumption); (case kdq80 => ktr_room); (case kuq80 => ktr_units); (case p0q80 => first | with_reducible assumption | omega); k_whole); intro z9 t9 h9 tk9 e9 F9 N9; (try k_sweep); (try dsimp only); (try k_fold); skip))
  k_with "call ref" => ((k_here; (with_reducible show wpAny _ _ (call (Value.ref 184) _ _) _ _ _); k_dflt (refine' up_over_c ?k1q81 ?k2q81 ?k3q81 ?k4q81 ?k5q81 ?kKq81 ?kdq81 ?kuq81  ?p0q81 ?p1q81 ?_; (case k1q81 => k_asm); (case k2q81 => k_asm); (case k3q81 => k_asm); (case k4q81 => k_asm); (case k5q81 => k_asm); (case kKq81 => first | exact rfl | assumption); (case kdq81 => ktr_room); (case kuq81 => ktr_units); (case p0q81 => first | with_reducible assumption | omega); (case p1q81 => ktr_rel); k_whole); intro z9 t9 h9 tk9 e9 F9 N9; (try k_sweep); (try dsimp only); (try k_fold); skip))
  k_with "call ref" => ((k_here; (with_reducible show wpAny _ _ (call (Value.ref 142) _ _) _ _ _); k_dflt (refine' with_sticky_c ?k1q82 ?k2q82 ?k3q82 ?k4q82 ?k5q82 ?kKq82 ?kdq82 ?kuq82   ?_; (case k1q82 => k_asm); (case k2q82 => k_asm); (case k3q82 => k_asm); (case k4q82 => k_asm); (case k5q82 => k_asm); (case kKq82 => first | exact rfl | assumption); (case kdq82 => ktr_room); (case kuq82 => ktr_units); k_whole); intro z9 t9 h9 tk9 e9 F9 N9; (try k_sweep); (try dsimp only); (try k_fold); skip))
  k_with "call ref" => ((k_here; (with_reducible show wpAny _ _ (call (Value.ref 128) _ _) _ _ _); k_dflt (refine' nearest_shift_c ?k1q83 ?k2q83 ?k3q83 ?k4q83 ?k5q83 ?kKq83 ?kdq83 ?kuq83  ?p0q83 ?p1q83 ?_; (case k1q83 => k_asm); (case k2q83 => k_asm); (case k3q83 => k_asm); (case k4q83 => k_asm); (case k5q83 => k_asm); (case kKq83 => first | exact rfl | assumption); (case kdq83 => ktr_room); (case kuq83 => ktr_units); (case p0q83 => first | with_reducible assumption | omega); (case p1q83 => first | with_reducible assumption | omega); k_whole); intro z9 t9 h9 tk9 e9 F9 N9; (try k_sweep); (try dsimp only); (try k_fold); skip))
  k_with "call ref" => ((k_here; (with_reducible show wpAny _ _ (call (Value.ref 198) _ _) _ _ _); k_dflt (refine' more_of_c ?k1q84 ?k2q84 ?k3q84 ?k4q84 ?k5q84 ?kKq84 ?kdq84 ?kuq84 ?m0q84 ?m1q84  ?_; (case k1q84 => k_asm); (case k2q84 => k_asm); (case k3q84 => k_asm); (case k4q84 => k_asm); (case k5q84 => k_asm); (case kKq84 => first | exact rfl | assumption); (case kdq84 => ktr_room); (case kuq84 => ktr_units); (case m0q84 => k_mem); (case m1q84 => k_mem); k_whole); intro r9 z9 y9 t9 u9 h9 tk9 e9 f9 F9 N9; (try k_sweep); (try dsimp only); (try k_fold); skip))
  k_with "call ref" => ((k_here; (with_reducible show wpAny _ _ (call (Value.ref 205) _ _) _ _ _); k_dflt (refine' less_of_c ?k1q85 ?k2q85 ?k3q85 ?k4q85 ?k5q85 ?kKq85 ?kdq85 ?kuq85 ?m0q85 ?m1q85  ?_; (case k1q85 => k_asm); (case k2q85 => k_asm); (case k3q85 => k_asm); (case k4q85 => k_asm); (case k5q85 => k_asm); (case kKq85 => first | exact rfl | assumption); (case kdq85 => ktr_room); (case kuq85 => ktr_units); (case m0q85 => k_mem); (case m1q85 => k_mem); k_whole); intro r9 z9 y9 t9 u9 h9 tk9 e9 f9 F9 N9; (try k_sweep); (try dsimp only); (try k_fold); skip))
  k_with "call ref" => ((k_here; (with_reducible show wpAny _ _ (call (Value.ref 212) _ _) _ _ _); k_dflt (refine' often_c ?k1q86 ?k2q86 ?k3q86 ?k4q86 ?k5q86 ?kKq86 ?kdq86 ?kuq86 ?m0q86 ?p0q86 ?p1q86 ?_; (case k1q86 => k_asm); (case k2q86 => k_asm); (case k3q86 => k_asm); (case k4q86 => k_asm); (case k5q86 => k_asm); (case kKq86 => first | exact rfl | assumption); (case kdq86 => ktr_room); (case kuq86 => ktr_units); (case m0q86 => k_mem); (case p0q86 => mul_fits); (case p1q86 => mul_fits); k_whole); intro r9 z9 y9 t9 u9 h9 tk9 e9 f9 F9 N9; (try k_sweep); (try dsimp only); (try k_fold); skip))
  k_with "call ref" => ((k_here; (with_reducible show wpAny _ _ (call (Value.ref 233) _ _) _ _ _); k_dflt (refine' widened_c ?k1q87 ?k2q87 ?k3q87 ?k4q87 ?k5q87 ?kKq87 ?kdq87 ?kuq87 ?m0q87  ?_; (case k1q87 => k_asm); (case k2q87 => k_asm); (case k3q87 => k_asm); (case k4q87 => k_asm); (case k5q87 => k_asm); (case kKq87 => first | exact rfl | assumption); (case kdq87 => ktr_room); (case kuq87 => ktr_units); (case m0q87 => k_mem); k_whole); intro r9 z9 y9 t9 u9 h9 tk9 e9 f9 F9 N9; (try k_sweep); (try dsimp only); (try k_fold); skip))
  k_with "call ref" => ((k_here; (with_reducible show wpAny _ _ (call (Value.ref 240) _ _) _ _ _); k_dflt (refine' greatest_of_c ?k1q88 ?k2q88 ?k3q88 ?k4q88 ?k5q88 ?kKq88 ?kdq88 ?kuq88 ?m0q88  ?_; (case k1q88 => k_asm); (case k2q88 => k_asm); (case k3q88 => k_asm); (case k4q88 => k_asm); (case k5q88 => k_asm); (case kKq88 => first | exact rfl | assumption); (case kdq88 => ktr_room); (case kuq88 => ktr_units); (case m0q88 => k_mem); k_whole); intro z9 t9 h9 tk9 e9 F9 N9; (try k_sweep); (try dsimp only); (try k_fold); skip))
  k_with "call ref" => ((k_here; (with_reducible show wpAny _ _ (call (Value.ref 226) _ _) _ _ _); k_dflt (refine' part_of_c ?k1q89 ?k2q89 ?k3q89 ?k4q89 ?k5q89 ?kKq89 ?kdq89 ?kuq89 ?m0q89 ?p0q89 ?p1q89 ?_; (case k1q89 => k_asm); (case k2q89 => k_asm); (case k3q89 => k_asm); (case k4q89 => k_asm); (case k5q89 => k_asm); (case kKq89 => first | exact rfl | assumption); (case kdq89 => ktr_room); (case kuq89 => ktr_units); (case m0q89 => k_mem); (case p0q89 => first | with_reducible assumption | omega); (case p1q89 => ktr_rel); k_whole); intro r9 z9 y9 t9 u9 h9 tk9 e9 f9 F9 N9; (try k_sweep); (try dsimp only); (try k_fold); skip))
  k_with "call ref" => ((k_here; (with_reducible show wpAny _ _ (call (Value.ref 219) _ _) _ _ _); k_dflt (refine' product_of_c ?k1q90 ?k2q90 ?k3q90 ?k4q90 ?k5q90 ?kKq90 ?kdq90 ?kuq90 ?m0q90 ?m1q90 ?p0q90 ?p1q90 ?p2q90 ?p3q90 ?p4q90 ?_; (case k1q90 => k_asm); (case k2q90 => k_asm); (case k3q90 => k_asm); (case k4q90 => k_asm); (case k5q90 => k_asm); (case kKq90 => first | exact rfl | assumption); (case kdq90 => ktr_room); (case kuq90 => ktr_units); (case m0q90 => k_mem); (case m1q90 => k_mem); (case p0q90 => first | with_reducible assumption | omega); (case p1q90 => ktr_rel); (case p2q90 => ktr_rel); (case p3q90 => ktr_rel); (case p4q90 => ktr_rel); k_whole); intro r9 z9 y9 t9 u9 h9 tk9 e9 f9 F9 N9; (try k_sweep); (try dsimp only); (try k_fold); skip))
  k_with "call ref" => ((k_here; (with_reducible show wpAny _ _ (call (Value.ref 191) _ _) _ _ _); k_dflt (refine' fraction_bounds_c ?k1q91 ?k2q91 ?k3q91 ?k4q91 ?k5q91 ?kKq91 ?kdq91 ?kuq91  ?p0q91 ?p1q91 ?p2q91 ?p3q91 ?p4q91 ?_; (case k1q91 => k_asm); (case k2q91 => k_asm); (case k3q91 => k_asm); (case k4q91 => k_asm); (case k5q91 => k_asm); (case kKq91 => first | exact rfl | assumption); (case kdq91 => ktr_room); (case kuq91 => ktr_units); (case p0q91 => first | with_reducible assumption | omega); (case p1q91 => first | with_reducible assumption | omega); (case p2q91 => ktr_rel); (case p3q91 => first | with_reducible assumption | omega); (case p4q91 => ktr_rel); k_whole); intro r9 z9 y9 t9 u9 h9 tk9 e9 f9 F9 N9; (try k_sweep); (try dsimp only); (try k_fold); skip))
  k_with "call ref" => ((k_here; (with_reducible show wpAny _ _ (call (Value.ref 89) _ _) _ _ _); k_dflt (refine' real_c ?k1q92 ?k2q92 ?k3q92 ?k4q92 ?k5q92 ?kKq92 ?kdq92 ?kuq92   ?_; (case k1q92 => k_asm); (case k2q92 => k_asm); (case k3q92 => k_asm); (case k4q92 => k_asm); (case k5q92 => k_asm); (case kKq92 => first | exact rfl | assumption); (case kdq92 => ktr_room); (case kuq92 => ktr_units); k_whole); intro r9 d9 z9 y9 j9 t9 i9 u9 h9 tk9 e9 f9 F9 N9; (try k_sweep); (try dsimp only); (try k_fold); skip))
  k_with "call ref" => ((k_here; (with_reducible show wpAny _ _ (call (Value.ref 156) _ _) _ _ _); k_dflt (refine' place_of_c ?k1q93 ?k2q93 ?k3q93 ?k4q93 ?k5q93 ?kKq93 ?kdq93 ?kuq93 ?m0q93 ?m1q93  ?_; (case k1q93 => k_asm); (case k2q93 => k_asm); (case k3q93 => k_asm); (case k4q93 => k_asm); (case k5q93 => k_asm); (case kKq93 => first | exact rfl | assumption); (case kdq93 => ktr_room); (case kuq93 => ktr_units); (case m0q93 => k_mem); (case m1q93 => k_mem); k_whole); intro z9 t9 h9 tk9 e9 F9 N9; (try k_sweep); (try dsimp only); (try k_fold); skip))
  k_with "call ref" => ((k_here; (with_reducible show wpAny _ _ (call (Value.ref 163) _ _) _ _ _); k_dflt (refine' sign_of_c ?k1q94 ?k2q94 ?k3q94 ?k4q94 ?k5q94 ?kKq94 ?kdq94 ?kuq94 ?m0q94 ?m1q94  ?_; (case k1q94 => k_asm); (case k2q94 => k_asm); (case k3q94 => k_asm); (case k4q94 => k_asm); (case k5q94 => k_asm); (case kKq94 => first | exact rfl | assumption); (case kdq94 => ktr_room); (case kuq94 => ktr_units); (case m0q94 => k_mem); (case m1q94 => k_mem); k_whole); intro z9 t9 h9 tk9 e9 F9 N9; (try k_sweep); (try dsimp only); (try k_fold); skip))
  k_with "call ref" => ((k_here; (with_reducible show wpAny _ _ (call (Value.ref 170) _ _) _ _ _); k_dflt (refine' same_real_c ?k1q95 ?k2q95 ?k3q95 ?k4q95 ?k5q95 ?kKq95 ?kdq95 ?kuq95 ?m0q95 ?m1q95 ?m2q95 ?m3q95  ?_; (case k1q95 => k_asm); (case k2q95 => k_asm); (case k3q95 => k_asm); (case k4q95 => k_asm); (case k5q95 => k_asm); (case kKq95 => first | exact rfl | assumption); (case kdq95 => ktr_room); (case kuq95 => ktr_units); (case m0q95 => k_mem); (case m1q95 => k_mem); (case m2q95 => k_mem); (case m3q95 => k_mem); k_whole); intro h9 tk9 F9 N9; (try k_sweep); (try dsimp only); (try k_fold); skip))
  k_with "call ref" => ((k_here; (with_reducible show wpAny _ _ (call (Value.ref 247) _ _) _ _ _); k_dflt (refine' fraction_of_c ?k1q96 ?k2q96 ?k3q96 ?k4q96 ?k5q96 ?kKq96 ?kdq96 ?kuq96 ?m0q96 ?m1q96 ?p0q96 ?p1q96 ?p2q96 ?_; (case k1q96 => k_asm); (case k2q96 => k_asm); (case k3q96 => k_asm); (case k4q96 => k_asm); (case k5q96 => k_asm); (case kKq96 => first | exact rfl | assumption); (case kdq96 => ktr_room); (case kuq96 => ktr_units); (case m0q96 => k_mem); (case m1q96 => k_mem); (case p0q96 => ktr_rel); (case p1q96 => first | with_reducible assumption | omega); (case p2q96 => first | with_reducible assumption | omega); k_whole); intro r9 z9 y9 t9 u9 h9 tk9 e9 f9 F9 N9; (try k_sweep); (try dsimp only); (try k_fold); skip))
  trivial
section
variable {w : World} {loose : List Str} {mean : ExcName → Option Value} {mg mb : Str → Option Value}
  {dp un : Nat} {gd : Option (List Code)} {cn : Str} {cs : Scope} {a : Addr} {ccd : Value} {cl : List (Str × Addr)} {outer : List Env} {A₀ : Around} {base h₀ : Heap} {L : Addr} {m : Str → Option Value} {news : List (Addr × Obj)} {s : Shared} {Q E : Value → Shared → Prop}

theorem odd_series_c {p x b : Int} {t1 t2 t3 t4 : Tok} {v : Int × Int}
  (B : Below A₀ base outer h₀) (F : Fr h₀ L s.heap m) (X : (hd.heap_1 w.params).In h₀) (N : News h₀ L s.heap (news)) (T : Top topProg loose mean mg mb h₀) (hk : cs.kind = .function)
  (hdp : dp + 9 < recursionLimit) (hun : un + 120 < cLine)
   (h0 : 0 ≤ p) (h1 : p < 9000) (hv : oddS p x b = some v)
  (hret : ∀ r z1 z2 u1 u2 h' tk', z1 = (v).1 → z2 = (v).2 → Fr h₀ L h' m → News h₀ L h' ((r, tupO z1 u1 z2 u2) :: news) → Q (.ref r) { s with heap := h', toks := tk' }) :
  wpAny (model Challenge.rw_nt0168_01.row.prog w) (ktrTop dp un gd cn cs L a ccd cl outer) (call (.ref 275) [.int p t1, .int x t2, .int b t3, .int 1 t4]) Q E s := by
  have hn : oddS p x b ≠ none := by rw [hv]; exact nofun
  obtain ⟨hb, hx, hsb, hf1, hf2, hq1, hq2, u, hv1, hv2⟩ := oddS_parts hn
  have hv3 := Option.some.inj (hv.symm.trans hv2)
  obtain ⟨N6, hN6, hv1⟩ : ∃ N, N ≤ 60 ∧ oddL N p (prodI p (fracB p x b) (fracB p x b)) (fracB p x b) (fracB p x b) 1 = some u := ⟨60, Nat.le_refl _, hv1⟩
  k_with "exec While Compare cons nil" => (subst_vars; (rename Fr _ _ _ _ => lF'); (rename News _ _ _ _ => lN'); (with_unfolding_all refine' ksw_while (σ := OS) (fun c => (c.aT, tupO c.T1 c.a c.T2 c.b) :: (c.aD, tupO c.D1 c.c c.D2 c.d) :: (c.aQ, tupO (prodI p (fracB p x b) (fracB p x b)).1 c.g (prodI p (fracB p x b) (fracB p x b)).2 c.h) :: news) (fun c => [(Str.ofString "square", .ref c.aQ), (Str.ofString "total", .ref c.aT), (Str.ofString "power", .ref c.aD), (Str.ofString "exponent", .int c.k c.f), (Str.ofString "now", .int 1 c.e)]) (fun _ => True) [] (fun c => oddL c.n p (prodI p (fracB p x b) (fracB p x b)) (c.D1, c.D2) (c.T1, c.T2) c.k = some u ∧ c.k + 2 * c.n ≤ 1000) (fun c => c.n) ⟨N6, _, _, _, _, _, _, _, _, _, _, _, _, _, _, _, _⟩ lF' ?kn ?kf ?kk ?kp ?_); (case kk => kst_all); (case kn => (exact kst_newsOf lN' (by (try dsimp only); first | exact fun p hp => hp | (refine List.forall_mem_cons.mpr ⟨by k_mem, List.forall_mem_cons.mpr ⟨by k_mem, List.forall_mem_cons.mpr ⟨by k_mem, fun p hp => ?_⟩⟩⟩; (repeat (first | exact hp | refine List.mem_cons_of_mem _ ?_))) | (refine List.forall_mem_cons.mpr ⟨by k_mem, List.forall_mem_cons.mpr ⟨by k_mem, fun p hp => ?_⟩⟩; (repeat (first | exact hp | refine List.mem_cons_of_mem _ ?_))) | (refine List.forall_mem_cons.mpr ⟨by k_mem, fun p hp => ?_⟩; (repeat (first | exact hp | refine List.mem_cons_of_mem _ ?_))) | (intro p hp; (repeat (first | exact hp | refine List.mem_cons_of_mem _ ?_)))))); (case kf => trivial); (case kp => ((try dsimp only); exact ⟨hv1, by omega⟩)); (clear lF' lN'); intro c u h tk hf hP F' N'; obtain ⟨n, T1, T2, D1, D2, k, aT, aD, aQ, ta, tb, tc, td, te, tf, tg, th⟩ := c; dsimp only at hf hP F' N'; clear hf; obtain ⟨hP, hP2⟩ := hP; rcases n with _ | n; (· (simp [oddL] at hP)); by_cases hg : 1 < greatI (D1, D2); obtain ⟨hg1, hg2, hg3, hg4, hP⟩ := oddL_step hg hP; all_goals ((try dsimp only); (try k_fold)))
  refine wpAny_call ?_
  k_dflt ktr_enter
  k_steps
  · ((try dsimp only); (rename News _ _ _ _ => nE'); (rename Fr _ _ _ _ => fE'); refine' ksw_end ⟨n, _, _, _, _, _, _, _, _, _, _, _, _, _, _, _, _⟩ fE' nE' ?kn ?kf ?kk ?kr ?kp (Nat.lt_succ_self _); (case kk => kst_all); (case kn => ((try dsimp only); first | exact fun p hp => hp | (refine List.forall_mem_cons.mpr ⟨by k_mem, List.forall_mem_cons.mpr ⟨by k_mem, List.forall_mem_cons.mpr ⟨by k_mem, fun p hp => ?_⟩⟩⟩; (repeat (first | exact hp | refine List.mem_cons_of_mem _ ?_))) | (refine List.forall_mem_cons.mpr ⟨by k_mem, List.forall_mem_cons.mpr ⟨by k_mem, fun p hp => ?_⟩⟩; (repeat (first | exact hp | refine List.mem_cons_of_mem _ ?_))) | (refine List.forall_mem_cons.mpr ⟨by k_mem, fun p hp => ?_⟩; (repeat (first | exact hp | refine List.mem_cons_of_mem _ ?_))) | (intro p hp; (repeat (first | exact hp | refine List.mem_cons_of_mem _ ?_))))); (case kf => trivial); (case kr => (intro z h2 h3; simp only [List.forall_mem_cons, List.not_mem_nil, false_implies, implies_true, and_true, ne_eq] at h2; simp [kstB, h2])); (case kp => ((try dsimp only); subst_vars; exact ⟨hP, by omega⟩)))

  all_goals (refine retT hret (by assumption) (by k_asm) (by k_mem) (by first | ((repeat (first | exact sub_refl | refine sub_cons ?_)); done) | (intro p hp; first | exact hp | (repeat (first | exact hp | refine List.mem_cons_of_mem _ ?_)))) ?_)
  all_goals (
    have e1 := Option.some.inj ((oddL_stop hg).symm.trans hP)
    first | rw [hv3, ← e1] | rw [← e1]
    (try law_clear)
    subst_vars
    rfl)
theorem reg_30 : True := by
  k_with "call ref" => ((k_here; (with_reducible show wpAny _ _ (call (Value.ref 275) _ _) _ _ _); k_dflt (refine' odd_series_c ?k1q97 ?k2q97 ?k3q97 ?k4q97 ?k5q97 ?kKq97 ?kdq97 ?kuq97  ?p0q97 ?p1q97 ?p2q97 ?_; (case k1q97 => k_asm); (case k2q97 => k_asm); (case k3q97 => k_asm); (case k4q97 => k_asm); (case k5q97 => k_asm); (case kKq97 => first | exact rfl | assumption); (case kdq97 => ktr_room); (case kuq97 => ktr_units); (case p0q97 => first | with_reducible assumption | omega); (case p1q97 => first | with_reducible assumption | omega); (case p2q97 => first | with_reducible assumption | k_dflt (have hq := (‹oddS _ _ _ = some _›); refine Eq.trans ?_ hq; law_clear; subst_vars; exact rfl) | kwd_less); k_whole); intro r9 z9 y9 t9 u9 h9 tk9 e9 f9 F9 N9; (try k_sweep); (try dsimp only); (try k_fold); skip))
  trivial
end
end
section
open PySem PySem.W PySem.Spec PySem.Calls PyProof.Rows
set_option Elab.async false
set_option maxRecDepth 100000
set_option maxHeartbeats 0
theorem reg_31 : True := by
  k_with_none
  k_with "lt9" => (first | with_reducible assumption | (refine ltc (by with_reducible assumption) ?_; first | exact pj1 | exact pj2 | exact pj3 | exact pj4 | exact pj5 | exact pj6 | exact pj7 | exact pj8 | exact pj9 | exact pj10 | exact pj11 | exact pj12 | exact pj13 | exact pj14 | exact qj1 | exact qj2 | exact qj3 | exact qj4 | exact qj5 | exact qj6 | exact qj7 | exact qj8 | exact qj9 | exact qj10 | exact qj11 | exact qj12 | exact qj13 | exact qj14))
  k_with "ne9" => (first | decide | (refine Nat.ne_of_lt ?_; walk_at "lt9") | (refine Nat.ne_of_gt ?_; walk_at "lt9") | exact Nat.ne_of_lt (Nat.lt_succ_self _) | exact Nat.ne_of_gt (Nat.lt_succ_self _) | (refine ne_up1 ?_; walk_at "lt9") | (refine ne_up2 ?_; walk_at "lt9") | (refine Ne.symm (ne_up1 ?_); walk_at "lt9") | (refine Ne.symm (ne_up2 ?_); walk_at "lt9"))
  trivial
-- Sm facts
theorem reg_32 : True := by
  k_with "binaryOp FloorDiv int int" => ((k_here; (with_reducible refine floordiv_int ?feq100 ?_ (Or.inl (Sm.py ?fpq100))); (case feq100 => first | decide | omega | assumption); (case fpq100 => ktr_rel)))
  k_with "binaryOp LShift int int" => ((k_here; (with_reducible refine lshift_int ?feq101 ?fpq101 ?_); (case feq101 => omega); (case fpq101 => exact Sm.shl (by ktr_rel) (by omega))))
  k_with "ite" => ((k_here; k_openite; k_spoken; first
  | (refine ite_pos (by ((try simp only [beq_iff_eq, bne_iff_ne, ne_eq, Bool.not_eq_true', beq_eq_false_iff_ne]); (try law_clear); (try subst_vars); first | assumption | exact decide_eq_true rfl | exact Int.not_le.mp (by assumption) | exact Int.not_lt.mp (by assumption) | (law_clear; omega))) ?_; walk_say "PRUNED own")
  | (refine ite_neg (by ((try simp only [beq_iff_eq, bne_iff_ne, ne_eq, Bool.not_eq_true', beq_eq_false_iff_ne]); (try law_clear); (try subst_vars); first | assumption | exact Int.not_le.mpr (by assumption) | exact Int.not_lt.mpr (by assumption) | (law_clear; omega))) ?_; walk_say "PRUNED own")))
  k_with "subscriptTail" => ((k_here; (with_reducible show wpAny _ _ (subscriptTail _ _ (Value.ref _) (Value.int _ _)) _ _ _); k_dflt (refine' item_tupleT ?tq103 ?aq103 ?bq103 ?cq103 ?dq103 ?_; (case tq103 => exact News.isTup (by k_asm) (by k_mem)); (case aq103 => decide); (case bq103 => decide); (case cq103 => rfl); (case dq103 => rfl); k_whole)))
  k_with "subscriptTail Name Constant ref int" => ((k_here; (with_reducible show wpAny _ _ (subscriptTail _ _ (Value.ref _) (Value.int _ _)) _ _ _); k_dflt (refine' item_tupleT ?tq104 ?aq104 ?bq104 ?cq104 ?dq104 ?_; (case tq104 => exact News.isTup (by k_asm) (by k_mem)); (case aq104 => decide); (case bq104 => decide); (case cq104 => rfl); (case dq104 => rfl); k_whole)))
  k_with "callWith ref" => ((k_here; k_dflt (refine' callWith_K ?k1q105 ?k2q105 ?_; (case k1q105 => k_asm); (case k2q105 => k_is); k_whole)))
  k_with "call builtin:divmod" => ((k_here; (with_reducible show wpAny _ _ (call (Value.builtin _) [Value.int _ _, Value.int _ _]) _ _ _); k_dflt (refine' divmod_N ?k1q106 ?k2q106 ?feq106 ?_ (Or.inl (Sm.py ?fpq106)); (case k1q106 => k_asm); (case k2q106 => k_asm); (case feq106 => first | omega | exact Int.ne_of_gt (Int.mul_pos (by omega) (pow2_pos _))); (case fpq106 => ktr_rel)); intro h' F' N'; (try k_sweep)))
  k_with "call builtin:max" => ((k_here; (with_reducible show wpAny _ _ (call (Value.builtin _) [Value.ref _]) _ _ _); k_dflt (first
  | (refine' max_tup ?k0q107 ?k1q107 ?k2q107 ?k3q107 ?_; (case k0q107 => exact rfl); (case k1q107 => k_asm); (case k2q107 => k_asm); (case k3q107 => exact News.isTup (by k_asm) (by k_mem)))
  | (refine' max_list4 ?k0q107 ?k1q107 ?k2q107 ?k3q107 ?_; (case k0q107 => exact rfl); (case k1q107 => k_asm); (case k2q107 => k_asm); (case k3q107 => exact News.isList (by k_asm) (by k_mem)))); k_whole; intro h' r' tk' F' N'; (try k_sweep)))
  k_with "call builtin:min" => ((k_here; (with_reducible show wpAny _ _ (call (Value.builtin _) [Value.ref _]) _ _ _); k_dflt (first
  | (refine' min_tup ?k0q108 ?k1q108 ?k2q108 ?k3q108 ?_; (case k0q108 => exact rfl); (case k1q108 => k_asm); (case k2q108 => k_asm); (case k3q108 => exact News.isTup (by k_asm) (by k_mem)))
  | (refine' min_list4 ?k0q108 ?k1q108 ?k2q108 ?k3q108 ?_; (case k0q108 => exact rfl); (case k1q108 => k_asm); (case k2q108 => k_asm); (case k3q108 => exact News.isList (by k_asm) (by k_mem)))); k_whole; intro h' r' tk' F' N'; (try k_sweep)))
  k_with "call ref" => ((k_here; (with_reducible show wpAny _ _ (call (Value.ref 100) _ _) _ _ _); k_dflt (refine' size_of_c ?k1q109 ?k2q109 ?k3q109 ?k4q109 ?k5q109 ?kKq109 ?kdq109 ?kuq109   ?_; (case k1q109 => k_asm); (case k2q109 => k_asm); (case k3q109 => k_asm); (case k4q109 => k_asm); (case k5q109 => k_asm); (case kKq109 => first | exact rfl | assumption); (case kdq109 => ktr_room); (case kuq109 => ktr_units); k_whole); intro z9 t9 h9 tk9 e9 F9 N9; (try k_sweep); (try dsimp only); (try k_fold); skip))
  k_with "call ref" => ((k_here; (with_reducible show wpAny _ _ (call (Value.ref 107) _ _) _ _ _); k_dflt (refine' sign_of_whole_c ?k1q110 ?k2q110 ?k3q110 ?k4q110 ?k5q110 ?kKq110 ?kdq110 ?kuq110   ?_; (case k1q110 => k_asm); (case k2q110 => k_asm); (case k3q110 => k_asm); (case k4q110 => k_asm); (case k5q110 => k_asm); (case kKq110 => first | exact rfl | assumption); (case kdq110 => ktr_room); (case kuq110 => ktr_units); k_whole); intro z9 t9 h9 tk9 e9 F9 N9; (try k_sweep); (try dsimp only); (try k_fold); skip))
  k_with "call ref" => ((k_here; (with_reducible show wpAny _ _ (call (Value.ref 114) _ _) _ _ _); k_dflt (refine' zeros_below_c ?k1q111 ?k2q111 ?k3q111 ?k4q111 ?k5q111 ?kKq111 ?kdq111 ?kuq111   ?_; (case k1q111 => k_asm); (case k2q111 => k_asm); (case k3q111 => k_asm); (case k4q111 => k_asm); (case k5q111 => k_asm); (case kKq111 => first | exact rfl | assumption); (case kdq111 => ktr_room); (case kuq111 => ktr_units); k_whole); intro z9 t9 h9 tk9 e9 F9 N9; (try k_sweep); (try dsimp only); (try k_fold); skip))
  k_with "call ref" => ((k_here; (with_reducible show wpAny _ _ (call (Value.ref 177) _ _) _ _ _); k_dflt (refine' up_shift_c ?k1q112 ?k2q112 ?k3q112 ?k4q112 ?k5q112 ?kKq112 ?kdq112 ?kuq112  ?p0q112 ?_; (case k1q112 => k_asm); (case k2q112 => k_asm); (case k3q112 => k_asm); (case k4q112 => k_asm); (case k5q112 => k_asm); (case kKq112 => first | exact rfl | assumption); (case kdq112 => ktr_room); (case kuq112 => ktr_units); (case p0q112 => first | with_reducible assumption | omega); k_whole); intro z9 t9 h9 tk9 e9 F9 N9; (try k_sweep); (try dsimp only); (try k_fold); skip))
  k_with "call ref" => ((k_here; (with_reducible show wpAny _ _ (call (Value.ref 184) _ _) _ _ _); k_dflt (refine' up_over_c ?k1q113 ?k2q113 ?k3q113 ?k4q113 ?k5q113 ?kKq113 ?kdq113 ?kuq113  ?p0q113 ?p1q113 ?_; (case k1q113 => k_asm); (case k2q113 => k_asm); (case k3q113 => k_asm); (case k4q113 => k_asm); (case k5q113 => k_asm); (case kKq113 => first | exact rfl | assumption); (case kdq113 => ktr_room); (case kuq113 => ktr_units); (case p0q113 => first | with_reducible assumption | omega); (case p1q113 => ktr_rel); k_whole); intro z9 t9 h9 tk9 e9 F9 N9; (try k_sweep); (try dsimp only); (try k_fold); skip))
  k_with "call ref" => ((k_here; (with_reducible show wpAny _ _ (call (Value.ref 142) _ _) _ _ _); k_dflt (refine' with_sticky_c ?k1q114 ?k2q114 ?k3q114 ?k4q114 ?k5q114 ?kKq114 ?kdq114 ?kuq114   ?_; (case k1q114 => k_asm); (case k2q114 => k_asm); (case k3q114 => k_asm); (case k4q114 => k_asm); (case k5q114 => k_asm); (case kKq114 => first | exact rfl | assumption); (case kdq114 => ktr_room); (case kuq114 => ktr_units); k_whole); intro z9 t9 h9 tk9 e9 F9 N9; (try k_sweep); (try dsimp only); (try k_fold); skip))
  k_with "call ref" => ((k_here; (with_reducible show wpAny _ _ (call (Value.ref 128) _ _) _ _ _); k_dflt (refine' nearest_shift_c ?k1q115 ?k2q115 ?k3q115 ?k4q115 ?k5q115 ?kKq115 ?kdq115 ?kuq115  ?p0q115 ?p1q115 ?_; (case k1q115 => k_asm); (case k2q115 => k_asm); (case k3q115 => k_asm); (case k4q115 => k_asm); (case k5q115 => k_asm); (case kKq115 => first | exact rfl | assumption); (case kdq115 => ktr_room); (case kuq115 => ktr_units); (case p0q115 => first | with_reducible assumption | omega); (case p1q115 => first | with_reducible assumption | omega); k_whole); intro z9 t9 h9 tk9 e9 F9 N9; (try k_sweep); (try dsimp only); (try k_fold); skip))
  k_with "call ref" => ((k_here; (with_reducible show wpAny _ _ (call (Value.ref 198) _ _) _ _ _); k_dflt (refine' more_of_c ?k1q116 ?k2q116 ?k3q116 ?k4q116 ?k5q116 ?kKq116 ?kdq116 ?kuq116 ?m0q116 ?m1q116  ?_; (case k1q116 => k_asm); (case k2q116 => k_asm); (case k3q116 => k_asm); (case k4q116 => k_asm); (case k5q116 => k_asm); (case kKq116 => first | exact rfl | assumption); (case kdq116 => ktr_room); (case kuq116 => ktr_units); (case m0q116 => k_mem); (case m1q116 => k_mem); k_whole); intro r9 z9 y9 t9 u9 h9 tk9 e9 f9 F9 N9; (try k_sweep); (try dsimp only); (try k_fold); skip))
  k_with "call ref" => ((k_here; (with_reducible show wpAny _ _ (call (Value.ref 205) _ _) _ _ _); k_dflt (refine' less_of_c ?k1q117 ?k2q117 ?k3q117 ?k4q117 ?k5q117 ?kKq117 ?kdq117 ?kuq117 ?m0q117 ?m1q117  ?_; (case k1q117 => k_asm); (case k2q117 => k_asm); (case k3q117 => k_asm); (case k4q117 => k_asm); (case k5q117 => k_asm); (case kKq117 => first | exact rfl | assumption); (case kdq117 => ktr_room); (case kuq117 => ktr_units); (case m0q117 => k_mem); (case m1q117 => k_mem); k_whole); intro r9 z9 y9 t9 u9 h9 tk9 e9 f9 F9 N9; (try k_sweep); (try dsimp only); (try k_fold); skip))
  k_with "call ref" => ((k_here; (with_reducible show wpAny _ _ (call (Value.ref 212) _ _) _ _ _); k_dflt (refine' often_c ?k1q118 ?k2q118 ?k3q118 ?k4q118 ?k5q118 ?kKq118 ?kdq118 ?kuq118 ?m0q118 ?p0q118 ?p1q118 ?_; (case k1q118 => k_asm); (case k2q118 => k_asm); (case k3q118 => k_asm); (case k4q118 => k_asm); (case k5q118 => k_asm); (case kKq118 => first | exact rfl | assumption); (case kdq118 => ktr_room); (case kuq118 => ktr_units); (case m0q118 => k_mem); (case p0q118 => mul_fits); (case p1q118 => mul_fits); k_whole); intro r9 z9 y9 t9 u9 h9 tk9 e9 f9 F9 N9; (try k_sweep); (try dsimp only); (try k_fold); skip))
  k_with "call ref" => ((k_here; (with_reducible show wpAny _ _ (call (Value.ref 233) _ _) _ _ _); k_dflt (refine' widened_c ?k1q119 ?k2q119 ?k3q119 ?k4q119 ?k5q119 ?kKq119 ?kdq119 ?kuq119 ?m0q119  ?_; (case k1q119 => k_asm); (case k2q119 => k_asm); (case k3q119 => k_asm); (case k4q119 => k_asm); (case k5q119 => k_asm); (case kKq119 => first | exact rfl | assumption); (case kdq119 => ktr_room); (case kuq119 => ktr_units); (case m0q119 => k_mem); k_whole); intro r9 z9 y9 t9 u9 h9 tk9 e9 f9 F9 N9; (try k_sweep); (try dsimp only); (try k_fold); skip))
  k_with "call ref" => ((k_here; (with_reducible show wpAny _ _ (call (Value.ref 240) _ _) _ _ _); k_dflt (refine' greatest_of_c ?k1q120 ?k2q120 ?k3q120 ?k4q120 ?k5q120 ?kKq120 ?kdq120 ?kuq120 ?m0q120  ?_; (case k1q120 => k_asm); (case k2q120 => k_asm); (case k3q120 => k_asm); (case k4q120 => k_asm); (case k5q120 => k_asm); (case kKq120 => first | exact rfl | assumption); (case kdq120 => ktr_room); (case kuq120 => ktr_units); (case m0q120 => k_mem); k_whole); intro z9 t9 h9 tk9 e9 F9 N9; (try k_sweep); (try dsimp only); (try k_fold); skip))
  k_with "call ref" => ((k_here; (with_reducible show wpAny _ _ (call (Value.ref 226) _ _) _ _ _); k_dflt (refine' part_of_c ?k1q121 ?k2q121 ?k3q121 ?k4q121 ?k5q121 ?kKq121 ?kdq121 ?kuq121 ?m0q121 ?p0q121 ?p1q121 ?_; (case k1q121 => k_asm); (case k2q121 => k_asm); (case k3q121 => k_asm); (case k4q121 => k_asm); (case k5q121 => k_asm); (case kKq121 => first | exact rfl | assumption); (case kdq121 => ktr_room); (case kuq121 => ktr_units); (case m0q121 => k_mem); (case p0q121 => first | with_reducible assumption | omega); (case p1q121 => ktr_rel); k_whole); intro r9 z9 y9 t9 u9 h9 tk9 e9 f9 F9 N9; (try k_sweep); (try dsimp only); (try k_fold); skip))
  k_with "call ref" => ((k_here; (with_reducible show wpAny _ _ (call (Value.ref 219) _ _) _ _ _); k_dflt (refine' product_of_c ?k1q122 ?k2q122 ?k3q122 ?k4q122 ?k5q122 ?kKq122 ?kdq122 ?kuq122 ?m0q122 ?m1q122 ?p0q122 ?p1q122 ?p2q122 ?p3q122 ?p4q122 ?_; (case k1q122 => k_asm); (case k2q122 => k_asm); (case k3q122 => k_asm); (case k4q122 => k_asm); (case k5q122 => k_asm); (case kKq122 => first | exact rfl | assumption); (case kdq122 => ktr_room); (case kuq122 => ktr_units); (case m0q122 => k_mem); (case m1q122 => k_mem); (case p0q122 => first | with_reducible assumption | omega); (case p1q122 => ktr_rel); (case p2q122 => ktr_rel); (case p3q122 => ktr_rel); (case p4q122 => ktr_rel); k_whole); intro r9 z9 y9 t9 u9 h9 tk9 e9 f9 F9 N9; (try k_sweep); (try dsimp only); (try k_fold); skip))
  k_with "call ref" => ((k_here; (with_reducible show wpAny _ _ (call (Value.ref 191) _ _) _ _ _); k_dflt (refine' fraction_bounds_c ?k1q123 ?k2q123 ?k3q123 ?k4q123 ?k5q123 ?kKq123 ?kdq123 ?kuq123  ?p0q123 ?p1q123 ?p2q123 ?p3q123 ?p4q123 ?_; (case k1q123 => k_asm); (case k2q123 => k_asm); (case k3q123 => k_asm); (case k4q123 => k_asm); (case k5q123 => k_asm); (case kKq123 => first | exact rfl | assumption); (case kdq123 => ktr_room); (case kuq123 => ktr_units); (case p0q123 => first | with_reducible assumption | omega); (case p1q123 => first | with_reducible assumption | omega); (case p2q123 => ktr_rel); (case p3q123 => first | with_reducible assumption | omega); (case p4q123 => ktr_rel); k_whole); intro r9 z9 y9 t9 u9 h9 tk9 e9 f9 F9 N9; (try k_sweep); (try dsimp only); (try k_fold); skip))
  k_with "call ref" => ((k_here; (with_reducible show wpAny _ _ (call (Value.ref 89) _ _) _ _ _); k_dflt (refine' real_c ?k1q124 ?k2q124 ?k3q124 ?k4q124 ?k5q124 ?kKq124 ?kdq124 ?kuq124   ?_; (case k1q124 => k_asm); (case k2q124 => k_asm); (case k3q124 => k_asm); (case k4q124 => k_asm); (case k5q124 => k_asm); (case kKq124 => first | exact rfl | assumption); (case kdq124 => ktr_room); (case kuq124 => ktr_units); k_whole); intro r9 d9 z9 y9 j9 t9 i9 u9 h9 tk9 e9 f9 F9 N9; (try k_sweep); (try dsimp only); (try k_fold); skip))
  k_with "call ref" => ((k_here; (with_reducible show wpAny _ _ (call (Value.ref 156) _ _) _ _ _); k_dflt (refine' place_of_c ?k1q125 ?k2q125 ?k3q125 ?k4q125 ?k5q125 ?kKq125 ?kdq125 ?kuq125 ?m0q125 ?m1q125  ?_; (case k1q125 => k_asm); (case k2q125 => k_asm); (case k3q125 => k_asm); (case k4q125 => k_asm); (case k5q125 => k_asm); (case kKq125 => first | exact rfl | assumption); (case kdq125 => ktr_room); (case kuq125 => ktr_units); (case m0q125 => k_mem); (case m1q125 => k_mem); k_whole); intro z9 t9 h9 tk9 e9 F9 N9; (try k_sweep); (try dsimp only); (try k_fold); skip))
  k_with "call ref" => ((k_here; (with_reducible show wpAny _ _ (call (Value.ref 163) _ _) _ _ _); k_dflt (refine' sign_of_c ?k1q126 ?k2q126 ?k3q126 ?k4q126 ?k5q126 ?kKq126 ?kdq126 ?kuq126 ?m0q126 ?m1q126  ?_; (case k1q126 => k_asm); (case k2q126 => k_asm); (case k3q126 => k_asm); (case k4q126 => k_asm); (case k5q126 => k_asm); (case kKq126 => first | exact rfl | assumption); (case kdq126 => ktr_room); (case kuq126 => ktr_units); (case m0q126 => k_mem); (case m1q126 => k_mem); k_whole); intro z9 t9 h9 tk9 e9 F9 N9; (try k_sweep); (try dsimp only); (try k_fold); skip))
  k_with "call ref" => ((k_here; (with_reducible show wpAny _ _ (call (Value.ref 170) _ _) _ _ _); k_dflt (refine' same_real_c ?k1q127 ?k2q127 ?k3q127 ?k4q127 ?k5q127 ?kKq127 ?kdq127 ?kuq127 ?m0q127 ?m1q127 ?m2q127 ?m3q127  ?_; (case k1q127 => k_asm); (case k2q127 => k_asm); (case k3q127 => k_asm); (case k4q127 => k_asm); (case k5q127 => k_asm); (case kKq127 => first | exact rfl | assumption); (case kdq127 => ktr_room); (case kuq127 => ktr_units); (case m0q127 => k_mem); (case m1q127 => k_mem); (case m2q127 => k_mem); (case m3q127 => k_mem); k_whole); intro h9 tk9 F9 N9; (try k_sweep); (try dsimp only); (try k_fold); skip))
  k_with "call ref" => ((k_here; (with_reducible show wpAny _ _ (call (Value.ref 247) _ _) _ _ _); k_dflt (refine' fraction_of_c ?k1q128 ?k2q128 ?k3q128 ?k4q128 ?k5q128 ?kKq128 ?kdq128 ?kuq128 ?m0q128 ?m1q128 ?p0q128 ?p1q128 ?p2q128 ?_; (case k1q128 => k_asm); (case k2q128 => k_asm); (case k3q128 => k_asm); (case k4q128 => k_asm); (case k5q128 => k_asm); (case kKq128 => first | exact rfl | assumption); (case kdq128 => ktr_room); (case kuq128 => ktr_units); (case m0q128 => k_mem); (case m1q128 => k_mem); (case p0q128 => ktr_rel); (case p1q128 => first | with_reducible assumption | omega); (case p2q128 => first | with_reducible assumption | omega); k_whole); intro r9 z9 y9 t9 u9 h9 tk9 e9 f9 F9 N9; (try k_sweep); (try dsimp only); (try k_fold); skip))
  trivial
section
variable {w : World} {loose : List Str} {mean : ExcName → Option Value} {mg mb : Str → Option Value}
  {dp un : Nat} {gd : Option (List Code)} {cn : Str} {cs : Scope} {a : Addr} {ccd : Value} {cl : List (Str × Addr)} {outer : List Env} {A₀ : Around} {base h₀ : Heap} {L : Addr} {m : Str → Option Value} {news : List (Addr × Obj)} {s : Shared} {Q E : Value → Shared → Prop}

theorem lean_c {x y : Int} {t1 t2 : Tok} {v : Int × Int}
  (B : Below A₀ base outer h₀) (F : Fr h₀ L s.heap m) (X : (hd.heap_1 w.params).In h₀) (N : News h₀ L s.heap (news)) (T : Top topProg loose mean mg mb h₀) (hk : cs.kind = .function)
  (hdp : dp + 9 < recursionLimit) (hun : un + 120 < cLine)
   (hv : leanF x y = some v)
  (hret : ∀ r d z1 z2 j u1 k u2 h' tk', z1 = (v).1 → z2 = (v).2 → Fr h₀ L h' m → News h₀ L h' ((r, instObj (nat_lit 89) d) :: (d, realO w j z1 u1 k z2 u2) :: news) → Q (.ref r) { s with heap := h', toks := tk' }) :
  wpAny (model Challenge.rw_nt0168_01.row.prog w) (ktrTop dp un gd cn cs L a ccd cl outer) (call (.ref 121) [.int x t1, .int y t2]) Q E s := by
  have hn : leanF x y ≠ none := by rw [hv]; exact nofun
  by_cases hx : x = 0
  · subst hx
    have hv1 := Option.some.inj (hv.symm.trans leanF_zero)
    refine wpAny_call ?_
    k_dflt ktr_enter
    k_steps
    all_goals (refine retR hret (by assumption) (by k_asm) (by k_mem) (by k_mem) (by first | ((repeat (first | exact sub_refl | refine sub_cons ?_)); done) | (intro p hp; first | exact hp | (repeat (first | exact hp | refine List.mem_cons_of_mem _ ?_)))) ?_)
    all_goals ((try law_clear); subst_vars; rfl)
  · obtain ⟨hp1, hp2, hp3⟩ := leanF_parts hn hx
    have hv1 := Option.some.inj (hv.symm.trans hp3)
    refine wpAny_call ?_
    k_dflt ktr_enter
    k_steps
    · exfalso; subst_vars; exact absurd ‹(65536 : Int) < _› (Int.not_lt.mpr hp1)
    all_goals (refine retR hret (by assumption) (by k_asm) (by k_mem) (by k_mem) (by first | ((repeat (first | exact sub_refl | refine sub_cons ?_)); done) | (intro p hp; first | exact hp | (repeat (first | exact hp | refine List.mem_cons_of_mem _ ?_)))) ?_)
    all_goals (rw [hv1, p2_eq]; (try law_clear); subst_vars; rfl)
theorem reg_33 : True := by
  k_with "call ref" => ((k_here; (with_reducible show wpAny _ _ (call (Value.ref 121) _ _) _ _ _); k_dflt (refine' lean_c ?k1q129 ?k2q129 ?k3q129 ?k4q129 ?k5q129 ?kKq129 ?kdq129 ?kuq129  ?p0q129 ?_; (case k1q129 => k_asm); (case k2q129 => k_asm); (case k3q129 => k_asm); (case k4q129 => k_asm); (case k5q129 => k_asm); (case kKq129 => first | exact rfl | assumption); (case kdq129 => ktr_room); (case kuq129 => ktr_units); (case p0q129 => first | with_reducible assumption | k_dflt (have hq := (‹leanF _ _ = some _›); refine Eq.trans ?_ hq; law_clear; subst_vars; exact rfl) | kwd_less); k_whole); intro r9 d9 z9 y9 j9 t9 i9 u9 h9 tk9 e9 f9 F9 N9; (try k_sweep); (try dsimp only); (try k_fold); skip))
  trivial
theorem shifted_round_c {p x y : Int} {t1 t2 t3 : Tok} {v : Int × Int}
  (B : Below A₀ base outer h₀) (F : Fr h₀ L s.heap m) (X : (hd.heap_1 w.params).In h₀) (N : News h₀ L s.heap (news)) (T : Top topProg loose mean mg mb h₀) (hk : cs.kind = .function)
  (hdp : dp + 12 < recursionLimit) (hun : un + 160 < cLine)
   (hv : shiftedF p x y = some v)
  (hret : ∀ r d z1 z2 j u1 k u2 h' tk', z1 = (v).1 → z2 = (v).2 → Fr h₀ L h' m → News h₀ L h' ((r, instObj (nat_lit 89) d) :: (d, realO w j z1 u1 k z2 u2) :: news) → Q (.ref r) { s with heap := h', toks := tk' }) :
  wpAny (model Challenge.rw_nt0168_01.row.prog w) (ktrTop dp un gd cn cs L a ccd cl outer) (call (.ref 135) [.int p t3, .int x t1, .int y t2]) Q E s := by
  have hn : shiftedF p x y ≠ none := by rw [hv]; exact nofun
  by_cases hx : szI x - p ≤ 0
  · rw [shiftedF_lean (e := y) hx] at hv
    refine wpAny_call ?_
    k_dflt ktr_enter
    k_steps
    all_goals (refine retR hret (by assumption) (by k_asm) (by k_mem) (by k_mem) (by first | ((repeat (first | exact sub_refl | refine sub_cons ?_)); done) | (intro p hp; first | exact hp | (repeat (first | exact hp | refine List.mem_cons_of_mem _ ?_)))) ?_)
    all_goals ((try law_clear); subst_vars; rfl)
  · obtain ⟨hp1, hs1, hv1⟩ := shiftedF_parts hn hx
    rw [hv1] at hv
    refine wpAny_call ?_
    k_dflt ktr_enter
    k_steps
    all_goals (refine retR hret (by assumption) (by k_asm) (by k_mem) (by k_mem) (by first | ((repeat (first | exact sub_refl | refine sub_cons ?_)); done) | (intro p hp; first | exact hp | (repeat (first | exact hp | refine List.mem_cons_of_mem _ ?_)))) ?_)
    all_goals ((try law_clear); subst_vars; rfl)
theorem reg_34 : True := by
  k_with "call ref" => ((k_here; (with_reducible show wpAny _ _ (call (Value.ref 135) _ _) _ _ _); k_dflt (refine' shifted_round_c ?k1q130 ?k2q130 ?k3q130 ?k4q130 ?k5q130 ?kKq130 ?kdq130 ?kuq130  ?p0q130 ?_; (case k1q130 => k_asm); (case k2q130 => k_asm); (case k3q130 => k_asm); (case k4q130 => k_asm); (case k5q130 => k_asm); (case kKq130 => first | exact rfl | assumption); (case kdq130 => ktr_room); (case kuq130 => ktr_units); (case p0q130 => first | with_reducible assumption | k_dflt (have hq := (‹shiftedF _ _ _ = some _›); refine Eq.trans ?_ hq; law_clear; subst_vars; exact rfl) | kwd_less); k_whole); intro r9 d9 z9 y9 j9 t9 i9 u9 h9 tk9 e9 f9 F9 N9; (try k_sweep); (try dsimp only); (try k_fold); skip))
  trivial
theorem rounded_c {p x b : Int} {t1 t2 t3 : Tok} {v : Int × Int}
  (B : Below A₀ base outer h₀) (F : Fr h₀ L s.heap m) (X : (hd.heap_1 w.params).In h₀) (N : News h₀ L s.heap (news)) (T : Top topProg loose mean mg mb h₀) (hk : cs.kind = .function)
  (hdp : dp + 15 < recursionLimit) (hun : un + 200 < cLine)
   (hv : roundF p x b = some v)
  (hret : ∀ r d z1 z2 j u1 k u2 h' tk', z1 = (v).1 → z2 = (v).2 → Fr h₀ L h' m → News h₀ L h' ((r, instObj (nat_lit 89) d) :: (d, realO w j z1 u1 k z2 u2) :: news) → Q (.ref r) { s with heap := h', toks := tk' }) :
  wpAny (model Challenge.rw_nt0168_01.row.prog w) (ktrTop dp un gd cn cs L a ccd cl outer) (call (.ref 149) [.int p t3, .int x t1, .int b t2]) Q E s := by
  have hn : roundF p x b ≠ none := by rw [hv]; exact nofun
  by_cases hx : x = 0
  · subst hx
    have hv1 := Option.some.inj (hv.symm.trans roundF_zero)
    refine wpAny_call ?_
    k_dflt ktr_enter
    k_steps
    all_goals (refine retR hret (by assumption) (by k_asm) (by k_mem) (by k_mem) (by first | ((repeat (first | exact sub_refl | refine sub_cons ?_)); done) | (intro p hp; first | exact hp | (repeat (first | exact hp | refine List.mem_cons_of_mem _ ?_)))) ?_)
    all_goals ((try law_clear); subst_vars; rfl)
  · obtain ⟨hb, hs1, hs2, hp1, hp2, ⟨hp3, hs3, hv1⟩ | ⟨hp3, hs3, hs4, hv1⟩⟩ := roundF_parts hn hx
    · rw [hv1] at hv
      simp only [p2_eq] at hs3 hv
      refine wpAny_call ?_
      k_dflt ktr_enter
      k_steps
      all_goals (refine retR hret (by assumption) (by k_asm) (by k_mem) (by k_mem) (by first | ((repeat (first | exact sub_refl | refine sub_cons ?_)); done) | (intro p hp; first | exact hp | (repeat (first | exact hp | refine List.mem_cons_of_mem _ ?_)))) ?_)
      all_goals ((try law_clear); subst_vars; rfl)
    · rw [hv1] at hv
      simp only [p2_eq] at hs3 hs4 hv
      refine wpAny_call ?_
      k_dflt ktr_enter
      k_steps
      all_goals (refine retR hret (by assumption) (by k_asm) (by k_mem) (by k_mem) (by first | ((repeat (first | exact sub_refl | refine sub_cons ?_)); done) | (intro p hp; first | exact hp | (repeat (first | exact hp | refine List.mem_cons_of_mem _ ?_)))) ?_)
      all_goals ((try law_clear); subst_vars; rfl)
theorem reg_35 : True := by
  k_with "call ref" => ((k_here; (with_reducible show wpAny _ _ (call (Value.ref 149) _ _) _ _ _); k_dflt (refine' rounded_c ?k1q131 ?k2q131 ?k3q131 ?k4q131 ?k5q131 ?kKq131 ?kdq131 ?kuq131  ?p0q131 ?_; (case k1q131 => k_asm); (case k2q131 => k_asm); (case k3q131 => k_asm); (case k4q131 => k_asm); (case k5q131 => k_asm); (case kKq131 => first | exact rfl | assumption); (case kdq131 => ktr_room); (case kuq131 => ktr_units); (case p0q131 => first | with_reducible assumption | k_dflt (refine ev3 rfl (by first | with_reducible assumption | exact rfl) (by first | with_reducible assumption | exact rfl) (by assumption)) | kwd_less); k_whole); intro r9 d9 z9 y9 j9 t9 i9 u9 h9 tk9 e9 f9 F9 N9; (try k_sweep); (try dsimp only); (try k_fold); skip))
  trivial
end
end
section
open PySem PySem.W PySem.Spec PySem.Calls PyProof.Rows
set_option Elab.async false
set_option maxRecDepth 100000
set_option maxHeartbeats 0
theorem reg_36 : True := by
  k_with_none
  k_with "lt9" => (first | with_reducible assumption | (refine ltc (by with_reducible assumption) ?_; first | exact pj1 | exact pj2 | exact pj3 | exact pj4 | exact pj5 | exact pj6 | exact pj7 | exact pj8 | exact pj9 | exact pj10 | exact pj11 | exact pj12 | exact pj13 | exact pj14 | exact qj1 | exact qj2 | exact qj3 | exact qj4 | exact qj5 | exact qj6 | exact qj7 | exact qj8 | exact qj9 | exact qj10 | exact qj11 | exact qj12 | exact qj13 | exact qj14))
  k_with "ne9" => (first | decide | (refine Nat.ne_of_lt ?_; walk_at "lt9") | (refine Nat.ne_of_gt ?_; walk_at "lt9") | exact Nat.ne_of_lt (Nat.lt_succ_self _) | exact Nat.ne_of_gt (Nat.lt_succ_self _) | (refine ne_up1 ?_; walk_at "lt9") | (refine ne_up2 ?_; walk_at "lt9") | (refine Ne.symm (ne_up1 ?_); walk_at "lt9") | (refine Ne.symm (ne_up2 ?_); walk_at "lt9"))
  trivial
-- Sm facts
theorem reg_37 : True := by
  k_with "binaryOp FloorDiv int int" => ((k_here; (with_reducible refine floordiv_int ?feq134 ?_ (Or.inl (Sm.py ?fpq134))); (case feq134 => first | decide | omega | assumption); (case fpq134 => ktr_rel)))
  k_with "binaryOp LShift int int" => ((k_here; (with_reducible refine lshift_int ?feq135 ?fpq135 ?_); (case feq135 => omega); (case fpq135 => exact Sm.shl (by ktr_rel) (by omega))))
  k_with "ite" => ((k_here; k_openite; k_spoken; first
  | (refine ite_pos (by ((try simp only [beq_iff_eq, bne_iff_ne, ne_eq, Bool.not_eq_true', beq_eq_false_iff_ne]); (try law_clear); (try subst_vars); first | assumption | exact decide_eq_true rfl | exact Int.not_le.mp (by assumption) | exact Int.not_lt.mp (by assumption) | (law_clear; omega))) ?_; walk_say "PRUNED own")
  | (refine ite_neg (by ((try simp only [beq_iff_eq, bne_iff_ne, ne_eq, Bool.not_eq_true', beq_eq_false_iff_ne]); (try law_clear); (try subst_vars); first | assumption | exact Int.not_le.mpr (by assumption) | exact Int.not_lt.mpr (by assumption) | (law_clear; omega))) ?_; walk_say "PRUNED own")))
  k_with "subscriptTail" => ((k_here; (with_reducible show wpAny _ _ (subscriptTail _ _ (Value.ref _) (Value.int _ _)) _ _ _); k_dflt (refine' item_tupleT ?tq137 ?aq137 ?bq137 ?cq137 ?dq137 ?_; (case tq137 => exact News.isTup (by k_asm) (by k_mem)); (case aq137 => decide); (case bq137 => decide); (case cq137 => rfl); (case dq137 => rfl); k_whole)))
  k_with "subscriptTail Name Constant ref int" => ((k_here; (with_reducible show wpAny _ _ (subscriptTail _ _ (Value.ref _) (Value.int _ _)) _ _ _); k_dflt (refine' item_tupleT ?tq138 ?aq138 ?bq138 ?cq138 ?dq138 ?_; (case tq138 => exact News.isTup (by k_asm) (by k_mem)); (case aq138 => decide); (case bq138 => decide); (case cq138 => rfl); (case dq138 => rfl); k_whole)))
  k_with "callWith ref" => ((k_here; k_dflt (refine' callWith_K ?k1q139 ?k2q139 ?_; (case k1q139 => k_asm); (case k2q139 => k_is); k_whole)))
  k_with "call builtin:divmod" => ((k_here; (with_reducible show wpAny _ _ (call (Value.builtin _) [Value.int _ _, Value.int _ _]) _ _ _); k_dflt (refine' divmod_N ?k1q140 ?k2q140 ?feq140 ?_ (Or.inl (Sm.py ?fpq140)); (case k1q140 => k_asm); (case k2q140 => k_asm); (case feq140 => first | omega | exact Int.ne_of_gt (Int.mul_pos (by omega) (pow2_pos _))); (case fpq140 => ktr_rel)); intro h' F' N'; (try k_sweep)))
  k_with "call builtin:max" => ((k_here; (with_reducible show wpAny _ _ (call (Value.builtin _) [Value.ref _]) _ _ _); k_dflt (first
  | (refine' max_tup ?k0q141 ?k1q141 ?k2q141 ?k3q141 ?_; (case k0q141 => exact rfl); (case k1q141 => k_asm); (case k2q141 => k_asm); (case k3q141 => exact News.isTup (by k_asm) (by k_mem)))
  | (refine' max_list4 ?k0q141 ?k1q141 ?k2q141 ?k3q141 ?_; (case k0q141 => exact rfl); (case k1q141 => k_asm); (case k2q141 => k_asm); (case k3q141 => exact News.isList (by k_asm) (by k_mem)))); k_whole; intro h' r' tk' F' N'; (try k_sweep)))
  k_with "call builtin:min" => ((k_here; (with_reducible show wpAny _ _ (call (Value.builtin _) [Value.ref _]) _ _ _); k_dflt (first
  | (refine' min_tup ?k0q142 ?k1q142 ?k2q142 ?k3q142 ?_; (case k0q142 => exact rfl); (case k1q142 => k_asm); (case k2q142 => k_asm); (case k3q142 => exact News.isTup (by k_asm) (by k_mem)))
  | (refine' min_list4 ?k0q142 ?k1q142 ?k2q142 ?k3q142 ?_; (case k0q142 => exact rfl); (case k1q142 => k_asm); (case k2q142 => k_asm); (case k3q142 => exact News.isList (by k_asm) (by k_mem)))); k_whole; intro h' r' tk' F' N'; (try k_sweep)))
  k_with "call ref" => ((k_here; (with_reducible show wpAny _ _ (call (Value.ref 100) _ _) _ _ _); k_dflt (refine' size_of_c ?k1q143 ?k2q143 ?k3q143 ?k4q143 ?k5q143 ?kKq143 ?kdq143 ?kuq143   ?_; (case k1q143 => k_asm); (case k2q143 => k_asm); (case k3q143 => k_asm); (case k4q143 => k_asm); (case k5q143 => k_asm); (case kKq143 => first | exact rfl | assumption); (case kdq143 => ktr_room); (case kuq143 => ktr_units); k_whole); intro z9 t9 h9 tk9 e9 F9 N9; (try k_sweep); (try dsimp only); (try k_fold); skip))
  k_with "call ref" => ((k_here; (with_reducible show wpAny _ _ (call (Value.ref 107) _ _) _ _ _); k_dflt (refine' sign_of_whole_c ?k1q144 ?k2q144 ?k3q144 ?k4q144 ?k5q144 ?kKq144 ?kdq144 ?kuq144   ?_; (case k1q144 => k_asm); (case k2q144 => k_asm); (case k3q144 => k_asm); (case k4q144 => k_asm); (case k5q144 => k_asm); (case kKq144 => first | exact rfl | assumption); (case kdq144 => ktr_room); (case kuq144 => ktr_units); k_whole); intro z9 t9 h9 tk9 e9 F9 N9; (try k_sweep); (try dsimp only); (try k_fold); skip))
  k_with "call ref" => ((k_here; (with_reducible show wpAny _ _ (call (Value.ref 114) _ _) _ _ _); k_dflt (refine' zeros_below_c ?k1q145 ?k2q145 ?k3q145 ?k4q145 ?k5q145 ?kKq145 ?kdq145 ?kuq145   ?_; (case k1q145 => k_asm); (case k2q145 => k_asm); (case k3q145 => k_asm); (case k4q145 => k_asm); (case k5q145 => k_asm); (case kKq145 => first | exact rfl | assumption); (case kdq145 => ktr_room); (case kuq145 => ktr_units); k_whole); intro z9 t9 h9 tk9 e9 F9 N9; (try k_sweep); (try dsimp only); (try k_fold); skip))
  k_with "call ref" => ((k_here; (with_reducible show wpAny _ _ (call (Value.ref 177) _ _) _ _ _); k_dflt (refine' up_shift_c ?k1q146 ?k2q146 ?k3q146 ?k4q146 ?k5q146 ?kKq146 ?kdq146 ?kuq146  ?p0q146 ?_; (case k1q146 => k_asm); (case k2q146 => k_asm); (case k3q146 => k_asm); (case k4q146 => k_asm); (case k5q146 => k_asm); (case kKq146 => first | exact rfl | assumption); (case kdq146 => ktr_room); (case kuq146 => ktr_units); (case p0q146 => first | with_reducible assumption | omega); k_whole); intro z9 t9 h9 tk9 e9 F9 N9; (try k_sweep); (try dsimp only); (try k_fold); skip))
  k_with "call ref" => ((k_here; (with_reducible show wpAny _ _ (call (Value.ref 184) _ _) _ _ _); k_dflt (refine' up_over_c ?k1q147 ?k2q147 ?k3q147 ?k4q147 ?k5q147 ?kKq147 ?kdq147 ?kuq147  ?p0q147 ?p1q147 ?_; (case k1q147 => k_asm); (case k2q147 => k_asm); (case k3q147 => k_asm); (case k4q147 => k_asm); (case k5q147 => k_asm); (case kKq147 => first | exact rfl | assumption); (case kdq147 => ktr_room); (case kuq147 => ktr_units); (case p0q147 => first | with_reducible assumption | omega); (case p1q147 => ktr_rel); k_whole); intro z9 t9 h9 tk9 e9 F9 N9; (try k_sweep); (try dsimp only); (try k_fold); skip))
  k_with "call ref" => ((k_here; (with_reducible show wpAny _ _ (call (Value.ref 142) _ _) _ _ _); k_dflt (refine' with_sticky_c ?k1q148 ?k2q148 ?k3q148 ?k4q148 ?k5q148 ?kKq148 ?kdq148 ?kuq148   ?_; (case k1q148 => k_asm); (case k2q148 => k_asm); (case k3q148 => k_asm); (case k4q148 => k_asm); (case k5q148 => k_asm); (case kKq148 => first | exact rfl | assumption); (case kdq148 => ktr_room); (case kuq148 => ktr_units); k_whole); intro z9 t9 h9 tk9 e9 F9 N9; (try k_sweep); (try dsimp only); (try k_fold); skip))
  k_with "call ref" => ((k_here; (with_reducible show wpAny _ _ (call (Value.ref 128) _ _) _ _ _); k_dflt (refine' nearest_shift_c ?k1q149 ?k2q149 ?k3q149 ?k4q149 ?k5q149 ?kKq149 ?kdq149 ?kuq149  ?p0q149 ?p1q149 ?_; (case k1q149 => k_asm); (case k2q149 => k_asm); (case k3q149 => k_asm); (case k4q149 => k_asm); (case k5q149 => k_asm); (case kKq149 => first | exact rfl | assumption); (case kdq149 => ktr_room); (case kuq149 => ktr_units); (case p0q149 => first | with_reducible assumption | omega); (case p1q149 => first | with_reducible assumption | omega); k_whole); intro z9 t9 h9 tk9 e9 F9 N9; (try k_sweep); (try dsimp only); (try k_fold); skip))
  k_with "call ref" => ((k_here; (with_reducible show wpAny _ _ (call (Value.ref 198) _ _) _ _ _); k_dflt (refine' more_of_c ?k1q150 ?k2q150 ?k3q150 ?k4q150 ?k5q150 ?kKq150 ?kdq150 ?kuq150 ?m0q150 ?m1q150  ?_; (case k1q150 => k_asm); (case k2q150 => k_asm); (case k3q150 => k_asm); (case k4q150 => k_asm); (case k5q150 => k_asm); (case kKq150 => first | exact rfl | assumption); (case kdq150 => ktr_room); (case kuq150 => ktr_units); (case m0q150 => k_mem); (case m1q150 => k_mem); k_whole); intro r9 z9 y9 t9 u9 h9 tk9 e9 f9 F9 N9; (try k_sweep); (try dsimp only); (try k_fold); skip))
  k_with "call ref" => ((k_here; (with_reducible show wpAny _ _ (call (Value.ref 205) _ _) _ _ _); k_dflt (refine' less_of_c ?k1q151 ?k2q151 ?k3q151 ?k4q151 ?k5q151 ?kKq151 ?kdq151 ?kuq151 ?m0q151 ?m1q151  ?_; (case k1q151 => k_asm); (case k2q151 => k_asm); (case k3q151 => k_asm); (case k4q151 => k_asm); (case k5q151 => k_asm); (case kKq151 => first | exact rfl | assumption); (case kdq151 => ktr_room); (case kuq151 => ktr_units); (case m0q151 => k_mem); (case m1q151 => k_mem); k_whole); intro r9 z9 y9 t9 u9 h9 tk9 e9 f9 F9 N9; (try k_sweep); (try dsimp only); (try k_fold); skip))
  k_with "call ref" => ((k_here; (with_reducible show wpAny _ _ (call (Value.ref 212) _ _) _ _ _); k_dflt (refine' often_c ?k1q152 ?k2q152 ?k3q152 ?k4q152 ?k5q152 ?kKq152 ?kdq152 ?kuq152 ?m0q152 ?p0q152 ?p1q152 ?_; (case k1q152 => k_asm); (case k2q152 => k_asm); (case k3q152 => k_asm); (case k4q152 => k_asm); (case k5q152 => k_asm); (case kKq152 => first | exact rfl | assumption); (case kdq152 => ktr_room); (case kuq152 => ktr_units); (case m0q152 => k_mem); (case p0q152 => mul_fits); (case p1q152 => mul_fits); k_whole); intro r9 z9 y9 t9 u9 h9 tk9 e9 f9 F9 N9; (try k_sweep); (try dsimp only); (try k_fold); skip))
  k_with "call ref" => ((k_here; (with_reducible show wpAny _ _ (call (Value.ref 233) _ _) _ _ _); k_dflt (refine' widened_c ?k1q153 ?k2q153 ?k3q153 ?k4q153 ?k5q153 ?kKq153 ?kdq153 ?kuq153 ?m0q153  ?_; (case k1q153 => k_asm); (case k2q153 => k_asm); (case k3q153 => k_asm); (case k4q153 => k_asm); (case k5q153 => k_asm); (case kKq153 => first | exact rfl | assumption); (case kdq153 => ktr_room); (case kuq153 => ktr_units); (case m0q153 => k_mem); k_whole); intro r9 z9 y9 t9 u9 h9 tk9 e9 f9 F9 N9; (try k_sweep); (try dsimp only); (try k_fold); skip))
  k_with "call ref" => ((k_here; (with_reducible show wpAny _ _ (call (Value.ref 240) _ _) _ _ _); k_dflt (refine' greatest_of_c ?k1q154 ?k2q154 ?k3q154 ?k4q154 ?k5q154 ?kKq154 ?kdq154 ?kuq154 ?m0q154  ?_; (case k1q154 => k_asm); (case k2q154 => k_asm); (case k3q154 => k_asm); (case k4q154 => k_asm); (case k5q154 => k_asm); (case kKq154 => first | exact rfl | assumption); (case kdq154 => ktr_room); (case kuq154 => ktr_units); (case m0q154 => k_mem); k_whole); intro z9 t9 h9 tk9 e9 F9 N9; (try k_sweep); (try dsimp only); (try k_fold); skip))
  k_with "call ref" => ((k_here; (with_reducible show wpAny _ _ (call (Value.ref 226) _ _) _ _ _); k_dflt (refine' part_of_c ?k1q155 ?k2q155 ?k3q155 ?k4q155 ?k5q155 ?kKq155 ?kdq155 ?kuq155 ?m0q155 ?p0q155 ?p1q155 ?_; (case k1q155 => k_asm); (case k2q155 => k_asm); (case k3q155 => k_asm); (case k4q155 => k_asm); (case k5q155 => k_asm); (case kKq155 => first | exact rfl | assumption); (case kdq155 => ktr_room); (case kuq155 => ktr_units); (case m0q155 => k_mem); (case p0q155 => first | with_reducible assumption | omega); (case p1q155 => ktr_rel); k_whole); intro r9 z9 y9 t9 u9 h9 tk9 e9 f9 F9 N9; (try k_sweep); (try dsimp only); (try k_fold); skip))
  k_with "call ref" => ((k_here; (with_reducible show wpAny _ _ (call (Value.ref 219) _ _) _ _ _); k_dflt (refine' product_of_c ?k1q156 ?k2q156 ?k3q156 ?k4q156 ?k5q156 ?kKq156 ?kdq156 ?kuq156 ?m0q156 ?m1q156 ?p0q156 ?p1q156 ?p2q156 ?p3q156 ?p4q156 ?_; (case k1q156 => k_asm); (case k2q156 => k_asm); (case k3q156 => k_asm); (case k4q156 => k_asm); (case k5q156 => k_asm); (case kKq156 => first | exact rfl | assumption); (case kdq156 => ktr_room); (case kuq156 => ktr_units); (case m0q156 => k_mem); (case m1q156 => k_mem); (case p0q156 => first | with_reducible assumption | omega); (case p1q156 => ktr_rel); (case p2q156 => ktr_rel); (case p3q156 => ktr_rel); (case p4q156 => ktr_rel); k_whole); intro r9 z9 y9 t9 u9 h9 tk9 e9 f9 F9 N9; (try k_sweep); (try dsimp only); (try k_fold); skip))
  k_with "call ref" => ((k_here; (with_reducible show wpAny _ _ (call (Value.ref 191) _ _) _ _ _); k_dflt (refine' fraction_bounds_c ?k1q157 ?k2q157 ?k3q157 ?k4q157 ?k5q157 ?kKq157 ?kdq157 ?kuq157  ?p0q157 ?p1q157 ?p2q157 ?p3q157 ?p4q157 ?_; (case k1q157 => k_asm); (case k2q157 => k_asm); (case k3q157 => k_asm); (case k4q157 => k_asm); (case k5q157 => k_asm); (case kKq157 => first | exact rfl | assumption); (case kdq157 => ktr_room); (case kuq157 => ktr_units); (case p0q157 => first | with_reducible assumption | omega); (case p1q157 => first | with_reducible assumption | omega); (case p2q157 => ktr_rel); (case p3q157 => first | with_reducible assumption | omega); (case p4q157 => ktr_rel); k_whole); intro r9 z9 y9 t9 u9 h9 tk9 e9 f9 F9 N9; (try k_sweep); (try dsimp only); (try k_fold); skip))
  k_with "call ref" => ((k_here; (with_reducible show wpAny _ _ (call (Value.ref 89) _ _) _ _ _); k_dflt (refine' real_c ?k1q158 ?k2q158 ?k3q158 ?k4q158 ?k5q158 ?kKq158 ?kdq158 ?kuq158   ?_; (case k1q158 => k_asm); (case k2q158 => k_asm); (case k3q158 => k_asm); (case k4q158 => k_asm); (case k5q158 => k_asm); (case kKq158 => first | exact rfl | assumption); (case kdq158 => ktr_room); (case kuq158 => ktr_units); k_whole); intro r9 d9 z9 y9 j9 t9 i9 u9 h9 tk9 e9 f9 F9 N9; (try k_sweep); (try dsimp only); (try k_fold); skip))
  k_with "call ref" => ((k_here; (with_reducible show wpAny _ _ (call (Value.ref 156) _ _) _ _ _); k_dflt (refine' place_of_c ?k1q159 ?k2q159 ?k3q159 ?k4q159 ?k5q159 ?kKq159 ?kdq159 ?kuq159 ?m0q159 ?m1q159  ?_; (case k1q159 => k_asm); (case k2q159 => k_asm); (case k3q159 => k_asm); (case k4q159 => k_asm); (case k5q159 => k_asm); (case kKq159 => first | exact rfl | assumption); (case kdq159 => ktr_room); (case kuq159 => ktr_units); (case m0q159 => k_mem); (case m1q159 => k_mem); k_whole); intro z9 t9 h9 tk9 e9 F9 N9; (try k_sweep); (try dsimp only); (try k_fold); skip))
  k_with "call ref" => ((k_here; (with_reducible show wpAny _ _ (call (Value.ref 163) _ _) _ _ _); k_dflt (refine' sign_of_c ?k1q160 ?k2q160 ?k3q160 ?k4q160 ?k5q160 ?kKq160 ?kdq160 ?kuq160 ?m0q160 ?m1q160  ?_; (case k1q160 => k_asm); (case k2q160 => k_asm); (case k3q160 => k_asm); (case k4q160 => k_asm); (case k5q160 => k_asm); (case kKq160 => first | exact rfl | assumption); (case kdq160 => ktr_room); (case kuq160 => ktr_units); (case m0q160 => k_mem); (case m1q160 => k_mem); k_whole); intro z9 t9 h9 tk9 e9 F9 N9; (try k_sweep); (try dsimp only); (try k_fold); skip))
  k_with "call ref" => ((k_here; (with_reducible show wpAny _ _ (call (Value.ref 170) _ _) _ _ _); k_dflt (refine' same_real_c ?k1q161 ?k2q161 ?k3q161 ?k4q161 ?k5q161 ?kKq161 ?kdq161 ?kuq161 ?m0q161 ?m1q161 ?m2q161 ?m3q161  ?_; (case k1q161 => k_asm); (case k2q161 => k_asm); (case k3q161 => k_asm); (case k4q161 => k_asm); (case k5q161 => k_asm); (case kKq161 => first | exact rfl | assumption); (case kdq161 => ktr_room); (case kuq161 => ktr_units); (case m0q161 => k_mem); (case m1q161 => k_mem); (case m2q161 => k_mem); (case m3q161 => k_mem); k_whole); intro h9 tk9 F9 N9; (try k_sweep); (try dsimp only); (try k_fold); skip))
  k_with "call ref" => ((k_here; (with_reducible show wpAny _ _ (call (Value.ref 247) _ _) _ _ _); k_dflt (refine' fraction_of_c ?k1q162 ?k2q162 ?k3q162 ?k4q162 ?k5q162 ?kKq162 ?kdq162 ?kuq162 ?m0q162 ?m1q162 ?p0q162 ?p1q162 ?p2q162 ?_; (case k1q162 => k_asm); (case k2q162 => k_asm); (case k3q162 => k_asm); (case k4q162 => k_asm); (case k5q162 => k_asm); (case kKq162 => first | exact rfl | assumption); (case kdq162 => ktr_room); (case kuq162 => ktr_units); (case m0q162 => k_mem); (case m1q162 => k_mem); (case p0q162 => ktr_rel); (case p1q162 => first | with_reducible assumption | omega); (case p2q162 => first | with_reducible assumption | omega); k_whole); intro r9 z9 y9 t9 u9 h9 tk9 e9 f9 F9 N9; (try k_sweep); (try dsimp only); (try k_fold); skip))
  k_with "call ref" => ((k_here; (with_reducible show wpAny _ _ (call (Value.ref 254) _ _) _ _ _); k_dflt (refine' inverse_series_c ?k1q163 ?k2q163 ?k3q163 ?k4q163 ?k5q163 ?kKq163 ?kdq163 ?kuq163  ?p0q163 ?p1q163 ?p2q163 ?_; (case k1q163 => k_asm); (case k2q163 => k_asm); (case k3q163 => k_asm); (case k4q163 => k_asm); (case k5q163 => k_asm); (case kKq163 => first | exact rfl | assumption); (case kdq163 => ktr_room); (case kuq163 => ktr_units); (case p0q163 => first | with_reducible assumption | omega); (case p1q163 => first | with_reducible assumption | omega); (case p2q163 => first | with_reducible assumption | k_dflt (have hq := (‹invF _ _ _ _ _ = some _›); refine Eq.trans ?_ hq; law_clear; subst_vars; exact rfl) | kwd_less); k_whole); intro r9 z9 y9 t9 u9 h9 tk9 e9 f9 F9 N9; (try k_sweep); (try dsimp only); (try k_fold); skip))
  k_with "call ref" => ((k_here; (with_reducible show wpAny _ _ (call (Value.ref 261) _ _) _ _ _); k_dflt (refine' log_of_two_c ?k1q164 ?k2q164 ?k3q164 ?k4q164 ?k5q164 ?kKq164 ?kdq164 ?kuq164  ?p0q164 ?p1q164 ?p2q164 ?_; (case k1q164 => k_asm); (case k2q164 => k_asm); (case k3q164 => k_asm); (case k4q164 => k_asm); (case k5q164 => k_asm); (case kKq164 => first | exact rfl | assumption); (case kdq164 => ktr_room); (case kuq164 => ktr_units); (case p0q164 => first | with_reducible assumption | omega); (case p1q164 => first | with_reducible assumption | omega); (case p2q164 => first | with_reducible assumption | k_dflt (have hq := (‹log2F _ = some _›); refine Eq.trans ?_ hq; law_clear; subst_vars; exact rfl) | kwd_less); k_whole); intro r9 z9 y9 t9 u9 h9 tk9 e9 f9 F9 N9; (try k_sweep); (try dsimp only); (try k_fold); skip))
  k_with "call ref" => ((k_here; (with_reducible show wpAny _ _ (call (Value.ref 268) _ _) _ _ _); k_dflt (refine' exp_series_c ?k1q165 ?k2q165 ?k3q165 ?k4q165 ?k5q165 ?kKq165 ?kdq165 ?kuq165 ?m0q165 ?p0q165 ?p1q165 ?p2q165 ?_; (case k1q165 => k_asm); (case k2q165 => k_asm); (case k3q165 => k_asm); (case k4q165 => k_asm); (case k5q165 => k_asm); (case kKq165 => first | exact rfl | assumption); (case kdq165 => ktr_room); (case kuq165 => ktr_units); (case m0q165 => k_mem); (case p0q165 => first | with_reducible assumption | omega); (case p1q165 => first | with_reducible assumption | omega); (case p2q165 => first | with_reducible assumption | k_dflt (have hq := (‹expS _ _ = some _›); refine Eq.trans ?_ hq; law_clear; subst_vars; exact rfl) | kwd_less); k_whole); intro r9 z9 y9 t9 u9 h9 tk9 e9 f9 F9 N9; (try k_sweep); (try dsimp only); (try k_fold); skip))
  k_with "call ref" => ((k_here; (with_reducible show wpAny _ _ (call (Value.ref 121) _ _) _ _ _); k_dflt (refine' lean_c ?k1q166 ?k2q166 ?k3q166 ?k4q166 ?k5q166 ?kKq166 ?kdq166 ?kuq166  ?p0q166 ?_; (case k1q166 => k_asm); (case k2q166 => k_asm); (case k3q166 => k_asm); (case k4q166 => k_asm); (case k5q166 => k_asm); (case kKq166 => first | exact rfl | assumption); (case kdq166 => ktr_room); (case kuq166 => ktr_units); (case p0q166 => first | with_reducible assumption | k_dflt (have hq := (‹leanF _ _ = some _›); refine Eq.trans ?_ hq; law_clear; subst_vars; exact rfl) | kwd_less); k_whole); intro r9 d9 z9 y9 j9 t9 i9 u9 h9 tk9 e9 f9 F9 N9; (try k_sweep); (try dsimp only); (try k_fold); skip))
  k_with "call ref" => ((k_here; (with_reducible show wpAny _ _ (call (Value.ref 135) _ _) _ _ _); k_dflt (refine' shifted_round_c ?k1q167 ?k2q167 ?k3q167 ?k4q167 ?k5q167 ?kKq167 ?kdq167 ?kuq167  ?p0q167 ?_; (case k1q167 => k_asm); (case k2q167 => k_asm); (case k3q167 => k_asm); (case k4q167 => k_asm); (case k5q167 => k_asm); (case kKq167 => first | exact rfl | assumption); (case kdq167 => ktr_room); (case kuq167 => ktr_units); (case p0q167 => first | with_reducible assumption | k_dflt (have hq := (‹shiftedF _ _ _ = some _›); refine Eq.trans ?_ hq; law_clear; subst_vars; exact rfl) | kwd_less); k_whole); intro r9 d9 z9 y9 j9 t9 i9 u9 h9 tk9 e9 f9 F9 N9; (try k_sweep); (try dsimp only); (try k_fold); skip))
  k_with "call ref" => ((k_here; (with_reducible show wpAny _ _ (call (Value.ref 149) _ _) _ _ _); k_dflt (refine' rounded_c ?k1q168 ?k2q168 ?k3q168 ?k4q168 ?k5q168 ?kKq168 ?kdq168 ?kuq168  ?p0q168 ?_; (case k1q168 => k_asm); (case k2q168 => k_asm); (case k3q168 => k_asm); (case k4q168 => k_asm); (case k5q168 => k_asm); (case kKq168 => first | exact rfl | assumption); (case kdq168 => ktr_room); (case kuq168 => ktr_units); (case p0q168 => first | with_reducible assumption | k_dflt (refine ev3 rfl (by first | with_reducible assumption | exact rfl) (by first | with_reducible assumption | exact rfl) (by assumption)) | kwd_less); k_whole); intro r9 d9 z9 y9 j9 t9 i9 u9 h9 tk9 e9 f9 F9 N9; (try k_sweep); (try dsimp only); (try k_fold); skip))
  k_with "call ref" => ((k_here; (with_reducible show wpAny _ _ (call (Value.ref 275) _ _) _ _ _); k_dflt (refine' odd_series_c ?k1q169 ?k2q169 ?k3q169 ?k4q169 ?k5q169 ?kKq169 ?kdq169 ?kuq169  ?p0q169 ?p1q169 ?p2q169 ?_; (case k1q169 => k_asm); (case k2q169 => k_asm); (case k3q169 => k_asm); (case k4q169 => k_asm); (case k5q169 => k_asm); (case kKq169 => first | exact rfl | assumption); (case kdq169 => ktr_room); (case kuq169 => ktr_units); (case p0q169 => first | with_reducible assumption | omega); (case p1q169 => first | with_reducible assumption | omega); (case p2q169 => first | with_reducible assumption | k_dflt (have hq := (‹oddS _ _ _ = some _›); refine Eq.trans ?_ hq; law_clear; subst_vars; exact rfl) | kwd_less); k_whole); intro r9 z9 y9 t9 u9 h9 tk9 e9 f9 F9 N9; (try k_sweep); (try dsimp only); (try k_fold); skip))
  trivial
section
variable {w : World} {loose : List Str} {mean : ExcName → Option Value} {mg mb : Str → Option Value}
  {dp un : Nat} {gd : Option (List Code)} {cn : Str} {cs : Scope} {a : Addr} {ccd : Value} {cl : List (Str × Addr)} {outer : List Env} {A₀ : Around} {base h₀ : Heap} {L : Addr} {m : Str → Option Value} {news : List (Addr × Obj)} {s : Shared} {Q E : Value → Shared → Prop}

theorem reduced_by_twos_c {wk : Int} {t9 : Tok} {v : Int} {x1 y1 : Int} {j1 t1 k1 u1 : Tok} {a1 d1 : Addr}
  (B : Below A₀ base outer h₀) (F : Fr h₀ L s.heap m) (X : (hd.heap_1 w.params).In h₀) (N : News h₀ L s.heap (news)) (T : Top topProg loose mean mg mb h₀) (hk : cs.kind = .function)
  (hdp : dp + 12 < recursionLimit) (hun : un + 160 < cLine)
  (Ma1 : (a1, instObj (nat_lit 89) d1) ∈ news) (Md1 : (d1, realO w j1 x1 t1 k1 y1 u1) ∈ news) (h0 : 0 ≤ wk) (h1 : wk < 9000) (hv : redF wk x1 y1 = some v)
  (hret : ∀ r r2 z1 u1 h' tk', z1 = v → Fr h₀ L h' m → News h₀ L h' ((r, ({ cls := .type "tuple", data := .seq #[.int z1 u1, .ref r2] } : Obj)) :: news) → Q (.ref r) { s with heap := h', toks := tk' }) :
  wpAny (model Challenge.rw_nt0168_01.row.prog w) (ktrTop dp un gd cn cs L a ccd cl outer) (call (.ref 289) [.int wk t9, .ref a1]) Q E s := by
  obtain ⟨x2, y2, hl, g1, g2, g3, g4, g5, g6, g7, g8, g9, g10, hv1⟩ := redF_parts hv
  refine wpAny_call ?_
  k_dflt ktr_enter
  k_steps
  all_goals (refine retRed hret (by assumption) (by k_asm) (by k_mem) (by first | ((repeat (first | exact sub_refl | refine sub_cons ?_)); done) | (intro p hp; first | exact hp | (repeat (first | exact hp | refine List.mem_cons_of_mem _ ?_)))) ?_)
  all_goals ((try law_clear); subst_vars; rfl)
theorem reg_38 : True := by
  k_with "call ref" => ((k_here; (with_reducible show wpAny _ _ (call (Value.ref 289) _ _) _ _ _); k_dflt (refine' reduced_by_twos_c ?k1q170 ?k2q170 ?k3q170 ?k4q170 ?k5q170 ?kKq170 ?kdq170 ?kuq170 ?m0q170 ?m1q170 ?p0q170 ?p1q170 ?p2q170 ?_; (case k1q170 => k_asm); (case k2q170 => k_asm); (case k3q170 => k_asm); (case k4q170 => k_asm); (case k5q170 => k_asm); (case kKq170 => first | exact rfl | assumption); (case kdq170 => ktr_room); (case kuq170 => ktr_units); (case m0q170 => k_mem); (case m1q170 => k_mem); (case p0q170 => first | with_reducible assumption | omega); (case p1q170 => first | with_reducible assumption | omega); (case p2q170 => first | with_reducible assumption | k_dflt (have hq := (‹redF _ _ _ = some _›); refine Eq.trans ?_ hq; law_clear; subst_vars; exact rfl) | kwd_less); k_whole); intro r9 p9 z9 u9 h9 tk9 e9 F9 N9; (try k_sweep); (try dsimp only); (try k_fold); skip))
  trivial
theorem log_bounds_c {wk : Int} {t9 : Tok} {v : Int × Int} {x1 y1 : Int} {j1 t1 k1 u1 : Tok} {a1 d1 : Addr}
  (B : Below A₀ base outer h₀) (F : Fr h₀ L s.heap m) (X : (hd.heap_1 w.params).In h₀) (N : News h₀ L s.heap (news)) (T : Top topProg loose mean mg mb h₀) (hk : cs.kind = .function)
  (hdp : dp + 12 < recursionLimit) (hun : un + 160 < cLine)
  (Ma1 : (a1, instObj (nat_lit 89) d1) ∈ news) (Md1 : (d1, realO w j1 x1 t1 k1 y1 u1) ∈ news) (h0 : 0 ≤ wk) (h1 : wk < 9000) (hb0 : 0 ≤ x1) (hb1 : ((Builtin.Int.intBits x1 : Nat) : Int) < 5000) (hv : logB wk x1 y1 = some v)
  (hret : ∀ r z1 z2 u1 u2 h' tk', z1 = (v).1 → z2 = (v).2 → Fr h₀ L h' m → News h₀ L h' ((r, tupO z1 u1 z2 u2) :: news) → Q (.ref r) { s with heap := h', toks := tk' }) :
  wpAny (model Challenge.rw_nt0168_01.row.prog w) (ktrTop dp un gd cn cs L a ccd cl outer) (call (.ref 303) [.int wk t9, .ref a1]) Q E s := by
  obtain ⟨⟨s1, s2⟩, x2, y2, hl, g1, g2, ⟨g3, g4, g5, hv1⟩ | ⟨g3, g4, g5, hv1⟩⟩ := logB_parts hv
  all_goals simp only [p2_eq] at g3 g4
  · refine wpAny_call ?_
    k_dflt ktr_enter
    k_steps
    all_goals (refine retT hret (by assumption) (by k_asm) (by k_mem) (by first | ((repeat (first | exact sub_refl | refine sub_cons ?_)); done) | (intro p hp; first | exact hp | (repeat (first | exact hp | refine List.mem_cons_of_mem _ ?_)))) ?_)
    all_goals ((try law_clear); subst_vars; rfl)
  · refine wpAny_call ?_
    k_dflt ktr_enter
    k_steps
    all_goals (refine retT hret (by assumption) (by k_asm) (by k_mem) (by first | ((repeat (first | exact sub_refl | refine sub_cons ?_)); done) | (intro p hp; first | exact hp | (repeat (first | exact hp | refine List.mem_cons_of_mem _ ?_)))) ?_)
    all_goals ((try law_clear); subst_vars; rfl)
theorem reg_39 : True := by
  k_with "call ref" => ((k_here; (with_reducible show wpAny _ _ (call (Value.ref 303) _ _) _ _ _); k_dflt (refine' log_bounds_c ?k1q171 ?k2q171 ?k3q171 ?k4q171 ?k5q171 ?kKq171 ?kdq171 ?kuq171 ?m0q171 ?m1q171 ?p0q171 ?p1q171 ?p2q171 ?p3q171 ?p4q171 ?_; (case k1q171 => k_asm); (case k2q171 => k_asm); (case k3q171 => k_asm); (case k4q171 => k_asm); (case k5q171 => k_asm); (case kKq171 => first | exact rfl | assumption); (case kdq171 => ktr_room); (case kuq171 => ktr_units); (case m0q171 => k_mem); (case m1q171 => k_mem); (case p0q171 => first | with_reducible assumption | omega); (case p1q171 => first | with_reducible assumption | omega); (case p2q171 => first | with_reducible assumption | omega); (case p3q171 => first | with_reducible assumption | omega); (case p4q171 => first | with_reducible assumption | k_dflt (have hq := (‹logB _ _ _ = some _›); refine Eq.trans ?_ hq; law_clear; subst_vars; exact rfl) | kwd_less); k_whole); intro r9 z9 y9 t9 u9 h9 tk9 e9 f9 F9 N9; (try k_sweep); (try dsimp only); (try k_fold); skip))
  trivial
end
end
section
open PySem PySem.W PySem.Spec PySem.Calls PyProof.Rows
set_option Elab.async false
set_option maxRecDepth 100000
set_option maxHeartbeats 0
theorem reg_40 : True := by
  k_with_none
  k_with "lt9" => (first | with_reducible assumption | (refine ltc (by with_reducible assumption) ?_; first | exact pj1 | exact pj2 | exact pj3 | exact pj4 | exact pj5 | exact pj6 | exact pj7 | exact pj8 | exact pj9 | exact pj10 | exact pj11 | exact pj12 | exact pj13 | exact pj14 | exact qj1 | exact qj2 | exact qj3 | exact qj4 | exact qj5 | exact qj6 | exact qj7 | exact qj8 | exact qj9 | exact qj10 | exact qj11 | exact qj12 | exact qj13 | exact qj14))
  k_with "ne9" => (first | decide | (refine Nat.ne_of_lt ?_; walk_at "lt9") | (refine Nat.ne_of_gt ?_; walk_at "lt9") | exact Nat.ne_of_lt (Nat.lt_succ_self _) | exact Nat.ne_of_gt (Nat.lt_succ_self _) | (refine ne_up1 ?_; walk_at "lt9") | (refine ne_up2 ?_; walk_at "lt9") | (refine Ne.symm (ne_up1 ?_); walk_at "lt9") | (refine Ne.symm (ne_up2 ?_); walk_at "lt9"))
  trivial
-- Sm facts
theorem reg_41 : True := by
  k_with "binaryOp FloorDiv int int" => ((k_here; (with_reducible refine floordiv_int ?feq174 ?_ (Or.inl (Sm.py ?fpq174))); (case feq174 => first | decide | omega | assumption); (case fpq174 => ktr_rel)))
  k_with "binaryOp LShift int int" => ((k_here; (with_reducible refine lshift_int ?feq175 ?fpq175 ?_); (case feq175 => omega); (case fpq175 => exact Sm.shl (by ktr_rel) (by omega))))
  k_with "ite" => ((k_here; k_openite; k_spoken; first
  | (refine ite_pos (by ((try simp only [beq_iff_eq, bne_iff_ne, ne_eq, Bool.not_eq_true', beq_eq_false_iff_ne]); (try law_clear); (try subst_vars); first | assumption | exact decide_eq_true rfl | exact Int.not_le.mp (by assumption) | exact Int.not_lt.mp (by assumption) | (law_clear; omega))) ?_; walk_say "PRUNED own")
  | (refine ite_neg (by ((try simp only [beq_iff_eq, bne_iff_ne, ne_eq, Bool.not_eq_true', beq_eq_false_iff_ne]); (try law_clear); (try subst_vars); first | assumption | exact Int.not_le.mpr (by assumption) | exact Int.not_lt.mpr (by assumption) | (law_clear; omega))) ?_; walk_say "PRUNED own")))
  k_with "subscriptTail" => ((k_here; (with_reducible show wpAny _ _ (subscriptTail _ _ (Value.ref _) (Value.int _ _)) _ _ _); k_dflt (refine' item_tupleT ?tq177 ?aq177 ?bq177 ?cq177 ?dq177 ?_; (case tq177 => exact News.isTup (by k_asm) (by k_mem)); (case aq177 => decide); (case bq177 => decide); (case cq177 => rfl); (case dq177 => rfl); k_whole)))
  k_with "subscriptTail Name Constant ref int" => ((k_here; (with_reducible show wpAny _ _ (subscriptTail _ _ (Value.ref _) (Value.int _ _)) _ _ _); k_dflt (refine' item_tupleT ?tq178 ?aq178 ?bq178 ?cq178 ?dq178 ?_; (case tq178 => exact News.isTup (by k_asm) (by k_mem)); (case aq178 => decide); (case bq178 => decide); (case cq178 => rfl); (case dq178 => rfl); k_whole)))
  k_with "callWith ref" => ((k_here; k_dflt (refine' callWith_K ?k1q179 ?k2q179 ?_; (case k1q179 => k_asm); (case k2q179 => k_is); k_whole)))
  k_with "call builtin:divmod" => ((k_here; (with_reducible show wpAny _ _ (call (Value.builtin _) [Value.int _ _, Value.int _ _]) _ _ _); k_dflt (refine' divmod_N ?k1q180 ?k2q180 ?feq180 ?_ (Or.inl (Sm.py ?fpq180)); (case k1q180 => k_asm); (case k2q180 => k_asm); (case feq180 => first | omega | exact Int.ne_of_gt (Int.mul_pos (by omega) (pow2_pos _))); (case fpq180 => ktr_rel)); intro h' F' N'; (try k_sweep)))
  k_with "call builtin:max" => ((k_here; (with_reducible show wpAny _ _ (call (Value.builtin _) [Value.ref _]) _ _ _); k_dflt (first
  | (refine' max_tup ?k0q181 ?k1q181 ?k2q181 ?k3q181 ?_; (case k0q181 => exact rfl); (case k1q181 => k_asm); (case k2q181 => k_asm); (case k3q181 => exact News.isTup (by k_asm) (by k_mem)))
  | (refine' max_list4 ?k0q181 ?k1q181 ?k2q181 ?k3q181 ?_; (case k0q181 => exact rfl); (case k1q181 => k_asm); (case k2q181 => k_asm); (case k3q181 => exact News.isList (by k_asm) (by k_mem)))); k_whole; intro h' r' tk' F' N'; (try k_sweep)))
  k_with "call builtin:min" => ((k_here; (with_reducible show wpAny _ _ (call (Value.builtin _) [Value.ref _]) _ _ _); k_dflt (first
  | (refine' min_tup ?k0q182 ?k1q182 ?k2q182 ?k3q182 ?_; (case k0q182 => exact rfl); (case k1q182 => k_asm); (case k2q182 => k_asm); (case k3q182 => exact News.isTup (by k_asm) (by k_mem)))
  | (refine' min_list4 ?k0q182 ?k1q182 ?k2q182 ?k3q182 ?_; (case k0q182 => exact rfl); (case k1q182 => k_asm); (case k2q182 => k_asm); (case k3q182 => exact News.isList (by k_asm) (by k_mem)))); k_whole; intro h' r' tk' F' N'; (try k_sweep)))
  k_with "storeName" => ((k_here; k_dflt (refine' storeX_S (by k_asm) (by k_asm) rfl (by k_mem) (by assumption) (by repeat' (first | exact Sift.all (by assumption) | exact Sift.all (allLt_ne (And.right (And.right ‹_ ∧ _ ∧ AllLt _ _›)) (by omega)) | exact Sift.all (ltAll (by assumption) (by omega)) | (apply Sift.keep; (case h => first | (refine neN ?_; first | walk_at "ne9" | omega) | exact newsNe (by assumption) (by k_mem) (by k_mem) (by assumption) (by intro _ e; cases e))) | apply Sift.drop)) ?_ rfl rfl; k_whole); intro h' o' F' N' d1'; (try dsimp only)))
  k_with "exec FunctionDef" => ((k_here; k_dflt (refine' nestDef_K ?d0q184 ?k0q184 ?a0q184 ?_; (case d0q184 => exact rfl); (case k0q184 => exact rfl); (case a0q184 => exact rfl)); k_dflt (refine' nest_S (by k_asm) (by k_asm) (by k_asm) (by first | assumption | exact CodeHd.keeps (by assumption) (Fr.keep (by assumption))) rfl (by assumption) (by k_mem) (by k_mem) (by repeat' (first | exact Sift.all (by assumption) | exact Sift.all (allLt_ne (And.right (And.right ‹_ ∧ _ ∧ AllLt _ _›)) (by omega)) | exact Sift.all (ltAll (by assumption) (by omega)) | (apply Sift.keep; (case h => first | (refine neN ?_; first | walk_at "ne9" | omega) | exact newsNe (by assumption) (by k_mem) (by k_mem) (by assumption) (by intro _ e; cases e))) | apply Sift.drop)) (by intro c9; kn_triples) (by intro c9; kn_hit) rfl ?_; k_whole); intro f' c' oc' doc' ct' h' tk' F' N' ok'; (have ok2' := ok'); (obtain ⟨vs', t', d1', d2'⟩ := ok2'); (try dsimp only at N')))
  k_with "eval Lambda" => ((k_here; k_dflt (refine' kla_eval ?d0q185 ?_; (case d0q185 => exact rfl)); k_dflt (refine' lam_S (by k_asm) (by k_asm) (by k_asm) (by first | assumption | exact CodeHd.keeps (by assumption) (Fr.keep (by assumption))) rfl (by assumption) (by k_mem) (by k_mem) (by repeat' (first | exact Sift.all (by assumption) | exact Sift.all (allLt_ne (And.right (And.right ‹_ ∧ _ ∧ AllLt _ _›)) (by omega)) | exact Sift.all (ltAll (by assumption) (by omega)) | (apply Sift.keep; (case h => first | (refine neN ?_; first | walk_at "ne9" | omega) | exact newsNe (by assumption) (by k_mem) (by k_mem) (by assumption) (by intro _ e; cases e))) | apply Sift.drop)) (by intro c9; kn_triples) (by intro c9; kn_hit) rfl ?_; k_whole); intro f' c' oc' ct' h' tk' F' N' ok'; (have ok2' := ok'); (obtain ⟨vs', t', d1', d2'⟩ := ok2'); (try dsimp only at N')))
  k_with "OnceB" => ((dsimp only [OnceB]))
  k_with "exec While" => ((k_here; k_dflt (refine' while_once (by k_asm) (by k_asm) ?_); k_whole; intro h' tk' F' N'; (try dsimp only); (try k_fold)))
  k_with "call ref" => ((k_here; (with_reducible show wpAny _ _ (call (Value.ref 282) _ _) _ _ _); k_dflt (refine wpAny_call ?_; ktr_enter)))
  k_with "call ref" => ((k_here; (with_reducible show wpAny _ _ (call (Value.ref 100) _ _) _ _ _); k_dflt (refine' size_of_c ?k1q189 ?k2q189 ?k3q189 ?k4q189 ?k5q189 ?kKq189 ?kdq189 ?kuq189   ?_; (case k1q189 => k_asm); (case k2q189 => k_asm); (case k3q189 => k_asm); (case k4q189 => k_asm); (case k5q189 => k_asm); (case kKq189 => first | exact rfl | assumption); (case kdq189 => ktr_room); (case kuq189 => ktr_units); k_whole); intro z9 t9 h9 tk9 e9 F9 N9; (try k_sweep); (try dsimp only); (try k_fold); skip))
  k_with "call ref" => ((k_here; (with_reducible show wpAny _ _ (call (Value.ref 107) _ _) _ _ _); k_dflt (refine' sign_of_whole_c ?k1q190 ?k2q190 ?k3q190 ?k4q190 ?k5q190 ?kKq190 ?kdq190 ?kuq190   ?_; (case k1q190 => k_asm); (case k2q190 => k_asm); (case k3q190 => k_asm); (case k4q190 => k_asm); (case k5q190 => k_asm); (case kKq190 => first | exact rfl | assumption); (case kdq190 => ktr_room); (case kuq190 => ktr_units); k_whole); intro z9 t9 h9 tk9 e9 F9 N9; (try k_sweep); (try dsimp only); (try k_fold); skip))
  k_with "call ref" => ((k_here; (with_reducible show wpAny _ _ (call (Value.ref 114) _ _) _ _ _); k_dflt (refine' zeros_below_c ?k1q191 ?k2q191 ?k3q191 ?k4q191 ?k5q191 ?kKq191 ?kdq191 ?kuq191   ?_; (case k1q191 => k_asm); (case k2q191 => k_asm); (case k3q191 => k_asm); (case k4q191 => k_asm); (case k5q191 => k_asm); (case kKq191 => first | exact rfl | assumption); (case kdq191 => ktr_room); (case kuq191 => ktr_units); k_whole); intro z9 t9 h9 tk9 e9 F9 N9; (try k_sweep); (try dsimp only); (try k_fold); skip))
  k_with "call ref" => ((k_here; (with_reducible show wpAny _ _ (call (Value.ref 177) _ _) _ _ _); k_dflt (refine' up_shift_c ?k1q192 ?k2q192 ?k3q192 ?k4q192 ?k5q192 ?kKq192 ?kdq192 ?kuq192  ?p0q192 ?_; (case k1q192 => k_asm); (case k2q192 => k_asm); (case k3q192 => k_asm); (case k4q192 => k_asm); (case k5q192 => k_asm); (case kKq192 => first | exact rfl | assumption); (case kdq192 => ktr_room); (case kuq192 => ktr_units); (case p0q192 => first | with_reducible assumption | omega); k_whole); intro z9 t9 h9 tk9 e9 F9 N9; (try k_sweep); (try dsimp only); (try k_fold); skip))
  k_with "call ref" => ((k_here; (with_reducible show wpAny _ _ (call (Value.ref 184) _ _) _ _ _); k_dflt (refine' up_over_c ?k1q193 ?k2q193 ?k3q193 ?k4q193 ?k5q193 ?kKq193 ?kdq193 ?kuq193  ?p0q193 ?p1q193 ?_; (case k1q193 => k_asm); (case k2q193 => k_asm); (case k3q193 => k_asm); (case k4q193 => k_asm); (case k5q193 => k_asm); (case kKq193 => first | exact rfl | assumption); (case kdq193 => ktr_room); (case kuq193 => ktr_units); (case p0q193 => first | with_reducible assumption | omega); (case p1q193 => ktr_rel); k_whole); intro z9 t9 h9 tk9 e9 F9 N9; (try k_sweep); (try dsimp only); (try k_fold); skip))
  k_with "call ref" => ((k_here; (with_reducible show wpAny _ _ (call (Value.ref 142) _ _) _ _ _); k_dflt (refine' with_sticky_c ?k1q194 ?k2q194 ?k3q194 ?k4q194 ?k5q194 ?kKq194 ?kdq194 ?kuq194   ?_; (case k1q194 => k_asm); (case k2q194 => k_asm); (case k3q194 => k_asm); (case k4q194 => k_asm); (case k5q194 => k_asm); (case kKq194 => first | exact rfl | assumption); (case kdq194 => ktr_room); (case kuq194 => ktr_units); k_whole); intro z9 t9 h9 tk9 e9 F9 N9; (try k_sweep); (try dsimp only); (try k_fold); skip))
  k_with "call ref" => ((k_here; (with_reducible show wpAny _ _ (call (Value.ref 128) _ _) _ _ _); k_dflt (refine' nearest_shift_c ?k1q195 ?k2q195 ?k3q195 ?k4q195 ?k5q195 ?kKq195 ?kdq195 ?kuq195  ?p0q195 ?p1q195 ?_; (case k1q195 => k_asm); (case k2q195 => k_asm); (case k3q195 => k_asm); (case k4q195 => k_asm); (case k5q195 => k_asm); (case kKq195 => first | exact rfl | assumption); (case kdq195 => ktr_room); (case kuq195 => ktr_units); (case p0q195 => first | with_reducible assumption | omega); (case p1q195 => first | with_reducible assumption | omega); k_whole); intro z9 t9 h9 tk9 e9 F9 N9; (try k_sweep); (try dsimp only); (try k_fold); skip))
  k_with "call ref" => ((k_here; (with_reducible show wpAny _ _ (call (Value.ref 198) _ _) _ _ _); k_dflt (refine' more_of_c ?k1q196 ?k2q196 ?k3q196 ?k4q196 ?k5q196 ?kKq196 ?kdq196 ?kuq196 ?m0q196 ?m1q196  ?_; (case k1q196 => k_asm); (case k2q196 => k_asm); (case k3q196 => k_asm); (case k4q196 => k_asm); (case k5q196 => k_asm); (case kKq196 => first | exact rfl | assumption); (case kdq196 => ktr_room); (case kuq196 => ktr_units); (case m0q196 => k_mem); (case m1q196 => k_mem); k_whole); intro r9 z9 y9 t9 u9 h9 tk9 e9 f9 F9 N9; (try k_sweep); (try dsimp only); (try k_fold); skip))
  k_with "call ref" => ((k_here; (with_reducible show wpAny _ _ (call (Value.ref 205) _ _) _ _ _); k_dflt (refine' less_of_c ?k1q197 ?k2q197 ?k3q197 ?k4q197 ?k5q197 ?kKq197 ?kdq197 ?kuq197 ?m0q197 ?m1q197  ?_; (case k1q197 => k_asm); (case k2q197 => k_asm); (case k3q197 => k_asm); (case k4q197 => k_asm); (case k5q197 => k_asm); (case kKq197 => first | exact rfl | assumption); (case kdq197 => ktr_room); (case kuq197 => ktr_units); (case m0q197 => k_mem); (case m1q197 => k_mem); k_whole); intro r9 z9 y9 t9 u9 h9 tk9 e9 f9 F9 N9; (try k_sweep); (try dsimp only); (try k_fold); skip))
  k_with "call ref" => ((k_here; (with_reducible show wpAny _ _ (call (Value.ref 212) _ _) _ _ _); k_dflt (refine' often_c ?k1q198 ?k2q198 ?k3q198 ?k4q198 ?k5q198 ?kKq198 ?kdq198 ?kuq198 ?m0q198 ?p0q198 ?p1q198 ?_; (case k1q198 => k_asm); (case k2q198 => k_asm); (case k3q198 => k_asm); (case k4q198 => k_asm); (case k5q198 => k_asm); (case kKq198 => first | exact rfl | assumption); (case kdq198 => ktr_room); (case kuq198 => ktr_units); (case m0q198 => k_mem); (case p0q198 => mul_fits); (case p1q198 => mul_fits); k_whole); intro r9 z9 y9 t9 u9 h9 tk9 e9 f9 F9 N9; (try k_sweep); (try dsimp only); (try k_fold); skip))
  k_with "call ref" => ((k_here; (with_reducible show wpAny _ _ (call (Value.ref 233) _ _) _ _ _); k_dflt (refine' widened_c ?k1q199 ?k2q199 ?k3q199 ?k4q199 ?k5q199 ?kKq199 ?kdq199 ?kuq199 ?m0q199  ?_; (case k1q199 => k_asm); (case k2q199 => k_asm); (case k3q199 => k_asm); (case k4q199 => k_asm); (case k5q199 => k_asm); (case kKq199 => first | exact rfl | assumption); (case kdq199 => ktr_room); (case kuq199 => ktr_units); (case m0q199 => k_mem); k_whole); intro r9 z9 y9 t9 u9 h9 tk9 e9 f9 F9 N9; (try k_sweep); (try dsimp only); (try k_fold); skip))
  k_with "call ref" => ((k_here; (with_reducible show wpAny _ _ (call (Value.ref 240) _ _) _ _ _); k_dflt (refine' greatest_of_c ?k1q200 ?k2q200 ?k3q200 ?k4q200 ?k5q200 ?kKq200 ?kdq200 ?kuq200 ?m0q200  ?_; (case k1q200 => k_asm); (case k2q200 => k_asm); (case k3q200 => k_asm); (case k4q200 => k_asm); (case k5q200 => k_asm); (case kKq200 => first | exact rfl | assumption); (case kdq200 => ktr_room); (case kuq200 => ktr_units); (case m0q200 => k_mem); k_whole); intro z9 t9 h9 tk9 e9 F9 N9; (try k_sweep); (try dsimp only); (try k_fold); skip))
  k_with "call ref" => ((k_here; (with_reducible show wpAny _ _ (call (Value.ref 226) _ _) _ _ _); k_dflt (refine' part_of_c ?k1q201 ?k2q201 ?k3q201 ?k4q201 ?k5q201 ?kKq201 ?kdq201 ?kuq201 ?m0q201 ?p0q201 ?p1q201 ?_; (case k1q201 => k_asm); (case k2q201 => k_asm); (case k3q201 => k_asm); (case k4q201 => k_asm); (case k5q201 => k_asm); (case kKq201 => first | exact rfl | assumption); (case kdq201 => ktr_room); (case kuq201 => ktr_units); (case m0q201 => k_mem); (case p0q201 => first | with_reducible assumption | omega); (case p1q201 => ktr_rel); k_whole); intro r9 z9 y9 t9 u9 h9 tk9 e9 f9 F9 N9; (try k_sweep); (try dsimp only); (try k_fold); skip))
  k_with "call ref" => ((k_here; (with_reducible show wpAny _ _ (call (Value.ref 219) _ _) _ _ _); k_dflt (refine' product_of_c ?k1q202 ?k2q202 ?k3q202 ?k4q202 ?k5q202 ?kKq202 ?kdq202 ?kuq202 ?m0q202 ?m1q202 ?p0q202 ?p1q202 ?p2q202 ?p3q202 ?p4q202 ?_; (case k1q202 => k_asm); (case k2q202 => k_asm); (case k3q202 => k_asm); (case k4q202 => k_asm); (case k5q202 => k_asm); (case kKq202 => first | exact rfl | assumption); (case kdq202 => ktr_room); (case kuq202 => ktr_units); (case m0q202 => k_mem); (case m1q202 => k_mem); (case p0q202 => first | with_reducible assumption | omega); (case p1q202 => ktr_rel); (case p2q202 => ktr_rel); (case p3q202 => ktr_rel); (case p4q202 => ktr_rel); k_whole); intro r9 z9 y9 t9 u9 h9 tk9 e9 f9 F9 N9; (try k_sweep); (try dsimp only); (try k_fold); skip))
  k_with "call ref" => ((k_here; (with_reducible show wpAny _ _ (call (Value.ref 191) _ _) _ _ _); k_dflt (refine' fraction_bounds_c ?k1q203 ?k2q203 ?k3q203 ?k4q203 ?k5q203 ?kKq203 ?kdq203 ?kuq203  ?p0q203 ?p1q203 ?p2q203 ?p3q203 ?p4q203 ?_; (case k1q203 => k_asm); (case k2q203 => k_asm); (case k3q203 => k_asm); (case k4q203 => k_asm); (case k5q203 => k_asm); (case kKq203 => first | exact rfl | assumption); (case kdq203 => ktr_room); (case kuq203 => ktr_units); (case p0q203 => first | with_reducible assumption | omega); (case p1q203 => first | with_reducible assumption | omega); (case p2q203 => ktr_rel); (case p3q203 => first | with_reducible assumption | omega); (case p4q203 => ktr_rel); k_whole); intro r9 z9 y9 t9 u9 h9 tk9 e9 f9 F9 N9; (try k_sweep); (try dsimp only); (try k_fold); skip))
  k_with "call ref" => ((k_here; (with_reducible show wpAny _ _ (call (Value.ref 89) _ _) _ _ _); k_dflt (refine' real_c ?k1q204 ?k2q204 ?k3q204 ?k4q204 ?k5q204 ?kKq204 ?kdq204 ?kuq204   ?_; (case k1q204 => k_asm); (case k2q204 => k_asm); (case k3q204 => k_asm); (case k4q204 => k_asm); (case k5q204 => k_asm); (case kKq204 => first | exact rfl | assumption); (case kdq204 => ktr_room); (case kuq204 => ktr_units); k_whole); intro r9 d9 z9 y9 j9 t9 i9 u9 h9 tk9 e9 f9 F9 N9; (try k_sweep); (try dsimp only); (try k_fold); skip))
  k_with "call ref" => ((k_here; (with_reducible show wpAny _ _ (call (Value.ref 156) _ _) _ _ _); k_dflt (refine' place_of_c ?k1q205 ?k2q205 ?k3q205 ?k4q205 ?k5q205 ?kKq205 ?kdq205 ?kuq205 ?m0q205 ?m1q205  ?_; (case k1q205 => k_asm); (case k2q205 => k_asm); (case k3q205 => k_asm); (case k4q205 => k_asm); (case k5q205 => k_asm); (case kKq205 => first | exact rfl | assumption); (case kdq205 => ktr_room); (case kuq205 => ktr_units); (case m0q205 => k_mem); (case m1q205 => k_mem); k_whole); intro z9 t9 h9 tk9 e9 F9 N9; (try k_sweep); (try dsimp only); (try k_fold); skip))
  k_with "call ref" => ((k_here; (with_reducible show wpAny _ _ (call (Value.ref 163) _ _) _ _ _); k_dflt (refine' sign_of_c ?k1q206 ?k2q206 ?k3q206 ?k4q206 ?k5q206 ?kKq206 ?kdq206 ?kuq206 ?m0q206 ?m1q206  ?_; (case k1q206 => k_asm); (case k2q206 => k_asm); (case k3q206 => k_asm); (case k4q206 => k_asm); (case k5q206 => k_asm); (case kKq206 => first | exact rfl | assumption); (case kdq206 => ktr_room); (case kuq206 => ktr_units); (case m0q206 => k_mem); (case m1q206 => k_mem); k_whole); intro z9 t9 h9 tk9 e9 F9 N9; (try k_sweep); (try dsimp only); (try k_fold); skip))
  k_with "call ref" => ((k_here; (with_reducible show wpAny _ _ (call (Value.ref 170) _ _) _ _ _); k_dflt (refine' same_real_c ?k1q207 ?k2q207 ?k3q207 ?k4q207 ?k5q207 ?kKq207 ?kdq207 ?kuq207 ?m0q207 ?m1q207 ?m2q207 ?m3q207  ?_; (case k1q207 => k_asm); (case k2q207 => k_asm); (case k3q207 => k_asm); (case k4q207 => k_asm); (case k5q207 => k_asm); (case kKq207 => first | exact rfl | assumption); (case kdq207 => ktr_room); (case kuq207 => ktr_units); (case m0q207 => k_mem); (case m1q207 => k_mem); (case m2q207 => k_mem); (case m3q207 => k_mem); k_whole); intro h9 tk9 F9 N9; (try k_sweep); (try dsimp only); (try k_fold); skip))
  k_with "call ref" => ((k_here; (with_reducible show wpAny _ _ (call (Value.ref 247) _ _) _ _ _); k_dflt (refine' fraction_of_c ?k1q208 ?k2q208 ?k3q208 ?k4q208 ?k5q208 ?kKq208 ?kdq208 ?kuq208 ?m0q208 ?m1q208 ?p0q208 ?p1q208 ?p2q208 ?_; (case k1q208 => k_asm); (case k2q208 => k_asm); (case k3q208 => k_asm); (case k4q208 => k_asm); (case k5q208 => k_asm); (case kKq208 => first | exact rfl | assumption); (case kdq208 => ktr_room); (case kuq208 => ktr_units); (case m0q208 => k_mem); (case m1q208 => k_mem); (case p0q208 => ktr_rel); (case p1q208 => first | with_reducible assumption | omega); (case p2q208 => first | with_reducible assumption | omega); k_whole); intro r9 z9 y9 t9 u9 h9 tk9 e9 f9 F9 N9; (try k_sweep); (try dsimp only); (try k_fold); skip))
  k_with "call ref" => ((k_here; (with_reducible show wpAny _ _ (call (Value.ref 254) _ _) _ _ _); k_dflt (refine' inverse_series_c ?k1q209 ?k2q209 ?k3q209 ?k4q209 ?k5q209 ?kKq209 ?kdq209 ?kuq209  ?p0q209 ?p1q209 ?p2q209 ?_; (case k1q209 => k_asm); (case k2q209 => k_asm); (case k3q209 => k_asm); (case k4q209 => k_asm); (case k5q209 => k_asm); (case kKq209 => first | exact rfl | assumption); (case kdq209 => ktr_room); (case kuq209 => ktr_units); (case p0q209 => first | with_reducible assumption | omega); (case p1q209 => first | with_reducible assumption | omega); (case p2q209 => first | with_reducible assumption | k_dflt (have hq := (‹invF _ _ _ _ _ = some _›); refine Eq.trans ?_ hq; law_clear; subst_vars; exact rfl) | kwd_less); k_whole); intro r9 z9 y9 t9 u9 h9 tk9 e9 f9 F9 N9; (try k_sweep); (try dsimp only); (try k_fold); skip))
  k_with "call ref" => ((k_here; (with_reducible show wpAny _ _ (call (Value.ref 261) _ _) _ _ _); k_dflt (refine' log_of_two_c ?k1q210 ?k2q210 ?k3q210 ?k4q210 ?k5q210 ?kKq210 ?kdq210 ?kuq210  ?p0q210 ?p1q210 ?p2q210 ?_; (case k1q210 => k_asm); (case k2q210 => k_asm); (case k3q210 => k_asm); (case k4q210 => k_asm); (case k5q210 => k_asm); (case kKq210 => first | exact rfl | assumption); (case kdq210 => ktr_room); (case kuq210 => ktr_units); (case p0q210 => first | with_reducible assumption | omega); (case p1q210 => first | with_reducible assumption | omega); (case p2q210 => first | with_reducible assumption | k_dflt (have hq := (‹log2F _ = some _›); refine Eq.trans ?_ hq; law_clear; subst_vars; exact rfl) | kwd_less); k_whole); intro r9 z9 y9 t9 u9 h9 tk9 e9 f9 F9 N9; (try k_sweep); (try dsimp only); (try k_fold); skip))
  k_with "call ref" => ((k_here; (with_reducible show wpAny _ _ (call (Value.ref 268) _ _) _ _ _); k_dflt (refine' exp_series_c ?k1q211 ?k2q211 ?k3q211 ?k4q211 ?k5q211 ?kKq211 ?kdq211 ?kuq211 ?m0q211 ?p0q211 ?p1q211 ?p2q211 ?_; (case k1q211 => k_asm); (case k2q211 => k_asm); (case k3q211 => k_asm); (case k4q211 => k_asm); (case k5q211 => k_asm); (case kKq211 => first | exact rfl | assumption); (case kdq211 => ktr_room); (case kuq211 => ktr_units); (case m0q211 => k_mem); (case p0q211 => first | with_reducible assumption | omega); (case p1q211 => first | with_reducible assumption | omega); (case p2q211 => first | with_reducible assumption | k_dflt (have hq := (‹expS _ _ = some _›); refine Eq.trans ?_ hq; law_clear; subst_vars; exact rfl) | kwd_less); k_whole); intro r9 z9 y9 t9 u9 h9 tk9 e9 f9 F9 N9; (try k_sweep); (try dsimp only); (try k_fold); skip))
  k_with "call ref" => ((k_here; (with_reducible show wpAny _ _ (call (Value.ref 121) _ _) _ _ _); k_dflt (refine' lean_c ?k1q212 ?k2q212 ?k3q212 ?k4q212 ?k5q212 ?kKq212 ?kdq212 ?kuq212  ?p0q212 ?_; (case k1q212 => k_asm); (case k2q212 => k_asm); (case k3q212 => k_asm); (case k4q212 => k_asm); (case k5q212 => k_asm); (case kKq212 => first | exact rfl | assumption); (case kdq212 => ktr_room); (case kuq212 => ktr_units); (case p0q212 => first | with_reducible assumption | k_dflt (have hq := (‹leanF _ _ = some _›); refine Eq.trans ?_ hq; law_clear; subst_vars; exact rfl) | kwd_less); k_whole); intro r9 d9 z9 y9 j9 t9 i9 u9 h9 tk9 e9 f9 F9 N9; (try k_sweep); (try dsimp only); (try k_fold); skip))
  k_with "call ref" => ((k_here; (with_reducible show wpAny _ _ (call (Value.ref 135) _ _) _ _ _); k_dflt (refine' shifted_round_c ?k1q213 ?k2q213 ?k3q213 ?k4q213 ?k5q213 ?kKq213 ?kdq213 ?kuq213  ?p0q213 ?_; (case k1q213 => k_asm); (case k2q213 => k_asm); (case k3q213 => k_asm); (case k4q213 => k_asm); (case k5q213 => k_asm); (case kKq213 => first | exact rfl | assumption); (case kdq213 => ktr_room); (case kuq213 => ktr_units); (case p0q213 => first | with_reducible assumption | k_dflt (have hq := (‹shiftedF _ _ _ = some _›); refine Eq.trans ?_ hq; law_clear; subst_vars; exact rfl) | kwd_less); k_whole); intro r9 d9 z9 y9 j9 t9 i9 u9 h9 tk9 e9 f9 F9 N9; (try k_sweep); (try dsimp only); (try k_fold); skip))
  k_with "call ref" => ((k_here; (with_reducible show wpAny _ _ (call (Value.ref 149) _ _) _ _ _); k_dflt (refine' rounded_c ?k1q214 ?k2q214 ?k3q214 ?k4q214 ?k5q214 ?kKq214 ?kdq214 ?kuq214  ?p0q214 ?_; (case k1q214 => k_asm); (case k2q214 => k_asm); (case k3q214 => k_asm); (case k4q214 => k_asm); (case k5q214 => k_asm); (case kKq214 => first | exact rfl | assumption); (case kdq214 => ktr_room); (case kuq214 => ktr_units); (case p0q214 => first | with_reducible assumption | k_dflt (refine ev3 rfl (by first | with_reducible assumption | exact rfl) (by first | with_reducible assumption | exact rfl) (by assumption)) | kwd_less); k_whole); intro r9 d9 z9 y9 j9 t9 i9 u9 h9 tk9 e9 f9 F9 N9; (try k_sweep); (try dsimp only); (try k_fold); skip))
  k_with "call ref" => ((k_here; (with_reducible show wpAny _ _ (call (Value.ref 275) _ _) _ _ _); k_dflt (refine' odd_series_c ?k1q215 ?k2q215 ?k3q215 ?k4q215 ?k5q215 ?kKq215 ?kdq215 ?kuq215  ?p0q215 ?p1q215 ?p2q215 ?_; (case k1q215 => k_asm); (case k2q215 => k_asm); (case k3q215 => k_asm); (case k4q215 => k_asm); (case k5q215 => k_asm); (case kKq215 => first | exact rfl | assumption); (case kdq215 => ktr_room); (case kuq215 => ktr_units); (case p0q215 => first | with_reducible assumption | omega); (case p1q215 => first | with_reducible assumption | omega); (case p2q215 => first | with_reducible assumption | k_dflt (have hq := (‹oddS _ _ _ = some _›); refine Eq.trans ?_ hq; law_clear; subst_vars; exact rfl) | kwd_less); k_whole); intro r9 z9 y9 t9 u9 h9 tk9 e9 f9 F9 N9; (try k_sweep); (try dsimp only); (try k_fold); skip))
  k_with "call ref" => ((k_here; (with_reducible show wpAny _ _ (call (Value.ref 289) _ _) _ _ _); k_dflt (refine' reduced_by_twos_c ?k1q216 ?k2q216 ?k3q216 ?k4q216 ?k5q216 ?kKq216 ?kdq216 ?kuq216 ?m0q216 ?m1q216 ?p0q216 ?p1q216 ?p2q216 ?_; (case k1q216 => k_asm); (case k2q216 => k_asm); (case k3q216 => k_asm); (case k4q216 => k_asm); (case k5q216 => k_asm); (case kKq216 => first | exact rfl | assumption); (case kdq216 => ktr_room); (case kuq216 => ktr_units); (case m0q216 => k_mem); (case m1q216 => k_mem); (case p0q216 => first | with_reducible assumption | omega); (case p1q216 => first | with_reducible assumption | omega); (case p2q216 => first | with_reducible assumption | k_dflt (have hq := (‹redF _ _ _ = some _›); refine Eq.trans ?_ hq; law_clear; subst_vars; exact rfl) | kwd_less); k_whole); intro r9 p9 z9 u9 h9 tk9 e9 F9 N9; (try k_sweep); (try dsimp only); (try k_fold); skip))
  k_with "call ref" => ((k_here; (with_reducible show wpAny _ _ (call (Value.ref 303) _ _) _ _ _); k_dflt (refine' log_bounds_c ?k1q217 ?k2q217 ?k3q217 ?k4q217 ?k5q217 ?kKq217 ?kdq217 ?kuq217 ?m0q217 ?m1q217 ?p0q217 ?p1q217 ?p2q217 ?p3q217 ?p4q217 ?_; (case k1q217 => k_asm); (case k2q217 => k_asm); (case k3q217 => k_asm); (case k4q217 => k_asm); (case k5q217 => k_asm); (case kKq217 => first | exact rfl | assumption); (case kdq217 => ktr_room); (case kuq217 => ktr_units); (case m0q217 => k_mem); (case m1q217 => k_mem); (case p0q217 => first | with_reducible assumption | omega); (case p1q217 => first | with_reducible assumption | omega); (case p2q217 => first | with_reducible assumption | omega); (case p3q217 => first | with_reducible assumption | omega); (case p4q217 => first | with_reducible assumption | k_dflt (have hq := (‹logB _ _ _ = some _›); refine Eq.trans ?_ hq; law_clear; subst_vars; exact rfl) | kwd_less); k_whole); intro r9 z9 y9 t9 u9 h9 tk9 e9 f9 F9 N9; (try k_sweep); (try dsimp only); (try k_fold); skip))
  trivial
section
variable {w : World} {loose : List Str} {mean : ExcName → Option Value} {mg mb : Str → Option Value}
  {dp un : Nat} {gd : Option (List Code)} {cn : Str} {cs : Scope} {a : Addr} {ccd : Value} {cl : List (Str × Addr)} {outer : List Env} {A₀ : Around} {base h₀ : Heap} {L : Addr} {m : Str → Option Value} {news : List (Addr × Obj)} {s : Shared} {Q E : Value → Shared → Prop}

theorem exp_real_c {p : Int} {t9 : Tok} {v : Int × Int} {ps : Array Value} {c1 : Addr} {o1 : Obj} {x1 y1 : Int} {j1 t1 k1 u1 : Tok} {a1 d1 : Addr}
  (B : Below A₀ base outer h₀) (F : Fr h₀ L s.heap m) (X : (hd.heap_1 w.params).In h₀) (N : News h₀ L s.heap ((291, tabObj ps) :: (c1, o1) :: news)) (T : Top topProg loose mean mg mb h₀) (hk : cs.kind = .function)
  (hdp : dp + 24 < recursionLimit) (hun : un + 320 < cLine)
  (Ma1 : (a1, instObj (nat_lit 89) d1) ∈ news) (Md1 : (d1, realO w j1 x1 t1 k1 y1 u1) ∈ news) (hC : CodeHd h₀ 295 291) (ok : TabOk posE qualE ps c1 o1) (hne : ∀ q ∈ news, q.1 ≠ 291) (h0 : 0 ≤ p) (h1 : p < 1000) (hv : expF p x1 y1 = some v)
  (hret : ∀ r d z1 z2 j u1 k u2 ps' c' oc' h' tk', z1 = (v).1 → z2 = (v).2 → TabOk posE qualE ps' c' oc' → Fr h₀ L h' m → News h₀ L h' ((r, instObj (nat_lit 89) d) :: (d, realO w j z1 u1 k z2 u2) :: (291, tabObj ps') :: (c', oc') :: news) → Q (.ref r) { s with heap := h', toks := tk' }) :
  wpAny (model Challenge.rw_nt0168_01.row.prog w) (ktrTop dp un gd cn cs L a ccd cl outer) (call (.ref 296) [.int p t9, .ref a1]) Q E s := by
  have hn : expF p x1 y1 ≠ none := by rw [hv]; exact nofun
  obtain ⟨g1, g2, g3, tm, ⟨f1, f2⟩, r1, hr, hb, hdc, hv1⟩ := expF_parts hn
  rw [hv1] at hv
  obtain ⟨w1, w2, hl, b1, b2, b3, b4, b5, b6, b7, b8, b9, b10⟩ := bndF_parts hb
  obtain ⟨k1, k2⟩ := decF_parts hdc
  simp only [p2_eq] at k1 k2
  have q1 : 0 ≤ p + 12 + 17 := by omega
  have q2 : p + 12 + 17 < 9000 := by omega
  have q3 : p + 12 + 17 < 10000 := by omega
  refine wpAny_call ?_
  k_dflt (refine' code_defC ?k1 ?k2 ?k3 ?k4 ?k5 ?kA ?kF ?kK ?k6 ?k7 ?k8 ?k9 ?kB ?kD ?_ ?c2 ?c3 ?c4; (case kA => exact rfl); (case kF => exact rfl); (case kK => assumption); (case k1 => k_asm); (case k2 => k_asm); (case k3 => k_asm); (case k4 => k_asm); (case k5 => k_asm); (case k6 => k_is); (case k7 => k_is); (case k8 => ktr_room); (case k9 => exact BindsTo.of_eq rfl); (case kB => exact rfl); (case kD => decide +kernel); (case c2 => exact rfl); (case c3 => exact rfl); (case c4 => exact rfl); k_whole; intro g' L' h' tk' cells' FG' F' N' Y' B' X' T' l1; (try (replace l1 := allLt_of l1; dsimp only [AllLt] at l1)); k_cells Y'; (try simp only [List.cons_append, List.nil_append] at N'); (try dsimp only); (try k_lift B'); (try k_fold))
  k_steps
  all_goals (refine retTR hret (by assumption) (by k_asm) (by k_mem) (by k_mem) (Or.inr ⟨rfl, by assumption⟩) (by k_mem) (by k_mem) (by first | ((repeat (first | exact sub_refl | refine sub_cons ?_)); done) | (intro p hp; first | exact hp | (repeat (first | exact hp | refine List.mem_cons_of_mem _ ?_)))) ?_)
  all_goals ((try law_clear); subst_vars; rfl)
end
end
section
open PySem PySem.W PySem.Spec PySem.Calls PyProof.Rows
set_option Elab.async false
set_option maxRecDepth 100000
set_option maxHeartbeats 0
theorem reg_42 : True := by
  k_with_none
  k_with "lt9" => (first | with_reducible assumption | (refine ltc (by with_reducible assumption) ?_; first | exact pj1 | exact pj2 | exact pj3 | exact pj4 | exact pj5 | exact pj6 | exact pj7 | exact pj8 | exact pj9 | exact pj10 | exact pj11 | exact pj12 | exact pj13 | exact pj14 | exact qj1 | exact qj2 | exact qj3 | exact qj4 | exact qj5 | exact qj6 | exact qj7 | exact qj8 | exact qj9 | exact qj10 | exact qj11 | exact qj12 | exact qj13 | exact qj14))
  k_with "ne9" => (first | decide | (refine Nat.ne_of_lt ?_; walk_at "lt9") | (refine Nat.ne_of_gt ?_; walk_at "lt9") | exact Nat.ne_of_lt (Nat.lt_succ_self _) | exact Nat.ne_of_gt (Nat.lt_succ_self _) | (refine ne_up1 ?_; walk_at "lt9") | (refine ne_up2 ?_; walk_at "lt9") | (refine Ne.symm (ne_up1 ?_); walk_at "lt9") | (refine Ne.symm (ne_up2 ?_); walk_at "lt9"))
  trivial
-- Sm facts
theorem reg_43 : True := by
  k_with "binaryOp FloorDiv int int" => ((k_here; (with_reducible refine floordiv_int ?feq220 ?_ (Or.inl (Sm.py ?fpq220))); (case feq220 => first | decide | omega | assumption); (case fpq220 => ktr_rel)))
  k_with "binaryOp LShift int int" => ((k_here; (with_reducible refine lshift_int ?feq221 ?fpq221 ?_); (case feq221 => omega); (case fpq221 => exact Sm.shl (by ktr_rel) (by omega))))
  k_with "ite" => ((k_here; k_openite; k_spoken; first
  | (refine ite_pos (by ((try simp only [beq_iff_eq, bne_iff_ne, ne_eq, Bool.not_eq_true', beq_eq_false_iff_ne]); (try law_clear); (try subst_vars); first | assumption | exact decide_eq_true rfl | exact Int.not_le.mp (by assumption) | exact Int.not_lt.mp (by assumption) | (law_clear; omega))) ?_; walk_say "PRUNED own")
  | (refine ite_neg (by ((try simp only [beq_iff_eq, bne_iff_ne, ne_eq, Bool.not_eq_true', beq_eq_false_iff_ne]); (try law_clear); (try subst_vars); first | assumption | exact Int.not_le.mpr (by assumption) | exact Int.not_lt.mpr (by assumption) | (law_clear; omega))) ?_; walk_say "PRUNED own")))
  k_with "subscriptTail" => ((k_here; (with_reducible show wpAny _ _ (subscriptTail _ _ (Value.ref _) (Value.int _ _)) _ _ _); k_dflt (refine' item_tupleT ?tq223 ?aq223 ?bq223 ?cq223 ?dq223 ?_; (case tq223 => exact News.isTup (by k_asm) (by k_mem)); (case aq223 => decide); (case bq223 => decide); (case cq223 => rfl); (case dq223 => rfl); k_whole)))
  k_with "subscriptTail Name Constant ref int" => ((k_here; (with_reducible show wpAny _ _ (subscriptTail _ _ (Value.ref _) (Value.int _ _)) _ _ _); k_dflt (refine' item_tupleT ?tq224 ?aq224 ?bq224 ?cq224 ?dq224 ?_; (case tq224 => exact News.isTup (by k_asm) (by k_mem)); (case aq224 => decide); (case bq224 => decide); (case cq224 => rfl); (case dq224 => rfl); k_whole)))
  k_with "callWith ref" => ((k_here; k_dflt (refine' callWith_K ?k1q225 ?k2q225 ?_; (case k1q225 => k_asm); (case k2q225 => k_is); k_whole)))
  k_with "call builtin:divmod" => ((k_here; (with_reducible show wpAny _ _ (call (Value.builtin _) [Value.int _ _, Value.int _ _]) _ _ _); k_dflt (refine' divmod_N ?k1q226 ?k2q226 ?feq226 ?_ (Or.inl (Sm.py ?fpq226)); (case k1q226 => k_asm); (case k2q226 => k_asm); (case feq226 => first | omega | exact Int.ne_of_gt (Int.mul_pos (by omega) (pow2_pos _))); (case fpq226 => ktr_rel)); intro h' F' N'; (try k_sweep)))
  k_with "call builtin:max" => ((k_here; (with_reducible show wpAny _ _ (call (Value.builtin _) [Value.ref _]) _ _ _); k_dflt (first
  | (refine' max_tup ?k0q227 ?k1q227 ?k2q227 ?k3q227 ?_; (case k0q227 => exact rfl); (case k1q227 => k_asm); (case k2q227 => k_asm); (case k3q227 => exact News.isTup (by k_asm) (by k_mem)))
  | (refine' max_list4 ?k0q227 ?k1q227 ?k2q227 ?k3q227 ?_; (case k0q227 => exact rfl); (case k1q227 => k_asm); (case k2q227 => k_asm); (case k3q227 => exact News.isList (by k_asm) (by k_mem)))); k_whole; intro h' r' tk' F' N'; (try k_sweep)))
  k_with "call builtin:min" => ((k_here; (with_reducible show wpAny _ _ (call (Value.builtin _) [Value.ref _]) _ _ _); k_dflt (first
  | (refine' min_tup ?k0q228 ?k1q228 ?k2q228 ?k3q228 ?_; (case k0q228 => exact rfl); (case k1q228 => k_asm); (case k2q228 => k_asm); (case k3q228 => exact News.isTup (by k_asm) (by k_mem)))
  | (refine' min_list4 ?k0q228 ?k1q228 ?k2q228 ?k3q228 ?_; (case k0q228 => exact rfl); (case k1q228 => k_asm); (case k2q228 => k_asm); (case k3q228 => exact News.isList (by k_asm) (by k_mem)))); k_whole; intro h' r' tk' F' N'; (try k_sweep)))
  k_with "storeName" => ((k_here; k_dflt (refine' storeX_S (by k_asm) (by k_asm) rfl (by k_mem) (by assumption) (by repeat' (first | exact Sift.all (by assumption) | exact Sift.all (allLt_ne (And.right (And.right ‹_ ∧ _ ∧ AllLt _ _›)) (by omega)) | exact Sift.all (ltAll (by assumption) (by omega)) | (apply Sift.keep; (case h => first | (refine neN ?_; first | walk_at "ne9" | omega) | exact newsNe (by assumption) (by k_mem) (by k_mem) (by assumption) (by intro _ e; cases e))) | apply Sift.drop)) ?_ rfl rfl; k_whole); intro h' o' F' N' d1'; (try dsimp only)))
  k_with "exec FunctionDef" => ((k_here; k_dflt (refine' nestDef_K ?d0q230 ?k0q230 ?a0q230 ?_; (case d0q230 => exact rfl); (case k0q230 => exact rfl); (case a0q230 => exact rfl)); k_dflt (refine' nest_S (by k_asm) (by k_asm) (by k_asm) (by first | assumption | exact CodeHd.keeps (by assumption) (Fr.keep (by assumption))) rfl (by assumption) (by k_mem) (by k_mem) (by repeat' (first | exact Sift.all (by assumption) | exact Sift.all (allLt_ne (And.right (And.right ‹_ ∧ _ ∧ AllLt _ _›)) (by omega)) | exact Sift.all (ltAll (by assumption) (by omega)) | (apply Sift.keep; (case h => first | (refine neN ?_; first | walk_at "ne9" | omega) | exact newsNe (by assumption) (by k_mem) (by k_mem) (by assumption) (by intro _ e; cases e))) | apply Sift.drop)) (by intro c9; kn_triples) (by intro c9; kn_hit) rfl ?_; k_whole); intro f' c' oc' doc' ct' h' tk' F' N' ok'; (have ok2' := ok'); (obtain ⟨vs', t', d1', d2'⟩ := ok2'); (try dsimp only at N')))
  k_with "eval Lambda" => ((k_here; k_dflt (refine' kla_eval ?d0q231 ?_; (case d0q231 => exact rfl)); k_dflt (refine' lam_S (by k_asm) (by k_asm) (by k_asm) (by first | assumption | exact CodeHd.keeps (by assumption) (Fr.keep (by assumption))) rfl (by assumption) (by k_mem) (by k_mem) (by repeat' (first | exact Sift.all (by assumption) | exact Sift.all (allLt_ne (And.right (And.right ‹_ ∧ _ ∧ AllLt _ _›)) (by omega)) | exact Sift.all (ltAll (by assumption) (by omega)) | (apply Sift.keep; (case h => first | (refine neN ?_; first | walk_at "ne9" | omega) | exact newsNe (by assumption) (by k_mem) (by k_mem) (by assumption) (by intro _ e; cases e))) | apply Sift.drop)) (by intro c9; kn_triples) (by intro c9; kn_hit) rfl ?_; k_whole); intro f' c' oc' ct' h' tk' F' N' ok'; (have ok2' := ok'); (obtain ⟨vs', t', d1', d2'⟩ := ok2'); (try dsimp only at N')))
  k_with "OnceB" => ((dsimp only [OnceB]))
  k_with "exec While" => ((k_here; k_dflt (refine' while_once (by k_asm) (by k_asm) ?_); k_whole; intro h' tk' F' N'; (try dsimp only); (try k_fold)))
  k_with "call ref" => ((k_here; (with_reducible show wpAny _ _ (call (Value.ref 282) _ _) _ _ _); k_dflt (refine wpAny_call ?_; ktr_enter)))
  k_with "call ref" => ((k_here; (with_reducible show wpAny _ _ (call (Value.ref 100) _ _) _ _ _); k_dflt (refine' size_of_c ?k1q235 ?k2q235 ?k3q235 ?k4q235 ?k5q235 ?kKq235 ?kdq235 ?kuq235   ?_; (case k1q235 => k_asm); (case k2q235 => k_asm); (case k3q235 => k_asm); (case k4q235 => k_asm); (case k5q235 => k_asm); (case kKq235 => first | exact rfl | assumption); (case kdq235 => ktr_room); (case kuq235 => ktr_units); k_whole); intro z9 t9 h9 tk9 e9 F9 N9; (try k_sweep); (try dsimp only); (try k_fold); skip))
  k_with "call ref" => ((k_here; (with_reducible show wpAny _ _ (call (Value.ref 107) _ _) _ _ _); k_dflt (refine' sign_of_whole_c ?k1q236 ?k2q236 ?k3q236 ?k4q236 ?k5q236 ?kKq236 ?kdq236 ?kuq236   ?_; (case k1q236 => k_asm); (case k2q236 => k_asm); (case k3q236 => k_asm); (case k4q236 => k_asm); (case k5q236 => k_asm); (case kKq236 => first | exact rfl | assumption); (case kdq236 => ktr_room); (case kuq236 => ktr_units); k_whole); intro z9 t9 h9 tk9 e9 F9 N9; (try k_sweep); (try dsimp only); (try k_fold); skip))
  k_with "call ref" => ((k_here; (with_reducible show wpAny _ _ (call (Value.ref 114) _ _) _ _ _); k_dflt (refine' zeros_below_c ?k1q237 ?k2q237 ?k3q237 ?k4q237 ?k5q237 ?kKq237 ?kdq237 ?kuq237   ?_; (case k1q237 => k_asm); (case k2q237 => k_asm); (case k3q237 => k_asm); (case k4q237 => k_asm); (case k5q237 => k_asm); (case kKq237 => first | exact rfl | assumption); (case kdq237 => ktr_room); (case kuq237 => ktr_units); k_whole); intro z9 t9 h9 tk9 e9 F9 N9; (try k_sweep); (try dsimp only); (try k_fold); skip))
  k_with "call ref" => ((k_here; (with_reducible show wpAny _ _ (call (Value.ref 177) _ _) _ _ _); k_dflt (refine' up_shift_c ?k1q238 ?k2q238 ?k3q238 ?k4q238 ?k5q238 ?kKq238 ?kdq238 ?kuq238  ?p0q238 ?_; (case k1q238 => k_asm); (case k2q238 => k_asm); (case k3q238 => k_asm); (case k4q238 => k_asm); (case k5q238 => k_asm); (case kKq238 => first | exact rfl | assumption); (case kdq238 => ktr_room); (case kuq238 => ktr_units); (case p0q238 => first | with_reducible assumption | omega); k_whole); intro z9 t9 h9 tk9 e9 F9 N9; (try k_sweep); (try dsimp only); (try k_fold); skip))
  k_with "call ref" => ((k_here; (with_reducible show wpAny _ _ (call (Value.ref 184) _ _) _ _ _); k_dflt (refine' up_over_c ?k1q239 ?k2q239 ?k3q239 ?k4q239 ?k5q239 ?kKq239 ?kdq239 ?kuq239  ?p0q239 ?p1q239 ?_; (case k1q239 => k_asm); (case k2q239 => k_asm); (case k3q239 => k_asm); (case k4q239 => k_asm); (case k5q239 => k_asm); (case kKq239 => first | exact rfl | assumption); (case kdq239 => ktr_room); (case kuq239 => ktr_units); (case p0q239 => first | with_reducible assumption | omega); (case p1q239 => ktr_rel); k_whole); intro z9 t9 h9 tk9 e9 F9 N9; (try k_sweep); (try dsimp only); (try k_fold); skip))
  k_with "call ref" => ((k_here; (with_reducible show wpAny _ _ (call (Value.ref 142) _ _) _ _ _); k_dflt (refine' with_sticky_c ?k1q240 ?k2q240 ?k3q240 ?k4q240 ?k5q240 ?kKq240 ?kdq240 ?kuq240   ?_; (case k1q240 => k_asm); (case k2q240 => k_asm); (case k3q240 => k_asm); (case k4q240 => k_asm); (case k5q240 => k_asm); (case kKq240 => first | exact rfl | assumption); (case kdq240 => ktr_room); (case kuq240 => ktr_units); k_whole); intro z9 t9 h9 tk9 e9 F9 N9; (try k_sweep); (try dsimp only); (try k_fold); skip))
  k_with "call ref" => ((k_here; (with_reducible show wpAny _ _ (call (Value.ref 128) _ _) _ _ _); k_dflt (refine' nearest_shift_c ?k1q241 ?k2q241 ?k3q241 ?k4q241 ?k5q241 ?kKq241 ?kdq241 ?kuq241  ?p0q241 ?p1q241 ?_; (case k1q241 => k_asm); (case k2q241 => k_asm); (case k3q241 => k_asm); (case k4q241 => k_asm); (case k5q241 => k_asm); (case kKq241 => first | exact rfl | assumption); (case kdq241 => ktr_room); (case kuq241 => ktr_units); (case p0q241 => first | with_reducible assumption | omega); (case p1q241 => first | with_reducible assumption | omega); k_whole); intro z9 t9 h9 tk9 e9 F9 N9; (try k_sweep); (try dsimp only); (try k_fold); skip))
  k_with "call ref" => ((k_here; (with_reducible show wpAny _ _ (call (Value.ref 198) _ _) _ _ _); k_dflt (refine' more_of_c ?k1q242 ?k2q242 ?k3q242 ?k4q242 ?k5q242 ?kKq242 ?kdq242 ?kuq242 ?m0q242 ?m1q242  ?_; (case k1q242 => k_asm); (case k2q242 => k_asm); (case k3q242 => k_asm); (case k4q242 => k_asm); (case k5q242 => k_asm); (case kKq242 => first | exact rfl | assumption); (case kdq242 => ktr_room); (case kuq242 => ktr_units); (case m0q242 => k_mem); (case m1q242 => k_mem); k_whole); intro r9 z9 y9 t9 u9 h9 tk9 e9 f9 F9 N9; (try k_sweep); (try dsimp only); (try k_fold); skip))
  k_with "call ref" => ((k_here; (with_reducible show wpAny _ _ (call (Value.ref 205) _ _) _ _ _); k_dflt (refine' less_of_c ?k1q243 ?k2q243 ?k3q243 ?k4q243 ?k5q243 ?kKq243 ?kdq243 ?kuq243 ?m0q243 ?m1q243  ?_; (case k1q243 => k_asm); (case k2q243 => k_asm); (case k3q243 => k_asm); (case k4q243 => k_asm); (case k5q243 => k_asm); (case kKq243 => first | exact rfl | assumption); (case kdq243 => ktr_room); (case kuq243 => ktr_units); (case m0q243 => k_mem); (case m1q243 => k_mem); k_whole); intro r9 z9 y9 t9 u9 h9 tk9 e9 f9 F9 N9; (try k_sweep); (try dsimp only); (try k_fold); skip))
  k_with "call ref" => ((k_here; (with_reducible show wpAny _ _ (call (Value.ref 212) _ _) _ _ _); k_dflt (refine' often_c ?k1q244 ?k2q244 ?k3q244 ?k4q244 ?k5q244 ?kKq244 ?kdq244 ?kuq244 ?m0q244 ?p0q244 ?p1q244 ?_; (case k1q244 => k_asm); (case k2q244 => k_asm); (case k3q244 => k_asm); (case k4q244 => k_asm); (case k5q244 => k_asm); (case kKq244 => first | exact rfl | assumption); (case kdq244 => ktr_room); (case kuq244 => ktr_units); (case m0q244 => k_mem); (case p0q244 => mul_fits); (case p1q244 => mul_fits); k_whole); intro r9 z9 y9 t9 u9 h9 tk9 e9 f9 F9 N9; (try k_sweep); (try dsimp only); (try k_fold); skip))
  k_with "call ref" => ((k_here; (with_reducible show wpAny _ _ (call (Value.ref 233) _ _) _ _ _); k_dflt (refine' widened_c ?k1q245 ?k2q245 ?k3q245 ?k4q245 ?k5q245 ?kKq245 ?kdq245 ?kuq245 ?m0q245  ?_; (case k1q245 => k_asm); (case k2q245 => k_asm); (case k3q245 => k_asm); (case k4q245 => k_asm); (case k5q245 => k_asm); (case kKq245 => first | exact rfl | assumption); (case kdq245 => ktr_room); (case kuq245 => ktr_units); (case m0q245 => k_mem); k_whole); intro r9 z9 y9 t9 u9 h9 tk9 e9 f9 F9 N9; (try k_sweep); (try dsimp only); (try k_fold); skip))
  k_with "call ref" => ((k_here; (with_reducible show wpAny _ _ (call (Value.ref 240) _ _) _ _ _); k_dflt (refine' greatest_of_c ?k1q246 ?k2q246 ?k3q246 ?k4q246 ?k5q246 ?kKq246 ?kdq246 ?kuq246 ?m0q246  ?_; (case k1q246 => k_asm); (case k2q246 => k_asm); (case k3q246 => k_asm); (case k4q246 => k_asm); (case k5q246 => k_asm); (case kKq246 => first | exact rfl | assumption); (case kdq246 => ktr_room); (case kuq246 => ktr_units); (case m0q246 => k_mem); k_whole); intro z9 t9 h9 tk9 e9 F9 N9; (try k_sweep); (try dsimp only); (try k_fold); skip))
  k_with "call ref" => ((k_here; (with_reducible show wpAny _ _ (call (Value.ref 226) _ _) _ _ _); k_dflt (refine' part_of_c ?k1q247 ?k2q247 ?k3q247 ?k4q247 ?k5q247 ?kKq247 ?kdq247 ?kuq247 ?m0q247 ?p0q247 ?p1q247 ?_; (case k1q247 => k_asm); (case k2q247 => k_asm); (case k3q247 => k_asm); (case k4q247 => k_asm); (case k5q247 => k_asm); (case kKq247 => first | exact rfl | assumption); (case kdq247 => ktr_room); (case kuq247 => ktr_units); (case m0q247 => k_mem); (case p0q247 => first | with_reducible assumption | omega); (case p1q247 => ktr_rel); k_whole); intro r9 z9 y9 t9 u9 h9 tk9 e9 f9 F9 N9; (try k_sweep); (try dsimp only); (try k_fold); skip))
  k_with "call ref" => ((k_here; (with_reducible show wpAny _ _ (call (Value.ref 219) _ _) _ _ _); k_dflt (refine' product_of_c ?k1q248 ?k2q248 ?k3q248 ?k4q248 ?k5q248 ?kKq248 ?kdq248 ?kuq248 ?m0q248 ?m1q248 ?p0q248 ?p1q248 ?p2q248 ?p3q248 ?p4q248 ?_; (case k1q248 => k_asm); (case k2q248 => k_asm); (case k3q248 => k_asm); (case k4q248 => k_asm); (case k5q248 => k_asm); (case kKq248 => first | exact rfl | assumption); (case kdq248 => ktr_room); (case kuq248 => ktr_units); (case m0q248 => k_mem); (case m1q248 => k_mem); (case p0q248 => first | with_reducible assumption | omega); (case p1q248 => ktr_rel); (case p2q248 => ktr_rel); (case p3q248 => ktr_rel); (case p4q248 => ktr_rel); k_whole); intro r9 z9 y9 t9 u9 h9 tk9 e9 f9 F9 N9; (try k_sweep); (try dsimp only); (try k_fold); skip))
  k_with "call ref" => ((k_here; (with_reducible show wpAny _ _ (call (Value.ref 191) _ _) _ _ _); k_dflt (refine' fraction_bounds_c ?k1q249 ?k2q249 ?k3q249 ?k4q249 ?k5q249 ?kKq249 ?kdq249 ?kuq249  ?p0q249 ?p1q249 ?p2q249 ?p3q249 ?p4q249 ?_; (case k1q249 => k_asm); (case k2q249 => k_asm); (case k3q249 => k_asm); (case k4q249 => k_asm); (case k5q249 => k_asm); (case kKq249 => first | exact rfl | assumption); (case kdq249 => ktr_room); (case kuq249 => ktr_units); (case p0q249 => first | with_reducible assumption | omega); (case p1q249 => first | with_reducible assumption | omega); (case p2q249 => ktr_rel); (case p3q249 => first | with_reducible assumption | omega); (case p4q249 => ktr_rel); k_whole); intro r9 z9 y9 t9 u9 h9 tk9 e9 f9 F9 N9; (try k_sweep); (try dsimp only); (try k_fold); skip))
  k_with "call ref" => ((k_here; (with_reducible show wpAny _ _ (call (Value.ref 89) _ _) _ _ _); k_dflt (refine' real_c ?k1q250 ?k2q250 ?k3q250 ?k4q250 ?k5q250 ?kKq250 ?kdq250 ?kuq250   ?_; (case k1q250 => k_asm); (case k2q250 => k_asm); (case k3q250 => k_asm); (case k4q250 => k_asm); (case k5q250 => k_asm); (case kKq250 => first | exact rfl | assumption); (case kdq250 => ktr_room); (case kuq250 => ktr_units); k_whole); intro r9 d9 z9 y9 j9 t9 i9 u9 h9 tk9 e9 f9 F9 N9; (try k_sweep); (try dsimp only); (try k_fold); skip))
  k_with "call ref" => ((k_here; (with_reducible show wpAny _ _ (call (Value.ref 156) _ _) _ _ _); k_dflt (refine' place_of_c ?k1q251 ?k2q251 ?k3q251 ?k4q251 ?k5q251 ?kKq251 ?kdq251 ?kuq251 ?m0q251 ?m1q251  ?_; (case k1q251 => k_asm); (case k2q251 => k_asm); (case k3q251 => k_asm); (case k4q251 => k_asm); (case k5q251 => k_asm); (case kKq251 => first | exact rfl | assumption); (case kdq251 => ktr_room); (case kuq251 => ktr_units); (case m0q251 => k_mem); (case m1q251 => k_mem); k_whole); intro z9 t9 h9 tk9 e9 F9 N9; (try k_sweep); (try dsimp only); (try k_fold); skip))
  k_with "call ref" => ((k_here; (with_reducible show wpAny _ _ (call (Value.ref 163) _ _) _ _ _); k_dflt (refine' sign_of_c ?k1q252 ?k2q252 ?k3q252 ?k4q252 ?k5q252 ?kKq252 ?kdq252 ?kuq252 ?m0q252 ?m1q252  ?_; (case k1q252 => k_asm); (case k2q252 => k_asm); (case k3q252 => k_asm); (case k4q252 => k_asm); (case k5q252 => k_asm); (case kKq252 => first | exact rfl | assumption); (case kdq252 => ktr_room); (case kuq252 => ktr_units); (case m0q252 => k_mem); (case m1q252 => k_mem); k_whole); intro z9 t9 h9 tk9 e9 F9 N9; (try k_sweep); (try dsimp only); (try k_fold); skip))
  k_with "call ref" => ((k_here; (with_reducible show wpAny _ _ (call (Value.ref 170) _ _) _ _ _); k_dflt (refine' same_real_c ?k1q253 ?k2q253 ?k3q253 ?k4q253 ?k5q253 ?kKq253 ?kdq253 ?kuq253 ?m0q253 ?m1q253 ?m2q253 ?m3q253  ?_; (case k1q253 => k_asm); (case k2q253 => k_asm); (case k3q253 => k_asm); (case k4q253 => k_asm); (case k5q253 => k_asm); (case kKq253 => first | exact rfl | assumption); (case kdq253 => ktr_room); (case kuq253 => ktr_units); (case m0q253 => k_mem); (case m1q253 => k_mem); (case m2q253 => k_mem); (case m3q253 => k_mem); k_whole); intro h9 tk9 F9 N9; (try k_sweep); (try dsimp only); (try k_fold); skip))
  k_with "call ref" => ((k_here; (with_reducible show wpAny _ _ (call (Value.ref 247) _ _) _ _ _); k_dflt (refine' fraction_of_c ?k1q254 ?k2q254 ?k3q254 ?k4q254 ?k5q254 ?kKq254 ?kdq254 ?kuq254 ?m0q254 ?m1q254 ?p0q254 ?p1q254 ?p2q254 ?_; (case k1q254 => k_asm); (case k2q254 => k_asm); (case k3q254 => k_asm); (case k4q254 => k_asm); (case k5q254 => k_asm); (case kKq254 => first | exact rfl | assumption); (case kdq254 => ktr_room); (case kuq254 => ktr_units); (case m0q254 => k_mem); (case m1q254 => k_mem); (case p0q254 => ktr_rel); (case p1q254 => first | with_reducible assumption | omega); (case p2q254 => first | with_reducible assumption | omega); k_whole); intro r9 z9 y9 t9 u9 h9 tk9 e9 f9 F9 N9; (try k_sweep); (try dsimp only); (try k_fold); skip))
  k_with "call ref" => ((k_here; (with_reducible show wpAny _ _ (call (Value.ref 254) _ _) _ _ _); k_dflt (refine' inverse_series_c ?k1q255 ?k2q255 ?k3q255 ?k4q255 ?k5q255 ?kKq255 ?kdq255 ?kuq255  ?p0q255 ?p1q255 ?p2q255 ?_; (case k1q255 => k_asm); (case k2q255 => k_asm); (case k3q255 => k_asm); (case k4q255 => k_asm); (case k5q255 => k_asm); (case kKq255 => first | exact rfl | assumption); (case kdq255 => ktr_room); (case kuq255 => ktr_units); (case p0q255 => first | with_reducible assumption | omega); (case p1q255 => first | with_reducible assumption | omega); (case p2q255 => first | with_reducible assumption | k_dflt (have hq := (‹invF _ _ _ _ _ = some _›); refine Eq.trans ?_ hq; law_clear; subst_vars; exact rfl) | kwd_less); k_whole); intro r9 z9 y9 t9 u9 h9 tk9 e9 f9 F9 N9; (try k_sweep); (try dsimp only); (try k_fold); skip))
  k_with "call ref" => ((k_here; (with_reducible show wpAny _ _ (call (Value.ref 261) _ _) _ _ _); k_dflt (refine' log_of_two_c ?k1q256 ?k2q256 ?k3q256 ?k4q256 ?k5q256 ?kKq256 ?kdq256 ?kuq256  ?p0q256 ?p1q256 ?p2q256 ?_; (case k1q256 => k_asm); (case k2q256 => k_asm); (case k3q256 => k_asm); (case k4q256 => k_asm); (case k5q256 => k_asm); (case kKq256 => first | exact rfl | assumption); (case kdq256 => ktr_room); (case kuq256 => ktr_units); (case p0q256 => first | with_reducible assumption | omega); (case p1q256 => first | with_reducible assumption | omega); (case p2q256 => first | with_reducible assumption | k_dflt (have hq := (‹log2F _ = some _›); refine Eq.trans ?_ hq; law_clear; subst_vars; exact rfl) | kwd_less); k_whole); intro r9 z9 y9 t9 u9 h9 tk9 e9 f9 F9 N9; (try k_sweep); (try dsimp only); (try k_fold); skip))
  k_with "call ref" => ((k_here; (with_reducible show wpAny _ _ (call (Value.ref 268) _ _) _ _ _); k_dflt (refine' exp_series_c ?k1q257 ?k2q257 ?k3q257 ?k4q257 ?k5q257 ?kKq257 ?kdq257 ?kuq257 ?m0q257 ?p0q257 ?p1q257 ?p2q257 ?_; (case k1q257 => k_asm); (case k2q257 => k_asm); (case k3q257 => k_asm); (case k4q257 => k_asm); (case k5q257 => k_asm); (case kKq257 => first | exact rfl | assumption); (case kdq257 => ktr_room); (case kuq257 => ktr_units); (case m0q257 => k_mem); (case p0q257 => first | with_reducible assumption | omega); (case p1q257 => first | with_reducible assumption | omega); (case p2q257 => first | with_reducible assumption | k_dflt (have hq := (‹expS _ _ = some _›); refine Eq.trans ?_ hq; law_clear; subst_vars; exact rfl) | kwd_less); k_whole); intro r9 z9 y9 t9 u9 h9 tk9 e9 f9 F9 N9; (try k_sweep); (try dsimp only); (try k_fold); skip))
  k_with "call ref" => ((k_here; (with_reducible show wpAny _ _ (call (Value.ref 121) _ _) _ _ _); k_dflt (refine' lean_c ?k1q258 ?k2q258 ?k3q258 ?k4q258 ?k5q258 ?kKq258 ?kdq258 ?kuq258  ?p0q258 ?_; (case k1q258 => k_asm); (case k2q258 => k_asm); (case k3q258 => k_asm); (case k4q258 => k_asm); (case k5q258 => k_asm); (case kKq258 => first | exact rfl | assumption); (case kdq258 => ktr_room); (case kuq258 => ktr_units); (case p0q258 => first | with_reducible assumption | k_dflt (have hq := (‹leanF _ _ = some _›); refine Eq.trans ?_ hq; law_clear; subst_vars; exact rfl) | kwd_less); k_whole); intro r9 d9 z9 y9 j9 t9 i9 u9 h9 tk9 e9 f9 F9 N9; (try k_sweep); (try dsimp only); (try k_fold); skip))
  k_with "call ref" => ((k_here; (with_reducible show wpAny _ _ (call (Value.ref 135) _ _) _ _ _); k_dflt (refine' shifted_round_c ?k1q259 ?k2q259 ?k3q259 ?k4q259 ?k5q259 ?kKq259 ?kdq259 ?kuq259  ?p0q259 ?_; (case k1q259 => k_asm); (case k2q259 => k_asm); (case k3q259 => k_asm); (case k4q259 => k_asm); (case k5q259 => k_asm); (case kKq259 => first | exact rfl | assumption); (case kdq259 => ktr_room); (case kuq259 => ktr_units); (case p0q259 => first | with_reducible assumption | k_dflt (have hq := (‹shiftedF _ _ _ = some _›); refine Eq.trans ?_ hq; law_clear; subst_vars; exact rfl) | kwd_less); k_whole); intro r9 d9 z9 y9 j9 t9 i9 u9 h9 tk9 e9 f9 F9 N9; (try k_sweep); (try dsimp only); (try k_fold); skip))
  k_with "call ref" => ((k_here; (with_reducible show wpAny _ _ (call (Value.ref 149) _ _) _ _ _); k_dflt (refine' rounded_c ?k1q260 ?k2q260 ?k3q260 ?k4q260 ?k5q260 ?kKq260 ?kdq260 ?kuq260  ?p0q260 ?_; (case k1q260 => k_asm); (case k2q260 => k_asm); (case k3q260 => k_asm); (case k4q260 => k_asm); (case k5q260 => k_asm); (case kKq260 => first | exact rfl | assumption); (case kdq260 => ktr_room); (case kuq260 => ktr_units); (case p0q260 => first | with_reducible assumption | k_dflt (refine ev3 rfl (by first | with_reducible assumption | exact rfl) (by first | with_reducible assumption | exact rfl) (by assumption)) | kwd_less); k_whole); intro r9 d9 z9 y9 j9 t9 i9 u9 h9 tk9 e9 f9 F9 N9; (try k_sweep); (try dsimp only); (try k_fold); skip))
  k_with "call ref" => ((k_here; (with_reducible show wpAny _ _ (call (Value.ref 275) _ _) _ _ _); k_dflt (refine' odd_series_c ?k1q261 ?k2q261 ?k3q261 ?k4q261 ?k5q261 ?kKq261 ?kdq261 ?kuq261  ?p0q261 ?p1q261 ?p2q261 ?_; (case k1q261 => k_asm); (case k2q261 => k_asm); (case k3q261 => k_asm); (case k4q261 => k_asm); (case k5q261 => k_asm); (case kKq261 => first | exact rfl | assumption); (case kdq261 => ktr_room); (case kuq261 => ktr_units); (case p0q261 => first | with_reducible assumption | omega); (case p1q261 => first | with_reducible assumption | omega); (case p2q261 => first | with_reducible assumption | k_dflt (have hq := (‹oddS _ _ _ = some _›); refine Eq.trans ?_ hq; law_clear; subst_vars; exact rfl) | kwd_less); k_whole); intro r9 z9 y9 t9 u9 h9 tk9 e9 f9 F9 N9; (try k_sweep); (try dsimp only); (try k_fold); skip))
  k_with "call ref" => ((k_here; (with_reducible show wpAny _ _ (call (Value.ref 289) _ _) _ _ _); k_dflt (refine' reduced_by_twos_c ?k1q262 ?k2q262 ?k3q262 ?k4q262 ?k5q262 ?kKq262 ?kdq262 ?kuq262 ?m0q262 ?m1q262 ?p0q262 ?p1q262 ?p2q262 ?_; (case k1q262 => k_asm); (case k2q262 => k_asm); (case k3q262 => k_asm); (case k4q262 => k_asm); (case k5q262 => k_asm); (case kKq262 => first | exact rfl | assumption); (case kdq262 => ktr_room); (case kuq262 => ktr_units); (case m0q262 => k_mem); (case m1q262 => k_mem); (case p0q262 => first | with_reducible assumption | omega); (case p1q262 => first | with_reducible assumption | omega); (case p2q262 => first | with_reducible assumption | k_dflt (have hq := (‹redF _ _ _ = some _›); refine Eq.trans ?_ hq; law_clear; subst_vars; exact rfl) | kwd_less); k_whole); intro r9 p9 z9 u9 h9 tk9 e9 F9 N9; (try k_sweep); (try dsimp only); (try k_fold); skip))
  k_with "call ref" => ((k_here; (with_reducible show wpAny _ _ (call (Value.ref 303) _ _) _ _ _); k_dflt (refine' log_bounds_c ?k1q263 ?k2q263 ?k3q263 ?k4q263 ?k5q263 ?kKq263 ?kdq263 ?kuq263 ?m0q263 ?m1q263 ?p0q263 ?p1q263 ?p2q263 ?p3q263 ?p4q263 ?_; (case k1q263 => k_asm); (case k2q263 => k_asm); (case k3q263 => k_asm); (case k4q263 => k_asm); (case k5q263 => k_asm); (case kKq263 => first | exact rfl | assumption); (case kdq263 => ktr_room); (case kuq263 => ktr_units); (case m0q263 => k_mem); (case m1q263 => k_mem); (case p0q263 => first | with_reducible assumption | omega); (case p1q263 => first | with_reducible assumption | omega); (case p2q263 => first | with_reducible assumption | omega); (case p3q263 => first | with_reducible assumption | omega); (case p4q263 => first | with_reducible assumption | k_dflt (have hq := (‹logB _ _ _ = some _›); refine Eq.trans ?_ hq; law_clear; subst_vars; exact rfl) | kwd_less); k_whole); intro r9 z9 y9 t9 u9 h9 tk9 e9 f9 F9 N9; (try k_sweep); (try dsimp only); (try k_fold); skip))
  trivial
section
variable {w : World} {loose : List Str} {mean : ExcName → Option Value} {mg mb : Str → Option Value}
  {dp un : Nat} {gd : Option (List Code)} {cn : Str} {cs : Scope} {a : Addr} {ccd : Value} {cl : List (Str × Addr)} {outer : List Env} {A₀ : Around} {base h₀ : Heap} {L : Addr} {m : Str → Option Value} {news : List (Addr × Obj)} {s : Shared} {Q E : Value → Shared → Prop}

theorem log_real_c {p : Int} {t9 : Tok} {v : Int × Int} {ps : Array Value} {c1 : Addr} {o1 : Obj} {x1 y1 : Int} {j1 t1 k1 u1 : Tok} {a1 d1 : Addr}
  (B : Below A₀ base outer h₀) (F : Fr h₀ L s.heap m) (X : (hd.heap_1 w.params).In h₀) (N : News h₀ L s.heap ((305, tabObj ps) :: (c1, o1) :: news)) (T : Top topProg loose mean mg mb h₀) (hk : cs.kind = .function)
  (hdp : dp + 24 < recursionLimit) (hun : un + 320 < cLine)
  (Ma1 : (a1, instObj (nat_lit 89) d1) ∈ news) (Md1 : (d1, realO w j1 x1 t1 k1 y1 u1) ∈ news) (hC : CodeHd h₀ 309 305) (ok : TabOk posL qualL ps c1 o1) (hne : ∀ q ∈ news, q.1 ≠ 305) (h0 : 0 ≤ p) (h1 : p < 1000) (hv : logF p x1 y1 = some v)
  (hret : ∀ r d z1 z2 j u1 k u2 ps' c' oc' h' tk', z1 = (v).1 → z2 = (v).2 → TabOk posL qualL ps' c' oc' → Fr h₀ L h' m → News h₀ L h' ((r, instObj (nat_lit 89) d) :: (d, realO w j z1 u1 k z2 u2) :: (305, tabObj ps') :: (c', oc') :: news) → Q (.ref r) { s with heap := h', toks := tk' }) :
  wpAny (model Challenge.rw_nt0168_01.row.prog w) (ktrTop dp un gd cn cs L a ccd cl outer) (call (.ref 310) [.int p t9, .ref a1]) Q E s := by
  have hn : logF p x1 y1 ≠ none := by rw [hv]; exact nofun
  obtain ⟨g1, gb, ⟨rfl, rfl, hv1⟩ | ⟨g2, ⟨f1, f2⟩, hb, hv1⟩⟩ := logF_parts hn
  · have hv2 := Option.some.inj (hv.symm.trans hv1)
    refine wpAny_call ?_
    k_dflt (refine' code_defC ?k1 ?k2 ?k3 ?k4 ?k5 ?kA ?kF ?kK ?k6 ?k7 ?k8 ?k9 ?kB ?kD ?_ ?c2 ?c3 ?c4; (case kA => exact rfl); (case kF => exact rfl); (case kK => assumption); (case k1 => k_asm); (case k2 => k_asm); (case k3 => k_asm); (case k4 => k_asm); (case k5 => k_asm); (case k6 => k_is); (case k7 => k_is); (case k8 => ktr_room); (case k9 => exact BindsTo.of_eq rfl); (case kB => exact rfl); (case kD => decide +kernel); (case c2 => exact rfl); (case c3 => exact rfl); (case c4 => exact rfl); k_whole; intro g' L' h' tk' cells' FG' F' N' Y' B' X' T' l1; (try (replace l1 := allLt_of l1; dsimp only [AllLt] at l1)); k_cells Y'; (try simp only [List.cons_append, List.nil_append] at N'); (try dsimp only); (try k_lift B'); (try k_fold))
    k_steps
    all_goals (refine retTR hret (by assumption) (by k_asm) (by k_mem) (by k_mem) (by assumption) (by k_mem) (by k_mem) (by first | ((repeat (first | exact sub_refl | refine sub_cons ?_)); done) | (intro p hp; first | exact hp | (repeat (first | exact hp | refine List.mem_cons_of_mem _ ?_)))) ?_)
    all_goals ((try law_clear); subst_vars; rfl)
  · have g3 := sgn_pos g1
    rw [hv1] at hv
    obtain ⟨k1, k2⟩ := decF_parts hv
    simp only [p2_eq] at k1 k2
    refine wpAny_call ?_
    k_dflt (refine' code_defC ?k1 ?k2 ?k3 ?k4 ?k5 ?kA ?kF ?kK ?k6 ?k7 ?k8 ?k9 ?kB ?kD ?_ ?c2 ?c3 ?c4; (case kA => exact rfl); (case kF => exact rfl); (case kK => assumption); (case k1 => k_asm); (case k2 => k_asm); (case k3 => k_asm); (case k4 => k_asm); (case k5 => k_asm); (case k6 => k_is); (case k7 => k_is); (case k8 => ktr_room); (case k9 => exact BindsTo.of_eq rfl); (case kB => exact rfl); (case kD => decide +kernel); (case c2 => exact rfl); (case c3 => exact rfl); (case c4 => exact rfl); k_whole; intro g' L' h' tk' cells' FG' F' N' Y' B' X' T' l1; (try (replace l1 := allLt_of l1; dsimp only [AllLt] at l1)); k_cells Y'; (try simp only [List.cons_append, List.nil_append] at N'); (try dsimp only); (try k_lift B'); (try k_fold))
    k_steps
    all_goals (refine retTR hret (by assumption) (by k_asm) (by k_mem) (by k_mem) (Or.inr ⟨rfl, by assumption⟩) (by k_mem) (by k_mem) (by first | ((repeat (first | exact sub_refl | refine sub_cons ?_)); done) | (intro p hp; first | exact hp | (repeat (first | exact hp | refine List.mem_cons_of_mem _ ?_)))) ?_)
    all_goals ((try law_clear); subst_vars; rfl)
end
end
section
open PySem PySem.W PySem.Spec PySem.Calls PyProof.Rows
set_option Elab.async false
set_option maxRecDepth 100000
set_option maxHeartbeats 0
theorem reg_44 : True := by
  k_with_none
  k_with "lt9" => (first | with_reducible assumption | (refine ltc (by with_reducible assumption) ?_; first | exact pj1 | exact pj2 | exact pj3 | exact pj4 | exact pj5 | exact pj6 | exact pj7 | exact pj8 | exact pj9 | exact pj10 | exact pj11 | exact pj12 | exact pj13 | exact pj14 | exact qj1 | exact qj2 | exact qj3 | exact qj4 | exact qj5 | exact qj6 | exact qj7 | exact qj8 | exact qj9 | exact qj10 | exact qj11 | exact qj12 | exact qj13 | exact qj14))
  k_with "ne9" => (first | decide | (refine Nat.ne_of_lt ?_; walk_at "lt9") | (refine Nat.ne_of_gt ?_; walk_at "lt9") | exact Nat.ne_of_lt (Nat.lt_succ_self _) | exact Nat.ne_of_gt (Nat.lt_succ_self _) | (refine ne_up1 ?_; walk_at "lt9") | (refine ne_up2 ?_; walk_at "lt9") | (refine Ne.symm (ne_up1 ?_); walk_at "lt9") | (refine Ne.symm (ne_up2 ?_); walk_at "lt9"))
  trivial
-- Sm facts
theorem reg_45 : True := by
  k_with "binaryOp FloorDiv int int" => ((k_here; (with_reducible refine floordiv_int ?feq266 ?_ (Or.inl (Sm.py ?fpq266))); (case feq266 => first | decide | omega | assumption); (case fpq266 => ktr_rel)))
  k_with "binaryOp LShift int int" => ((k_here; (with_reducible refine lshift_int ?feq267 ?fpq267 ?_); (case feq267 => omega); (case fpq267 => exact Sm.shl (by ktr_rel) (by omega))))
  k_with "ite" => ((k_here; k_openite; k_spoken; first
  | (refine ite_pos (by ((try simp only [beq_iff_eq, bne_iff_ne, ne_eq, Bool.not_eq_true', beq_eq_false_iff_ne]); (try law_clear); (try subst_vars); first | assumption | exact decide_eq_true rfl | exact Int.not_le.mp (by assumption) | exact Int.not_lt.mp (by assumption) | (law_clear; omega))) ?_; walk_say "PRUNED own")
  | (refine ite_neg (by ((try simp only [beq_iff_eq, bne_iff_ne, ne_eq, Bool.not_eq_true', beq_eq_false_iff_ne]); (try law_clear); (try subst_vars); first | assumption | exact Int.not_le.mpr (by assumption) | exact Int.not_lt.mpr (by assumption) | (law_clear; omega))) ?_; walk_say "PRUNED own")))
  k_with "subscriptTail" => ((k_here; (with_reducible show wpAny _ _ (subscriptTail _ _ (Value.ref _) (Value.int _ _)) _ _ _); k_dflt (refine' item_tupleT ?tq269 ?aq269 ?bq269 ?cq269 ?dq269 ?_; (case tq269 => exact News.isTup (by k_asm) (by k_mem)); (case aq269 => decide); (case bq269 => decide); (case cq269 => rfl); (case dq269 => rfl); k_whole)))
  k_with "subscriptTail Name Constant ref int" => ((k_here; (with_reducible show wpAny _ _ (subscriptTail _ _ (Value.ref _) (Value.int _ _)) _ _ _); k_dflt (refine' item_tupleT ?tq270 ?aq270 ?bq270 ?cq270 ?dq270 ?_; (case tq270 => exact News.isTup (by k_asm) (by k_mem)); (case aq270 => decide); (case bq270 => decide); (case cq270 => rfl); (case dq270 => rfl); k_whole)))
  k_with "callWith ref" => ((k_here; k_dflt (refine' callWith_K ?k1q271 ?k2q271 ?_; (case k1q271 => k_asm); (case k2q271 => k_is); k_whole)))
  k_with "call builtin:divmod" => ((k_here; (with_reducible show wpAny _ _ (call (Value.builtin _) [Value.int _ _, Value.int _ _]) _ _ _); k_dflt (refine' divmod_N ?k1q272 ?k2q272 ?feq272 ?_ (Or.inl (Sm.py ?fpq272)); (case k1q272 => k_asm); (case k2q272 => k_asm); (case feq272 => first | omega | exact Int.ne_of_gt (Int.mul_pos (by omega) (pow2_pos _))); (case fpq272 => ktr_rel)); intro h' F' N'; (try k_sweep)))
  k_with "call builtin:max" => ((k_here; (with_reducible show wpAny _ _ (call (Value.builtin _) [Value.ref _]) _ _ _); k_dflt (first
  | (refine' max_tup ?k0q273 ?k1q273 ?k2q273 ?k3q273 ?_; (case k0q273 => exact rfl); (case k1q273 => k_asm); (case k2q273 => k_asm); (case k3q273 => exact News.isTup (by k_asm) (by k_mem)))
  | (refine' max_list4 ?k0q273 ?k1q273 ?k2q273 ?k3q273 ?_; (case k0q273 => exact rfl); (case k1q273 => k_asm); (case k2q273 => k_asm); (case k3q273 => exact News.isList (by k_asm) (by k_mem)))); k_whole; intro h' r' tk' F' N'; (try k_sweep)))
  k_with "call builtin:min" => ((k_here; (with_reducible show wpAny _ _ (call (Value.builtin _) [Value.ref _]) _ _ _); k_dflt (first
  | (refine' min_tup ?k0q274 ?k1q274 ?k2q274 ?k3q274 ?_; (case k0q274 => exact rfl); (case k1q274 => k_asm); (case k2q274 => k_asm); (case k3q274 => exact News.isTup (by k_asm) (by k_mem)))
  | (refine' min_list4 ?k0q274 ?k1q274 ?k2q274 ?k3q274 ?_; (case k0q274 => exact rfl); (case k1q274 => k_asm); (case k2q274 => k_asm); (case k3q274 => exact News.isList (by k_asm) (by k_mem)))); k_whole; intro h' r' tk' F' N'; (try k_sweep)))
  trivial
theorem allLt_all {d : Nat} : ∀ {l : List (Addr × Obj)}, AllLt d l → ∀ q ∈ l, q.1 < d
  | [], _ => fun _ h => nomatch h
  | _ :: _, h => fun q hq => (List.mem_cons.mp hq).elim (fun e => e ▸ h.1) (allLt_all h.2 q)
theorem retTF {s : Shared} {Q : Value → Shared → Prop} {h₀ h' : Heap} {L : Addr} {m : Str → Option Value} {news : List (Addr × Obj)} {tk' : Nat} {r : Addr} {v : Int × Int} {y1 y2 : Int} {t1 t2 : Tok} {news' : List (Addr × Obj)} (hret : ∀ r z1 z2 u1 u2 h' tk', z1 = v.1 → z2 = v.2 → (∀ q ∈ news, q.1 < r) → Fr h₀ L h' m → News h₀ L h' ((r, tupO z1 u1 z2 u2) :: news) → Q (.ref r) { s with heap := h', toks := tk' })
    (F : Fr h₀ L h' m) (N : News h₀ L h' news') (hm : (r, tupO y1 t1 y2 t2) ∈ news') (hl : ∀ q ∈ news, q.1 < r) (hs : ∀ p ∈ news, p ∈ news') (e : (y1, y2) = v) : Q (.ref r) { s with heap := h', toks := tk' } :=
  hret _ _ _ _ _ _ _ (congrArg Prod.fst e) (congrArg Prod.snd e) hl F fun p hp => N p ((List.mem_cons.mp hp).elim (fun q => q ▸ hm) (hs p))
theorem mid_eq {a b : Int × Int} {z1 z2 z3 z4 : Int} (h1 : z1 = a.1) (h2 : z2 = a.2) (h3 : z3 = b.1) (h4 : z4 = b.2) : ((z1, z2), (z3, z4)) = (a, b) := by subst h1 h2 h3 h4; rfl
theorem retM {s : Shared} {Q : Value → Shared → Prop} {h₀ h' : Heap} {L : Addr} {m : Str → Option Value} {news : List (Addr × Obj)} {tk' : Nat} {r r1 r2 : Addr} {v : (Int × Int) × (Int × Int)} {y1 y2 y3 y4 : Int} {t1 t2 t3 t4 : Tok} {news' : List (Addr × Obj)}
    (hret : ∀ r r1 r2 z1 z2 z3 z4 u1 u2 u3 u4 h' tk', z1 = v.1.1 → z2 = v.1.2 → z3 = v.2.1 → z4 = v.2.2 → Fr h₀ L h' m → News h₀ L h' ((r, LCg.lst [.ref r1, .ref r2]) :: (r1, tupO z1 u1 z2 u2) :: (r2, tupO z3 u3 z4 u4) :: news) → Q (.ref r) { s with heap := h', toks := tk' })
    (F : Fr h₀ L h' m) (N : News h₀ L h' news') (hm : (r, LCg.lst [.ref r1, .ref r2]) ∈ news') (hm1 : (r1, tupO y1 t1 y2 t2) ∈ news') (hm2 : (r2, tupO y3 t3 y4 t4) ∈ news') (hs : ∀ p ∈ news, p ∈ news')
    (e : ((y1, y2), (y3, y4)) = v) : Q (.ref r) { s with heap := h', toks := tk' } := by
  refine hret r r1 r2 y1 y2 y3 y4 t1 t2 t3 t4 h' tk' (congrArg (·.1.1) e) (congrArg (·.1.2) e) (congrArg (·.2.1) e) (congrArg (·.2.2) e) F fun p hp => N p ?_
  rcases List.mem_cons.mp hp with rfl | hp
  · exact hm
  · rcases List.mem_cons.mp hp with rfl | hp
    · exact hm1
    · rcases List.mem_cons.mp hp with rfl | hp
      · exact hm2
      · exact hs p hp
section
variable {h₀ h' : Heap} {L I C D r : Addr} {m : Str → Option Value} {s₁ : Shared} {o oI oC oD : Obj} {S : List (Addr × Obj) → Prop} {rest : Value → List (Addr × Obj) → Prop} {y : Value} {tk : Nat} {led : List (Addr × Obj)}
theorem compEnd_0 (F : Fr h₀ L h' m) (N : News h₀ L h' ((I, oI) :: (C, oC) :: (D, oD) :: led)) (off : LCg.Off3 I C D led) (hS : S led) (k : rest y led) :
    LCg.CompEnd h₀ L m s₁ I oI C oC D oD S rest y { s₁ with heap := h', toks := tk } := LCg.CompEnd.intro F N led (fun _ h => h) off hS k
theorem compEnd_1 (F : Fr h₀ L h' m) (N : News h₀ L h' ((r, o) :: (I, oI) :: (C, oC) :: (D, oD) :: led)) (off : LCg.Off3 I C D led) (hr : @LT.lt Nat _ I r ∧ @LT.lt Nat _ C r ∧ @LT.lt Nat _ D r) (hS : S ((r, o) :: led)) (k : rest y ((r, o) :: led)) :
    LCg.CompEnd h₀ L m s₁ I oI C oC D oD S rest y { s₁ with heap := h', toks := tk } := by
  refine LCg.CompEnd.intro F N ((r, o) :: led) (fun p hp => ?_) ⟨⟨Nat.ne_of_gt hr.1, Nat.ne_of_gt hr.2.1, Nat.ne_of_gt hr.2.2⟩, off⟩ hS k
  simp only [List.mem_cons] at hp ⊢
  rcases hp with e | e | e | e | e
  · exact .inr (.inl e)
  · exact .inr (.inr (.inl e))
  · exact .inr (.inr (.inr (.inl e)))
  · exact .inl e
  · exact .inr (.inr (.inr (.inr e)))
end
section
variable {w : World} {loose : List Str} {mean : ExcName → Option Value} {mg mb : Str → Option Value}
  {dp un : Nat} {gd : Option (List Code)} {cn : Str} {cs : Scope} {a : Addr} {ccd : Value} {cl : List (Str × Addr)} {outer : List Env} {A₀ : Around} {base h₀ : Heap} {L : Addr} {m : Str → Option Value} {news : List (Addr × Obj)} {s : Shared} {Q E : Value → Shared → Prop}

theorem law_odd_c {x y : Int} {t1 t2 : Tok} {v : Int × Int}
  (B : Below A₀ base outer h₀) (F : Fr h₀ L s.heap m) (X : (hd.heap_1 w.params).In h₀) (N : News h₀ L s.heap (news)) (T : Top topProg loose mean mg mb h₀) (hk : cs.kind = .function)
  (hdp : dp + 6 < recursionLimit) (hun : un + 80 < cLine)
   (hv : lawOdd 10 x y = some v)
  (hret : ∀ r z1 z2 u1 u2 h' tk', z1 = (v).1 → z2 = (v).2 → Fr h₀ L h' m → News h₀ L h' ((r, tupO z1 u1 z2 u2) :: news) → Q (.ref r) { s with heap := h', toks := tk' }) :
  wpAny (model Challenge.rw_nt0168_01.row.prog w) (ktrTop dp un gd cn cs L a ccd cl outer) (call (.ref 317) [.int x t1, .int y t2]) Q E s := by
  have hx0 := lawOdd_ne hv
  obtain ⟨N6, hv⟩ : ∃ N, lawOdd N x y = some v := ⟨10, hv⟩
  k_with "exec While Compare cons nil" => (subst_vars; (rename Fr _ _ _ _ => lF'); (rename News _ _ _ _ => lN'); (with_unfolding_all refine' ksw_while (σ := LS) (fun c => news) (fun c => [(Str.ofString "mantissa", .int c.p c.a), (Str.ofString "exponent", .int c.t c.b)]) (fun _ => True) [] (fun c => lawOdd c.n c.p c.t = some v) (fun c => c.n) ⟨N6, _, _, _, _⟩ lF' ?kn ?kf ?kk ?kp ?_); (case kk => kst_all); (case kn => (exact kst_newsOf lN' (by (try dsimp only); first | exact fun p hp => hp | (refine List.forall_mem_cons.mpr ⟨by k_mem, List.forall_mem_cons.mpr ⟨by k_mem, List.forall_mem_cons.mpr ⟨by k_mem, fun p hp => ?_⟩⟩⟩; (repeat (first | exact hp | refine List.mem_cons_of_mem _ ?_))) | (refine List.forall_mem_cons.mpr ⟨by k_mem, List.forall_mem_cons.mpr ⟨by k_mem, fun p hp => ?_⟩⟩; (repeat (first | exact hp | refine List.mem_cons_of_mem _ ?_))) | (refine List.forall_mem_cons.mpr ⟨by k_mem, fun p hp => ?_⟩; (repeat (first | exact hp | refine List.mem_cons_of_mem _ ?_))) | (intro p hp; (repeat (first | exact hp | refine List.mem_cons_of_mem _ ?_)))))); (case kf => trivial); (case kp => ((try dsimp only); exact hv)); (clear lF' lN'); intro c u h tk hf hP F' N'; obtain ⟨n, p, t, ta, tb⟩ := c; dsimp only at hf hP F' N'; clear hf; rcases n with _ | n; (· (simp [lawOdd] at hP)); by_cases hg : p.fmod 2 = 0; replace hP := lawOdd_step hg hP; all_goals ((try dsimp only); (try k_fold)))
  refine wpAny_call ?_
  k_dflt ktr_enter
  k_steps
  · ((try dsimp only); (rename News _ _ _ _ => nE'); (rename Fr _ _ _ _ => fE'); refine' ksw_end ⟨n, _, _, _, _⟩ fE' nE' ?kn ?kf ?kk ?kr ?kp (Nat.lt_succ_self _); (case kk => kst_all); (case kn => ((try dsimp only); first | exact fun p hp => hp | (refine List.forall_mem_cons.mpr ⟨by k_mem, List.forall_mem_cons.mpr ⟨by k_mem, List.forall_mem_cons.mpr ⟨by k_mem, fun p hp => ?_⟩⟩⟩; (repeat (first | exact hp | refine List.mem_cons_of_mem _ ?_))) | (refine List.forall_mem_cons.mpr ⟨by k_mem, List.forall_mem_cons.mpr ⟨by k_mem, fun p hp => ?_⟩⟩; (repeat (first | exact hp | refine List.mem_cons_of_mem _ ?_))) | (refine List.forall_mem_cons.mpr ⟨by k_mem, fun p hp => ?_⟩; (repeat (first | exact hp | refine List.mem_cons_of_mem _ ?_))) | (intro p hp; (repeat (first | exact hp | refine List.mem_cons_of_mem _ ?_))))); (case kf => trivial); (case kr => (intro z h2 h3; simp only [List.forall_mem_cons, List.not_mem_nil, false_implies, implies_true, and_true, ne_eq] at h2; simp [kstB, h2])); (case kp => ((try dsimp only); exact hP)))

  all_goals (refine retT hret (by assumption) (by k_asm) (by k_mem) (by first | ((repeat (first | exact sub_refl | refine sub_cons ?_)); done) | (intro p hp; first | exact hp | (repeat (first | exact hp | refine List.mem_cons_of_mem _ ?_)))) ?_)
  all_goals exact Option.some.inj ((lawOdd_stop hg).symm.trans hP)
theorem reg_46 : True := by
  k_with "call ref" => ((k_here; (with_reducible show wpAny _ _ (call (Value.ref 317) _ _) _ _ _); k_dflt (refine' law_odd_c ?k1q275 ?k2q275 ?k3q275 ?k4q275 ?k5q275 ?kKq275 ?kdq275 ?kuq275  ?p0q275 ?_; (case k1q275 => k_asm); (case k2q275 => k_asm); (case k3q275 => k_asm); (case k4q275 => k_asm); (case k5q275 => k_asm); (case kKq275 => first | exact rfl | assumption); (case kdq275 => ktr_room); (case kuq275 => ktr_units); (case p0q275 => first | with_reducible assumption | k_dflt (have hq := (‹lawOdd _ _ _ = some _›); refine Eq.trans ?_ hq; law_clear; subst_vars; exact rfl) | kwd_less); k_whole); intro r9 z9 y9 t9 u9 h9 tk9 e9 f9 F9 N9; (try k_sweep); (try dsimp only); (try k_fold); skip))
  trivial
theorem law_fractionF_c {x y : Int} {t1 t2 : Tok}
  (B : Below A₀ base outer h₀) (F : Fr h₀ L s.heap m) (X : (hd.heap_1 w.params).In h₀) (N : News h₀ L s.heap (news)) (T : Top topProg loose mean mg mb h₀) (hk : cs.kind = .function)
  (hdp : dp + 6 < recursionLimit) (hun : un + 80 < cLine)
   (h1 : Sm x) (h2 : -1000 ≤ y) (h3 : y ≤ 1000)
  (hret : ∀ r z1 z2 u1 u2 h' tk', z1 = (lawFr x y).1 → z2 = (lawFr x y).2 → (∀ q ∈ news, q.1 < r) → Fr h₀ L h' m → News h₀ L h' ((r, tupO z1 u1 z2 u2) :: news) → Q (.ref r) { s with heap := h', toks := tk' }) :
  wpAny (model Challenge.rw_nt0168_01.row.prog w) (ktrTop dp un gd cn cs L a ccd cl outer) (call (.ref 331) [.int x t1, .int y t2]) Q E s := by
  by_cases hy : y ≥ 0
  · refine wpAny_call ?_
    k_dflt ktr_enter
    k_steps
    all_goals (refine retTF hret (by assumption) (by k_asm) (by k_mem) (by first | assumption | exact allLt_all (by assumption) | exact allLt_all (And.right (by assumption))) (by first | ((repeat (first | exact sub_refl | refine sub_cons ?_)); done) | (intro p hp; first | exact hp | (repeat (first | exact hp | refine List.mem_cons_of_mem _ ?_)))) ?_)
    all_goals (unfold lawFr; rw [if_pos hy, p2_eq])
  · refine wpAny_call ?_
    k_dflt ktr_enter
    k_steps
    all_goals (refine retTF hret (by assumption) (by k_asm) (by k_mem) (by first | assumption | exact allLt_all (by assumption) | exact allLt_all (And.right (by assumption))) (by first | ((repeat (first | exact sub_refl | refine sub_cons ?_)); done) | (intro p hp; first | exact hp | (repeat (first | exact hp | refine List.mem_cons_of_mem _ ?_)))) ?_)
    all_goals (unfold lawFr; rw [if_neg hy, p2_eq])
theorem reg_47 : True := by
  k_with "call ref" => ((k_here; (with_reducible show wpAny _ _ (call (Value.ref 331) _ _) _ _ _); k_dflt (refine' law_fractionF_c ?k1q276 ?k2q276 ?k3q276 ?k4q276 ?k5q276 ?kKq276 ?kdq276 ?kuq276  ?p0q276 ?p1q276 ?p2q276 ?_; (case k1q276 => k_asm); (case k2q276 => k_asm); (case k3q276 => k_asm); (case k4q276 => k_asm); (case k5q276 => k_asm); (case kKq276 => first | exact rfl | assumption); (case kdq276 => ktr_room); (case kuq276 => ktr_units); (case p0q276 => ktr_rel); (case p1q276 => first | with_reducible assumption | omega); (case p2q276 => first | with_reducible assumption | omega); k_whole); intro r9 z9 y9 t9 u9 h9 tk9 e9 f9 l9 F9 N9; (try (replace l9 := allLt_of l9; dsimp only [AllLt] at l9)); (try k_sweep); (try dsimp only); (try k_fold); skip))
  trivial
theorem law_fraction_c {x y : Int} {t1 t2 : Tok}
  (B : Below A₀ base outer h₀) (F : Fr h₀ L s.heap m) (X : (hd.heap_1 w.params).In h₀) (N : News h₀ L s.heap (news)) (T : Top topProg loose mean mg mb h₀) (hk : cs.kind = .function)
  (hdp : dp + 6 < recursionLimit) (hun : un + 80 < cLine)
   (h1 : Sm x) (h2 : -1000 ≤ y) (h3 : y ≤ 1000)
  (hret : ∀ r z1 z2 u1 u2 h' tk', z1 = (lawFr x y).1 → z2 = (lawFr x y).2 → Fr h₀ L h' m → News h₀ L h' ((r, tupO z1 u1 z2 u2) :: news) → Q (.ref r) { s with heap := h', toks := tk' }) :
  wpAny (model Challenge.rw_nt0168_01.row.prog w) (ktrTop dp un gd cn cs L a ccd cl outer) (call (.ref 331) [.int x t1, .int y t2]) Q E s := by
  exact law_fractionF_c B F X N T hk hdp hun h1 h2 h3 fun r z1 z2 u1 u2 h' tk' e f _ F' N' => hret r z1 z2 u1 u2 h' tk' e f F' N'
theorem reg_48 : True := by
  k_with "call ref" => ((k_here; (with_reducible show wpAny _ _ (call (Value.ref 331) _ _) _ _ _); k_dflt (refine' law_fraction_c ?k1q277 ?k2q277 ?k3q277 ?k4q277 ?k5q277 ?kKq277 ?kdq277 ?kuq277  ?p0q277 ?p1q277 ?p2q277 ?_; (case k1q277 => k_asm); (case k2q277 => k_asm); (case k3q277 => k_asm); (case k4q277 => k_asm); (case k5q277 => k_asm); (case kKq277 => first | exact rfl | assumption); (case kdq277 => ktr_room); (case kuq277 => ktr_units); (case p0q277 => ktr_rel); (case p1q277 => first | with_reducible assumption | omega); (case p2q277 => first | with_reducible assumption | omega); k_whole); intro r9 z9 y9 t9 u9 h9 tk9 e9 f9 F9 N9; (try k_sweep); (try dsimp only); (try k_fold); skip))
  trivial
theorem law_pair_c {p x : Int} {t1 t2 : Tok} {v : Int × Int}
  (B : Below A₀ base outer h₀) (F : Fr h₀ L s.heap m) (X : (hd.heap_1 w.params).In h₀) (N : News h₀ L s.heap (news)) (T : Top topProg loose mean mg mb h₀) (hk : cs.kind = .function)
  (hdp : dp + 12 < recursionLimit) (hun : un + 160 < cLine)
   (h0 : 0 ≤ p) (h1 : p < 100) (hv : lawPair p x = some v)
  (hret : ∀ r z1 z2 u1 u2 h' tk', z1 = (v).1 → z2 = (v).2 → Fr h₀ L h' m → News h₀ L h' ((r, tupO z1 u1 z2 u2) :: news) → Q (.ref r) { s with heap := h', toks := tk' }) :
  wpAny (model Challenge.rw_nt0168_01.row.prog w) (ktrTop dp un gd cn cs L a ccd cl outer) (call (.ref 324) [.int p t1, .int x t2]) Q E s := by
  rcases lawPair_parts hv with ⟨g1, g2⟩ | ⟨g1, g2⟩
  all_goals simp only [p2_eq] at g1 g2
  · refine wpAny_call ?_
    k_dflt ktr_enter
    k_steps
    all_goals (refine retT hret (by assumption) (by k_asm) (by k_mem) (by first | ((repeat (first | exact sub_refl | refine sub_cons ?_)); done) | (intro p hp; first | exact hp | (repeat (first | exact hp | refine List.mem_cons_of_mem _ ?_)))) ?_)
    all_goals ((try law_clear); subst_vars; rfl)
  · refine wpAny_call ?_
    k_dflt ktr_enter
    k_steps
    all_goals (refine retT hret (by assumption) (by k_asm) (by k_mem) (by first | ((repeat (first | exact sub_refl | refine sub_cons ?_)); done) | (intro p hp; first | exact hp | (repeat (first | exact hp | refine List.mem_cons_of_mem _ ?_)))) ?_)
    all_goals ((try law_clear); subst_vars; rfl)
theorem reg_49 : True := by
  k_with "call ref" => ((k_here; (with_reducible show wpAny _ _ (call (Value.ref 324) _ _) _ _ _); k_dflt (refine' law_pair_c ?k1q278 ?k2q278 ?k3q278 ?k4q278 ?k5q278 ?kKq278 ?kdq278 ?kuq278  ?p0q278 ?p1q278 ?p2q278 ?_; (case k1q278 => k_asm); (case k2q278 => k_asm); (case k3q278 => k_asm); (case k4q278 => k_asm); (case k5q278 => k_asm); (case kKq278 => first | exact rfl | assumption); (case kdq278 => ktr_room); (case kuq278 => ktr_units); (case p0q278 => first | with_reducible assumption | omega); (case p1q278 => first | with_reducible assumption | omega); (case p2q278 => first | with_reducible assumption | k_dflt (have hq := (‹lawPair _ _ = some _›); refine Eq.trans ?_ hq; law_clear; subst_vars; exact rfl) | kwd_less); k_whole); intro r9 z9 y9 t9 u9 h9 tk9 e9 f9 F9 N9; (try k_sweep); (try dsimp only); (try k_fold); skip))
  trivial
end
end
section
open PySem PySem.W PySem.Spec PySem.Calls PyProof.Rows
set_option Elab.async false
set_option maxRecDepth 100000
set_option maxHeartbeats 0
theorem reg_50 : True := by
  k_with_none
  k_with "lt9" => (first | with_reducible assumption | (refine ltc (by with_reducible assumption) ?_; first | exact pj1 | exact pj2 | exact pj3 | exact pj4 | exact pj5 | exact pj6 | exact pj7 | exact pj8 | exact pj9 | exact pj10 | exact pj11 | exact pj12 | exact pj13 | exact pj14 | exact qj1 | exact qj2 | exact qj3 | exact qj4 | exact qj5 | exact qj6 | exact qj7 | exact qj8 | exact qj9 | exact qj10 | exact qj11 | exact qj12 | exact qj13 | exact qj14))
  k_with "ne9" => (first | decide | (refine Nat.ne_of_lt ?_; walk_at "lt9") | (refine Nat.ne_of_gt ?_; walk_at "lt9") | exact Nat.ne_of_lt (Nat.lt_succ_self _) | exact Nat.ne_of_gt (Nat.lt_succ_self _) | (refine ne_up1 ?_; walk_at "lt9") | (refine ne_up2 ?_; walk_at "lt9") | (refine Ne.symm (ne_up1 ?_); walk_at "lt9") | (refine Ne.symm (ne_up2 ?_); walk_at "lt9"))
  trivial
-- Sm facts
theorem reg_51 : True := by
  k_with "binaryOp FloorDiv int int" => ((k_here; (with_reducible refine floordiv_int ?feq281 ?_ (Or.inl (Sm.py ?fpq281))); (case feq281 => first | decide | omega | assumption); (case fpq281 => ktr_rel)))
  k_with "binaryOp LShift int int" => ((k_here; (with_reducible refine lshift_int ?feq282 ?fpq282 ?_); (case feq282 => omega); (case fpq282 => exact Sm.shl (by ktr_rel) (by omega))))
  k_with "ite" => ((k_here; k_openite; k_spoken; first
  | (refine ite_pos (by ((try simp only [beq_iff_eq, bne_iff_ne, ne_eq, Bool.not_eq_true', beq_eq_false_iff_ne]); (try law_clear); (try subst_vars); first | assumption | exact decide_eq_true rfl | exact Int.not_le.mp (by assumption) | exact Int.not_lt.mp (by assumption) | (law_clear; omega))) ?_; walk_say "PRUNED own")
  | (refine ite_neg (by ((try simp only [beq_iff_eq, bne_iff_ne, ne_eq, Bool.not_eq_true', beq_eq_false_iff_ne]); (try law_clear); (try subst_vars); first | assumption | exact Int.not_le.mpr (by assumption) | exact Int.not_lt.mpr (by assumption) | (law_clear; omega))) ?_; walk_say "PRUNED own")))
  k_with "subscriptTail" => ((k_here; (with_reducible show wpAny _ _ (subscriptTail _ _ (Value.ref _) (Value.int _ _)) _ _ _); k_dflt (refine' item_tupleT ?tq284 ?aq284 ?bq284 ?cq284 ?dq284 ?_; (case tq284 => exact News.isTup (by k_asm) (by k_mem)); (case aq284 => decide); (case bq284 => decide); (case cq284 => rfl); (case dq284 => rfl); k_whole)))
  k_with "subscriptTail Name Constant ref int" => ((k_here; (with_reducible show wpAny _ _ (subscriptTail _ _ (Value.ref _) (Value.int _ _)) _ _ _); k_dflt (refine' item_tupleT ?tq285 ?aq285 ?bq285 ?cq285 ?dq285 ?_; (case tq285 => exact News.isTup (by k_asm) (by k_mem)); (case aq285 => decide); (case bq285 => decide); (case cq285 => rfl); (case dq285 => rfl); k_whole)))
  k_with "callWith ref" => ((k_here; k_dflt (refine' callWith_K ?k1q286 ?k2q286 ?_; (case k1q286 => k_asm); (case k2q286 => k_is); k_whole)))
  k_with "call builtin:divmod" => ((k_here; (with_reducible show wpAny _ _ (call (Value.builtin _) [Value.int _ _, Value.int _ _]) _ _ _); k_dflt (refine' divmod_N ?k1q287 ?k2q287 ?feq287 ?_ (Or.inl (Sm.py ?fpq287)); (case k1q287 => k_asm); (case k2q287 => k_asm); (case feq287 => first | omega | exact Int.ne_of_gt (Int.mul_pos (by omega) (pow2_pos _))); (case fpq287 => ktr_rel)); intro h' F' N'; (try k_sweep)))
  k_with "call builtin:max" => ((k_here; (with_reducible show wpAny _ _ (call (Value.builtin _) [Value.ref _]) _ _ _); k_dflt (first
  | (refine' max_tup ?k0q288 ?k1q288 ?k2q288 ?k3q288 ?_; (case k0q288 => exact rfl); (case k1q288 => k_asm); (case k2q288 => k_asm); (case k3q288 => exact News.isTup (by k_asm) (by k_mem)))
  | (refine' max_list4 ?k0q288 ?k1q288 ?k2q288 ?k3q288 ?_; (case k0q288 => exact rfl); (case k1q288 => k_asm); (case k2q288 => k_asm); (case k3q288 => exact News.isList (by k_asm) (by k_mem)))); k_whole; intro h' r' tk' F' N'; (try k_sweep)))
  k_with "call builtin:min" => ((k_here; (with_reducible show wpAny _ _ (call (Value.builtin _) [Value.ref _]) _ _ _); k_dflt (first
  | (refine' min_tup ?k0q289 ?k1q289 ?k2q289 ?k3q289 ?_; (case k0q289 => exact rfl); (case k1q289 => k_asm); (case k2q289 => k_asm); (case k3q289 => exact News.isTup (by k_asm) (by k_mem)))
  | (refine' min_list4 ?k0q289 ?k1q289 ?k2q289 ?k3q289 ?_; (case k0q289 => exact rfl); (case k1q289 => k_asm); (case k2q289 => k_asm); (case k3q289 => exact News.isList (by k_asm) (by k_mem)))); k_whole; intro h' r' tk' F' N'; (try k_sweep)))
  trivial
section
variable {w : World} {loose : List Str} {mean : ExcName → Option Value} {mg mb : Str → Option Value}
  {dp un : Nat} {gd : Option (List Code)} {cn : Str} {cs : Scope} {a : Addr} {ccd : Value} {cl : List (Str × Addr)} {outer : List Env} {A₀ : Around} {base h₀ : Heap} {L : Addr} {m : Str → Option Value} {news : List (Addr × Obj)} {s : Shared} {Q E : Value → Shared → Prop}

theorem law_power_side_c {x b y z v : Int} {t1 t2 t3 t4 : Tok}
  (B : Below A₀ base outer h₀) (F : Fr h₀ L s.heap m) (X : (hd.heap_1 w.params).In h₀) (N : News h₀ L s.heap (news)) (T : Top topProg loose mean mg mb h₀) (hk : cs.kind = .function)
  (hdp : dp + 6 < recursionLimit) (hun : un + 80 < cLine)
   (hv : powF x b y z = some v)
  (hret : ∀ z t h' tk', z = v → Fr h₀ L h' m → News h₀ L h' news → Q (.int z t) { s with heap := h', toks := tk' }) :
  wpAny (model Challenge.rw_nt0168_01.row.prog w) (ktrTop dp un gd cn cs L a ccd cl outer) (call (.ref 343) [.int x t1, .int b t2, .int y t3, .int z t4]) Q E s := by
  obtain ⟨s1, s2, s3, s4, N6, hv⟩ := powF_parts hv
  k_with "exec While Constant cons nil" => (subst_vars; (rename Fr _ _ _ _ => lF'); (rename News _ _ _ _ => lN'); (with_unfolding_all refine' ksw_while (σ := PS) (fun c => news) (fun c => [(Str.ofString "term", .int c.te c.a), (Str.ofString "total", .int c.to c.b), (Str.ofString "under", .int c.un c.c), (Str.ofString "count", .int c.co c.d)]) (fun _ => True) [] (fun c => powL c.n x b y z c.te c.to c.un c.co = some v) (fun c => c.n) ⟨N6, _, _, _, _, _, _, _, _⟩ lF' ?kn ?kf ?kk ?kp ?_); (case kk => kst_all); (case kn => (exact kst_newsOf lN' (by (try dsimp only); first | exact fun p hp => hp | (refine List.forall_mem_cons.mpr ⟨by k_mem, List.forall_mem_cons.mpr ⟨by k_mem, List.forall_mem_cons.mpr ⟨by k_mem, fun p hp => ?_⟩⟩⟩; (repeat (first | exact hp | refine List.mem_cons_of_mem _ ?_))) | (refine List.forall_mem_cons.mpr ⟨by k_mem, List.forall_mem_cons.mpr ⟨by k_mem, fun p hp => ?_⟩⟩; (repeat (first | exact hp | refine List.mem_cons_of_mem _ ?_))) | (refine List.forall_mem_cons.mpr ⟨by k_mem, fun p hp => ?_⟩; (repeat (first | exact hp | refine List.mem_cons_of_mem _ ?_))) | (intro p hp; (repeat (first | exact hp | refine List.mem_cons_of_mem _ ?_)))))); (case kf => trivial); (case kp => ((try dsimp only); exact hv)); (clear lF' lN'); intro c u h tk hf hP F' N'; obtain ⟨n, te, to, un, co, ta, tb, tc, td⟩ := c; dsimp only at hf hP F' N'; clear hf; rcases n with _ | n; (· (simp [powL] at hP)); obtain ⟨q1, q2, q3, q4, q5, q6, q7, q8, q9, ⟨q10, q11⟩ | ⟨q10, ⟨⟨q12, q13⟩, q11⟩ | ⟨q12, hP⟩⟩⟩ := powL_step hP; all_goals ((try dsimp only); (try k_fold)))
  refine wpAny_call ?_
  k_dflt ktr_enter
  k_steps
  · refine retI hret (by assumption) (by k_asm) (by first | ((repeat (first | exact sub_refl | refine sub_cons ?_)); done) | (intro p hp; first | exact hp | (repeat (first | exact hp | refine List.mem_cons_of_mem _ ?_)))) ?_
    exact q11.symm
  · refine retI hret (by assumption) (by k_asm) (by first | ((repeat (first | exact sub_refl | refine sub_cons ?_)); done) | (intro p hp; first | exact hp | (repeat (first | exact hp | refine List.mem_cons_of_mem _ ?_)))) ?_
    exact q11.symm
  · ((try dsimp only); (rename News _ _ _ _ => nE'); (rename Fr _ _ _ _ => fE'); refine' ksw_end ⟨n, _, _, _, _, _, _, _, _⟩ fE' nE' ?kn ?kf ?kk ?kr ?kp (Nat.lt_succ_self _); (case kk => kst_all); (case kn => ((try dsimp only); first | exact fun p hp => hp | (refine List.forall_mem_cons.mpr ⟨by k_mem, List.forall_mem_cons.mpr ⟨by k_mem, List.forall_mem_cons.mpr ⟨by k_mem, fun p hp => ?_⟩⟩⟩; (repeat (first | exact hp | refine List.mem_cons_of_mem _ ?_))) | (refine List.forall_mem_cons.mpr ⟨by k_mem, List.forall_mem_cons.mpr ⟨by k_mem, fun p hp => ?_⟩⟩; (repeat (first | exact hp | refine List.mem_cons_of_mem _ ?_))) | (refine List.forall_mem_cons.mpr ⟨by k_mem, fun p hp => ?_⟩; (repeat (first | exact hp | refine List.mem_cons_of_mem _ ?_))) | (intro p hp; (repeat (first | exact hp | refine List.mem_cons_of_mem _ ?_))))); (case kf => trivial); (case kr => (intro z h2 h3; simp only [List.forall_mem_cons, List.not_mem_nil, false_implies, implies_true, and_true, ne_eq] at h2; simp [kstB, h2])); (case kp => ((try dsimp only); exact hP)))
  · ((try dsimp only); (rename News _ _ _ _ => nE'); (rename Fr _ _ _ _ => fE'); refine' ksw_end ⟨n, _, _, _, _, _, _, _, _⟩ fE' nE' ?kn ?kf ?kk ?kr ?kp (Nat.lt_succ_self _); (case kk => kst_all); (case kn => ((try dsimp only); first | exact fun p hp => hp | (refine List.forall_mem_cons.mpr ⟨by k_mem, List.forall_mem_cons.mpr ⟨by k_mem, List.forall_mem_cons.mpr ⟨by k_mem, fun p hp => ?_⟩⟩⟩; (repeat (first | exact hp | refine List.mem_cons_of_mem _ ?_))) | (refine List.forall_mem_cons.mpr ⟨by k_mem, List.forall_mem_cons.mpr ⟨by k_mem, fun p hp => ?_⟩⟩; (repeat (first | exact hp | refine List.mem_cons_of_mem _ ?_))) | (refine List.forall_mem_cons.mpr ⟨by k_mem, fun p hp => ?_⟩; (repeat (first | exact hp | refine List.mem_cons_of_mem _ ?_))) | (intro p hp; (repeat (first | exact hp | refine List.mem_cons_of_mem _ ?_))))); (case kf => trivial); (case kr => (intro z h2 h3; simp only [List.forall_mem_cons, List.not_mem_nil, false_implies, implies_true, and_true, ne_eq] at h2; simp [kstB, h2])); (case kp => ((try dsimp only); exact hP)))

theorem reg_52 : True := by
  k_with "call ref" => ((k_here; (with_reducible show wpAny _ _ (call (Value.ref 343) _ _) _ _ _); k_dflt (refine' law_power_side_c ?k1q290 ?k2q290 ?k3q290 ?k4q290 ?k5q290 ?kKq290 ?kdq290 ?kuq290  ?p0q290 ?_; (case k1q290 => k_asm); (case k2q290 => k_asm); (case k3q290 => k_asm); (case k4q290 => k_asm); (case k5q290 => k_asm); (case kKq290 => first | exact rfl | assumption); (case kdq290 => ktr_room); (case kuq290 => ktr_units); (case p0q290 => first | with_reducible assumption | k_dflt (have hq := (‹powF _ _ _ _ = some _›); refine Eq.trans ?_ hq; law_clear; subst_vars; exact rfl) | kwd_less); k_whole); intro z9 t9 h9 tk9 e9 F9 N9; (try k_sweep); (try dsimp only); (try k_fold); skip))
  trivial
theorem law_side_c {x1 y1 x2 y2 v : Int} {t1 u1 t2 u2 : Tok} {a1 a2 : Addr}
  (B : Below A₀ base outer h₀) (F : Fr h₀ L s.heap m) (X : (hd.heap_1 w.params).In h₀) (N : News h₀ L s.heap (news)) (T : Top topProg loose mean mg mb h₀) (hk : cs.kind = .function)
  (hdp : dp + 9 < recursionLimit) (hun : un + 120 < cLine)
  (Ma1 : (a1, tupO x1 t1 y1 u1) ∈ news) (Ma2 : (a2, tupO x2 t2 y2 u2) ∈ news) (hv : sideF (x1, y1) (x2, y2) = some v)
  (hret : ∀ z t h' tk', z = v → Fr h₀ L h' m → News h₀ L h' news → Q (.int z t) { s with heap := h', toks := tk' }) :
  wpAny (model Challenge.rw_nt0168_01.row.prog w) (ktrTop dp un gd cn cs L a ccd cl outer) (call (.ref 350) [.ref a1, .ref a2]) Q E s := by
  rcases sideF_parts hv with ⟨g1, g2⟩ | ⟨g1, ⟨g2, g3⟩ | ⟨g2, u, g3, g4⟩⟩
  all_goals dsimp only at g1 g2
  · refine wpAny_call ?_
    k_dflt ktr_enter
    k_steps
    all_goals (refine retI hret (by assumption) (by k_asm) (by first | ((repeat (first | exact sub_refl | refine sub_cons ?_)); done) | (intro p hp; first | exact hp | (repeat (first | exact hp | refine List.mem_cons_of_mem _ ?_)))) ?_)
    all_goals ((try law_clear); subst_vars; rfl)
  · dsimp only at g3
    refine wpAny_call ?_
    k_dflt ktr_enter
    k_steps
    all_goals (refine retI hret (by assumption) (by k_asm) (by first | ((repeat (first | exact sub_refl | refine sub_cons ?_)); done) | (intro p hp; first | exact hp | (repeat (first | exact hp | refine List.mem_cons_of_mem _ ?_)))) ?_)
    all_goals ((try law_clear); subst_vars; rfl)
  · dsimp only at g3
    refine wpAny_call ?_
    k_dflt ktr_enter
    k_steps
    all_goals (refine retI hret (by assumption) (by k_asm) (by first | ((repeat (first | exact sub_refl | refine sub_cons ?_)); done) | (intro p hp; first | exact hp | (repeat (first | exact hp | refine List.mem_cons_of_mem _ ?_)))) ?_)
    all_goals ((try law_clear); subst_vars; rfl)
theorem reg_53 : True := by
  k_with "call ref" => ((k_here; (with_reducible show wpAny _ _ (call (Value.ref 350) _ _) _ _ _); k_dflt (refine' law_side_c ?k1q291 ?k2q291 ?k3q291 ?k4q291 ?k5q291 ?kKq291 ?kdq291 ?kuq291 ?m0q291 ?m1q291 ?p0q291 ?_; (case k1q291 => k_asm); (case k2q291 => k_asm); (case k3q291 => k_asm); (case k4q291 => k_asm); (case k5q291 => k_asm); (case kKq291 => first | exact rfl | assumption); (case kdq291 => ktr_room); (case kuq291 => ktr_units); (case m0q291 => k_mem); (case m1q291 => k_mem); (case p0q291 => first | with_reducible assumption | k_dflt (have hq := (‹sideF _ _ = some 1›); refine Eq.trans ?_ hq; law_clear; subst_vars; with_reducible rfl) | k_dflt (have hq := (‹sideF _ _ = some (-1)›); refine Eq.trans ?_ hq; law_clear; subst_vars; with_reducible rfl) | kwd_less); k_whole); intro z9 t9 h9 tk9 e9 F9 N9; (try k_sweep); (try dsimp only); (try k_fold); skip))
  trivial
end
end
section
open PySem PySem.W PySem.Spec PySem.Calls PyProof.Rows
set_option Elab.async false
set_option maxRecDepth 100000
set_option maxHeartbeats 0
theorem reg_54 : True := by
  k_with_none
  k_with "lt9" => (first | with_reducible assumption | (refine ltc (by with_reducible assumption) ?_; first | exact pj1 | exact pj2 | exact pj3 | exact pj4 | exact pj5 | exact pj6 | exact pj7 | exact pj8 | exact pj9 | exact pj10 | exact pj11 | exact pj12 | exact pj13 | exact pj14 | exact qj1 | exact qj2 | exact qj3 | exact qj4 | exact qj5 | exact qj6 | exact qj7 | exact qj8 | exact qj9 | exact qj10 | exact qj11 | exact qj12 | exact qj13 | exact qj14))
  k_with "ne9" => (first | decide | (refine Nat.ne_of_lt ?_; walk_at "lt9") | (refine Nat.ne_of_gt ?_; walk_at "lt9") | exact Nat.ne_of_lt (Nat.lt_succ_self _) | exact Nat.ne_of_gt (Nat.lt_succ_self _) | (refine ne_up1 ?_; walk_at "lt9") | (refine ne_up2 ?_; walk_at "lt9") | (refine Ne.symm (ne_up1 ?_); walk_at "lt9") | (refine Ne.symm (ne_up2 ?_); walk_at "lt9"))
  trivial
-- Sm facts
theorem reg_55 : True := by
  k_with "binaryOp FloorDiv int int" => ((k_here; (with_reducible refine floordiv_int ?feq294 ?_ (Or.inl (Sm.py ?fpq294))); (case feq294 => first | decide | omega | assumption); (case fpq294 => ktr_rel)))
  k_with "binaryOp LShift int int" => ((k_here; (with_reducible refine lshift_int ?feq295 ?fpq295 ?_); (case feq295 => omega); (case fpq295 => exact Sm.shl (by ktr_rel) (by omega))))
  k_with "ite" => ((k_here; k_openite; k_spoken; first
  | (refine ite_pos (by ((try simp only [beq_iff_eq, bne_iff_ne, ne_eq, Bool.not_eq_true', beq_eq_false_iff_ne]); (try law_clear); (try subst_vars); first | assumption | exact decide_eq_true rfl | exact Int.not_le.mp (by assumption) | exact Int.not_lt.mp (by assumption) | (law_clear; omega))) ?_; walk_say "PRUNED own")
  | (refine ite_neg (by ((try simp only [beq_iff_eq, bne_iff_ne, ne_eq, Bool.not_eq_true', beq_eq_false_iff_ne]); (try law_clear); (try subst_vars); first | assumption | exact Int.not_le.mpr (by assumption) | exact Int.not_lt.mpr (by assumption) | (law_clear; omega))) ?_; walk_say "PRUNED own")))
  k_with "subscriptTail" => ((k_here; (with_reducible show wpAny _ _ (subscriptTail _ _ (Value.ref _) (Value.int _ _)) _ _ _); k_dflt (refine' item_tupleT ?tq297 ?aq297 ?bq297 ?cq297 ?dq297 ?_; (case tq297 => exact News.isTup (by k_asm) (by k_mem)); (case aq297 => decide); (case bq297 => decide); (case cq297 => rfl); (case dq297 => rfl); k_whole)))
  k_with "subscriptTail Name Constant ref int" => ((k_here; (with_reducible show wpAny _ _ (subscriptTail _ _ (Value.ref _) (Value.int _ _)) _ _ _); k_dflt (refine' item_tupleT ?tq298 ?aq298 ?bq298 ?cq298 ?dq298 ?_; (case tq298 => exact News.isTup (by k_asm) (by k_mem)); (case aq298 => decide); (case bq298 => decide); (case cq298 => rfl); (case dq298 => rfl); k_whole)))
  k_with "callWith ref" => ((k_here; k_dflt (refine' callWith_K ?k1q299 ?k2q299 ?_; (case k1q299 => k_asm); (case k2q299 => k_is); k_whole)))
  k_with "call builtin:divmod" => ((k_here; (with_reducible show wpAny _ _ (call (Value.builtin _) [Value.int _ _, Value.int _ _]) _ _ _); k_dflt (refine' divmod_N ?k1q300 ?k2q300 ?feq300 ?_ (Or.inl (Sm.py ?fpq300)); (case k1q300 => k_asm); (case k2q300 => k_asm); (case feq300 => first | omega | exact Int.ne_of_gt (Int.mul_pos (by omega) (pow2_pos _))); (case fpq300 => ktr_rel)); intro h' F' N'; (try k_sweep)))
  k_with "call builtin:max" => ((k_here; (with_reducible show wpAny _ _ (call (Value.builtin _) [Value.ref _]) _ _ _); k_dflt (first
  | (refine' max_tup ?k0q301 ?k1q301 ?k2q301 ?k3q301 ?_; (case k0q301 => exact rfl); (case k1q301 => k_asm); (case k2q301 => k_asm); (case k3q301 => exact News.isTup (by k_asm) (by k_mem)))
  | (refine' max_list4 ?k0q301 ?k1q301 ?k2q301 ?k3q301 ?_; (case k0q301 => exact rfl); (case k1q301 => k_asm); (case k2q301 => k_asm); (case k3q301 => exact News.isList (by k_asm) (by k_mem)))); k_whole; intro h' r' tk' F' N'; (try k_sweep)))
  k_with "call builtin:min" => ((k_here; (with_reducible show wpAny _ _ (call (Value.builtin _) [Value.ref _]) _ _ _); k_dflt (first
  | (refine' min_tup ?k0q302 ?k1q302 ?k2q302 ?k3q302 ?_; (case k0q302 => exact rfl); (case k1q302 => k_asm); (case k2q302 => k_asm); (case k3q302 => exact News.isTup (by k_asm) (by k_mem)))
  | (refine' min_list4 ?k0q302 ?k1q302 ?k2q302 ?k3q302 ?_; (case k0q302 => exact rfl); (case k1q302 => k_asm); (case k2q302 => k_asm); (case k3q302 => exact News.isList (by k_asm) (by k_mem)))); k_whole; intro h' r' tk' F' N'; (try k_sweep)))
  k_with "storeName" => ((k_here; k_dflt (refine' storeX_S (by k_asm) (by k_asm) rfl (by k_mem) (by assumption) (by repeat' (first | exact Sift.all (by assumption) | exact Sift.all (allLt_ne (And.right (And.right ‹_ ∧ _ ∧ AllLt _ _›)) (by omega)) | exact Sift.all (ltAll (by assumption) (by omega)) | (apply Sift.keep; (case h => first | (refine neN ?_; first | walk_at "ne9" | omega) | exact newsNe (by assumption) (by k_mem) (by k_mem) (by assumption) (by intro _ e; cases e))) | apply Sift.drop)) ?_ rfl rfl; k_whole); intro h' o' F' N' d1'; (try dsimp only)))
  k_with "exec FunctionDef" => ((k_here; k_dflt (refine' nestDef_K ?d0q304 ?k0q304 ?a0q304 ?_; (case d0q304 => exact rfl); (case k0q304 => exact rfl); (case a0q304 => exact rfl)); k_dflt (refine' nest_S (by k_asm) (by k_asm) (by k_asm) (by first | assumption | exact CodeHd.keeps (by assumption) (Fr.keep (by assumption))) rfl (by assumption) (by k_mem) (by k_mem) (by repeat' (first | exact Sift.all (by assumption) | exact Sift.all (allLt_ne (And.right (And.right ‹_ ∧ _ ∧ AllLt _ _›)) (by omega)) | exact Sift.all (ltAll (by assumption) (by omega)) | (apply Sift.keep; (case h => first | (refine neN ?_; first | walk_at "ne9" | omega) | exact newsNe (by assumption) (by k_mem) (by k_mem) (by assumption) (by intro _ e; cases e))) | apply Sift.drop)) (by intro c9; kn_triples) (by intro c9; kn_hit) rfl ?_; k_whole); intro f' c' oc' doc' ct' h' tk' F' N' ok'; (have ok2' := ok'); (obtain ⟨vs', t', d1', d2'⟩ := ok2'); (try dsimp only at N')))
  k_with "eval Lambda" => ((k_here; k_dflt (refine' kla_eval ?d0q305 ?_; (case d0q305 => exact rfl)); k_dflt (refine' lam_S (by k_asm) (by k_asm) (by k_asm) (by first | assumption | exact CodeHd.keeps (by assumption) (Fr.keep (by assumption))) rfl (by assumption) (by k_mem) (by k_mem) (by repeat' (first | exact Sift.all (by assumption) | exact Sift.all (allLt_ne (And.right (And.right ‹_ ∧ _ ∧ AllLt _ _›)) (by omega)) | exact Sift.all (ltAll (by assumption) (by omega)) | (apply Sift.keep; (case h => first | (refine neN ?_; first | walk_at "ne9" | omega) | exact newsNe (by assumption) (by k_mem) (by k_mem) (by assumption) (by intro _ e; cases e))) | apply Sift.drop)) (by intro c9; kn_triples) (by intro c9; kn_hit) rfl ?_; k_whole); intro f' c' oc' ct' h' tk' F' N' ok'; (have ok2' := ok'); (obtain ⟨vs', t', d1', d2'⟩ := ok2'); (try dsimp only at N')))
  k_with "OnceB" => ((dsimp only [OnceB]))
  k_with "call ref" => ((k_here; (with_reducible show wpAny _ _ (call (Value.ref 282) _ _) _ _ _); k_dflt (refine wpAny_call ?_; ktr_enter)))
  k_with "CompEnd" => ((k_dflt (first
  | (refine' compEnd_1 ?Fq308 ?Nq308 ?offq308 ?hrq308 ?hSq308 ?_; (case Fq308 => k_asm); (case Nq308 => assumption); (case offq308 => assumption); (case hrq308 => (refine ⟨?_, ?_, ?_⟩ <;> first | walk_at "lt9" | omega)); (case hSq308 => exact Or.inr ⟨_, by k_mem, rfl, _, rfl⟩))
  | (refine' compEnd_0 ?Fq308 ?Nq308 ?offq308 ?hSq308 ?_; (case Fq308 => k_asm); (case Nq308 => assumption); (case offq308 => assumption); (case hSq308 => exact Or.inr ⟨_, by k_mem, rfl, _, rfl⟩)))))
  k_with "CompSrc" => ((k_here; k_dflt (refine LCg.CompSrc.ledger (by rfl) (by k_asm) (by k_asm) (by k_mem) (by first | size_fits | exact Nat.le_of_ble_eq_true rfl) ?_; intro g'; lcg_lit)))
  k_with "eval ListComp" => ((k_here; lcf_look; k_dflt (refine LCg.ListComp_U (F₀ := by k_asm) (by with_unfolding_all rfl) (by decide) (by rfl) (by decide) (by rfl) ?_); k_dflt lcg_toSrc))
  trivial
noncomputable def StopW (P : Prop) : Prop := P
theorem stopW {P : Prop} (h : StopW P) : P := h
theorem reg_56 : True := by
  k_with "exec While Compare cons nil" => (refine stopW ?_)
  k_with "call ref" => ((k_here; (with_reducible show wpAny _ _ (call (Value.ref 100) _ _) _ _ _); k_dflt (refine' size_of_c ?k1q312 ?k2q312 ?k3q312 ?k4q312 ?k5q312 ?kKq312 ?kdq312 ?kuq312   ?_; (case k1q312 => k_asm); (case k2q312 => k_asm); (case k3q312 => k_asm); (case k4q312 => k_asm); (case k5q312 => k_asm); (case kKq312 => first | exact rfl | assumption); (case kdq312 => ktr_room); (case kuq312 => ktr_units); k_whole); intro z9 t9 h9 tk9 e9 F9 N9; (try k_sweep); (try dsimp only); (try k_fold); skip))
  k_with "call ref" => ((k_here; (with_reducible show wpAny _ _ (call (Value.ref 331) _ _) _ _ _); k_dflt (refine' law_fractionF_c ?k1q313 ?k2q313 ?k3q313 ?k4q313 ?k5q313 ?kKq313 ?kdq313 ?kuq313  ?p0q313 ?p1q313 ?p2q313 ?_; (case k1q313 => k_asm); (case k2q313 => k_asm); (case k3q313 => k_asm); (case k4q313 => k_asm); (case k5q313 => k_asm); (case kKq313 => first | exact rfl | assumption); (case kdq313 => ktr_room); (case kuq313 => ktr_units); (case p0q313 => ktr_rel); (case p1q313 => first | with_reducible assumption | omega); (case p2q313 => first | with_reducible assumption | omega); k_whole); intro r9 z9 y9 t9 u9 h9 tk9 e9 f9 l9 F9 N9; (try (replace l9 := allLt_of l9; dsimp only [AllLt] at l9)); (try k_sweep); (try dsimp only); (try k_fold); skip))
  trivial
section
variable {w : World} {loose : List Str} {mean : ExcName → Option Value} {mg mb : Str → Option Value}
  {dp un : Nat} {gd : Option (List Code)} {cn : Str} {cs : Scope} {a : Addr} {ccd : Value} {cl : List (Str × Addr)} {outer : List Env} {A₀ : Around} {base h₀ : Heap} {L : Addr} {m : Str → Option Value} {news : List (Addr × Obj)} {s : Shared} {Q E : Value → Shared → Prop}

theorem law_middles_c {p : Int} {t9 : Tok} {v : (Int × Int) × (Int × Int)} {x1 y1 : Int} {j1 t1 k1 u1 : Tok} {a1 d1 : Addr}
  (B : Below A₀ base outer h₀) (F : Fr h₀ L s.heap m) (X : (hd.heap_1 w.params).In h₀) (N : News h₀ L s.heap (news)) (T : Top topProg loose mean mg mb h₀) (hk : cs.kind = .function)
  (hdp : dp + 15 < recursionLimit) (hun : un + 200 < cLine)
  (Ma1 : (a1, instObj (nat_lit 89) d1) ∈ news) (Md1 : (d1, realO w j1 x1 t1 k1 y1 u1) ∈ news) (h0 : 1 ≤ p) (h1 : p < 100) (hv : midF p x1 y1 = some v)
  (hret : ∀ r r1 r2 z1 z2 z3 z4 u1 u2 u3 u4 h' tk', z1 = (v).1.1 → z2 = (v).1.2 → z3 = (v).2.1 → z4 = (v).2.2 → Fr h₀ L h' m → News h₀ L h' ((r, LCg.lst [.ref r1, .ref r2]) :: (r1, tupO z1 u1 z2 u2) :: (r2, tupO z3 u3 z4 u4) :: news) → Q (.ref r) { s with heap := h', toks := tk' }) :
  wpAny (model Challenge.rw_nt0168_01.row.prog w) (ktrTop dp un gd cn cs L a ccd cl outer) (call (.ref 336) [.int p t9, .ref a1]) Q E s := by
  obtain ⟨g1, g2, N6, k, x, hm, s1, s2, s3, s4, s5, s6, hv1⟩ := midF_parts hv
  have hp2 := p2_eq p
  have hp3 := p2_eq (p - 1)
  rw [hp2] at g2
  have g3 : (if x1 < 0 then -x1 else x1).fmod 2 ≠ 0 := g1
  have g4 : ¬ 2 ^ p.toNat ≤ (if x1 < 0 then -x1 else x1) := g2
  refine wpAny_call ?_
  k_dflt (refine' code_defC ?k1 ?k2 ?k3 ?k4 ?k5 ?kA ?kF ?kK ?k6 ?k7 ?k8 ?k9 ?kB ?kD ?_ ?c2 ?c3 ?c4; (case kA => exact rfl); (case kF => exact rfl); (case kK => assumption); (case k1 => k_asm); (case k2 => k_asm); (case k3 => k_asm); (case k4 => k_asm); (case k5 => k_asm); (case k6 => k_is); (case k7 => k_is); (case k8 => ktr_room); (case k9 => exact BindsTo.of_eq rfl); (case kB => exact rfl); (case kD => decide +kernel); (case c2 => exact rfl); (case c3 => exact rfl); (case c4 => exact rfl); k_whole; intro g' L' h' tk' cells' FG' F' N' Y' B' X' T' l1; (try (replace l1 := allLt_of l1; dsimp only [AllLt] at l1)); k_cells Y'; (try simp only [List.cons_append, List.nil_append] at N'); (try dsimp only); (try k_lift B'); (try k_fold))
  k_steps
  show wpAny _ _ _ _ _ _
  (subst_vars; (rename Fr _ _ _ _ => lF'); (rename News _ _ _ _ => lN'); (with_unfolding_all refine' ksw_while (σ := MS) (fun c => (L' + 1, c.o) :: news) (fun c => [(Str.ofString "mantissa", .int c.p c.a)]) (fun c => c.o.data = .cell (some (.int c.t c.b))) [] (fun c => midL c.n p c.p c.t = some (k, x)) (fun c => c.n) ⟨N6, _, _, _, _, _⟩ lF' ?kn ?kf ?kk ?kp ?_); (case kk => kst_all); (case kn => (exact kst_newsOf lN' (by (try dsimp only); first | exact fun p hp => hp | (refine List.forall_mem_cons.mpr ⟨by k_mem, List.forall_mem_cons.mpr ⟨by k_mem, List.forall_mem_cons.mpr ⟨by k_mem, fun p hp => ?_⟩⟩⟩; (repeat (first | exact hp | refine List.mem_cons_of_mem _ ?_))) | (refine List.forall_mem_cons.mpr ⟨by k_mem, List.forall_mem_cons.mpr ⟨by k_mem, fun p hp => ?_⟩⟩; (repeat (first | exact hp | refine List.mem_cons_of_mem _ ?_))) | (refine List.forall_mem_cons.mpr ⟨by k_mem, fun p hp => ?_⟩; (repeat (first | exact hp | refine List.mem_cons_of_mem _ ?_))) | (intro p hp; (repeat (first | exact hp | refine List.mem_cons_of_mem _ ?_)))))); (case kf => assumption); (case kp => ((try dsimp only); k_dflt (exact hm))); (clear lF' lN'); intro c u h tk hf hP F' N'; obtain ⟨n, q, t, ta, tb, oo⟩ := c; dsimp only at hf hP F' N'; skip; rcases n with _ | n; (· (simp [midL] at hP)); by_cases hg : q < p2 (p - 1); all_goals (first | (replace hP := midL_step hg hP) | (obtain ⟨rfl, rfl⟩ := Prod.mk.inj (Option.some.inj ((midL_stop hg).symm.trans hP)); by_cases hq : q = p2 (p - 1); all_goals ((first | (have s7 : nearV p q = 4 * q - 1 := by rw [nearV, if_pos hq]) | (have s7 : nearV p q = 4 * q - 2 := by rw [nearV, if_neg hq])); rw [s7] at s3 s6 hv1; rw [hp3] at hq))); all_goals rw [hp3] at hg; all_goals ((try dsimp only); (try k_fold)))
  all_goals k_steps
  focus ((try dsimp only); (rename News _ _ _ _ => nE'); (rename Fr _ _ _ _ => fE'); refine' ksw_end ⟨n, _, _, _, _, _⟩ fE' nE' ?kn ?kf ?kk ?kr ?kp (Nat.lt_succ_self _); (case kk => kst_all); (case kn => ((try dsimp only); first | exact fun p hp => hp | (refine List.forall_mem_cons.mpr ⟨by k_mem, List.forall_mem_cons.mpr ⟨by k_mem, List.forall_mem_cons.mpr ⟨by k_mem, fun p hp => ?_⟩⟩⟩; (repeat (first | exact hp | refine List.mem_cons_of_mem _ ?_))) | (refine List.forall_mem_cons.mpr ⟨by k_mem, List.forall_mem_cons.mpr ⟨by k_mem, fun p hp => ?_⟩⟩; (repeat (first | exact hp | refine List.mem_cons_of_mem _ ?_))) | (refine List.forall_mem_cons.mpr ⟨by k_mem, fun p hp => ?_⟩; (repeat (first | exact hp | refine List.mem_cons_of_mem _ ?_))) | (intro p hp; (repeat (first | exact hp | refine List.mem_cons_of_mem _ ?_))))); (case kf => assumption); (case kr => (intro z h2 h3; simp only [List.forall_mem_cons, List.not_mem_nil, false_implies, implies_true, and_true, ne_eq] at h2; simp [kstB, h2])); (case kp => ((try dsimp only); exact hP)))

  all_goals (refine retM hret (by assumption) (by k_asm) (by k_mem) (by k_mem) (by k_mem) (by first | ((repeat (first | exact sub_refl | refine sub_cons ?_)); done) | (intro p hp; first | exact hp | (repeat (first | exact hp | refine List.mem_cons_of_mem _ ?_)))) ?_)
  all_goals (rcases hv1 with ⟨hx, rfl⟩ | ⟨hx, rfl⟩ <;> first | exact absurd ‹x1 < 0› ‹¬ x1 < 0› | exact mid_eq (by assumption) (by assumption) (by assumption) (by assumption))
theorem reg_57 : True := by
  k_with "call ref" => ((k_here; (with_reducible show wpAny _ _ (call (Value.ref 336) _ _) _ _ _); k_dflt (refine' law_middles_c ?k1q314 ?k2q314 ?k3q314 ?k4q314 ?k5q314 ?kKq314 ?kdq314 ?kuq314 ?m0q314 ?m1q314 ?p0q314 ?p1q314 ?p2q314 ?_; (case k1q314 => k_asm); (case k2q314 => k_asm); (case k3q314 => k_asm); (case k4q314 => k_asm); (case k5q314 => k_asm); (case kKq314 => first | exact rfl | assumption); (case kdq314 => ktr_room); (case kuq314 => ktr_units); (case m0q314 => k_mem); (case m1q314 => k_mem); (case p0q314 => first | with_reducible assumption | omega); (case p1q314 => first | with_reducible assumption | omega); (case p2q314 => first | with_reducible assumption | k_dflt (have hq := (‹midF _ _ _ = some _›); refine Eq.trans ?_ hq; law_clear; subst_vars; exact rfl) | kwd_less); k_whole); intro r9 p9 q9 z9 y9 x9 w9 t9 u9 j9 k9 h9 tk9 e9 f9 c9 d9 F9 N9; (try k_sweep); (try dsimp only); (try k_fold); skip))
  trivial
end
end
section
open PySem PySem.W PySem.Spec PySem.Calls PyProof.Rows
set_option Elab.async false
set_option maxRecDepth 100000
set_option maxHeartbeats 0
theorem reg_58 : True := by
  k_with_none
  k_with "lt9" => (first | with_reducible assumption | (refine ltc (by with_reducible assumption) ?_; first | exact pj1 | exact pj2 | exact pj3 | exact pj4 | exact pj5 | exact pj6 | exact pj7 | exact pj8 | exact pj9 | exact pj10 | exact pj11 | exact pj12 | exact pj13 | exact pj14 | exact qj1 | exact qj2 | exact qj3 | exact qj4 | exact qj5 | exact qj6 | exact qj7 | exact qj8 | exact qj9 | exact qj10 | exact qj11 | exact qj12 | exact qj13 | exact qj14))
  k_with "ne9" => (first | decide | (refine Nat.ne_of_lt ?_; walk_at "lt9") | (refine Nat.ne_of_gt ?_; walk_at "lt9") | exact Nat.ne_of_lt (Nat.lt_succ_self _) | exact Nat.ne_of_gt (Nat.lt_succ_self _) | (refine ne_up1 ?_; walk_at "lt9") | (refine ne_up2 ?_; walk_at "lt9") | (refine Ne.symm (ne_up1 ?_); walk_at "lt9") | (refine Ne.symm (ne_up2 ?_); walk_at "lt9"))
  trivial
-- Sm facts
theorem reg_59 : True := by
  k_with "binaryOp FloorDiv int int" => ((k_here; (with_reducible refine floordiv_int ?feq317 ?_ (Or.inl (Sm.py ?fpq317))); (case feq317 => first | decide | omega | assumption); (case fpq317 => ktr_rel)))
  k_with "binaryOp LShift int int" => ((k_here; (with_reducible refine lshift_int ?feq318 ?fpq318 ?_); (case feq318 => omega); (case fpq318 => exact Sm.shl (by ktr_rel) (by omega))))
  k_with "ite" => ((k_here; k_openite; k_spoken; first
  | (refine ite_pos (by ((try simp only [beq_iff_eq, bne_iff_ne, ne_eq, Bool.not_eq_true', beq_eq_false_iff_ne]); (try law_clear); (try subst_vars); first | assumption | exact decide_eq_true rfl | exact Int.not_le.mp (by assumption) | exact Int.not_lt.mp (by assumption) | (law_clear; omega))) ?_; walk_say "PRUNED own")
  | (refine ite_neg (by ((try simp only [beq_iff_eq, bne_iff_ne, ne_eq, Bool.not_eq_true', beq_eq_false_iff_ne]); (try law_clear); (try subst_vars); first | assumption | exact Int.not_le.mpr (by assumption) | exact Int.not_lt.mpr (by assumption) | (law_clear; omega))) ?_; walk_say "PRUNED own")))
  k_with "subscriptTail" => ((k_here; (with_reducible show wpAny _ _ (subscriptTail _ _ (Value.ref _) (Value.int _ _)) _ _ _); k_dflt (refine' item_tupleT ?tq320 ?aq320 ?bq320 ?cq320 ?dq320 ?_; (case tq320 => exact News.isTup (by k_asm) (by k_mem)); (case aq320 => decide); (case bq320 => decide); (case cq320 => rfl); (case dq320 => rfl); k_whole)))
  k_with "subscriptTail Name Constant ref int" => ((k_here; (with_reducible show wpAny _ _ (subscriptTail _ _ (Value.ref _) (Value.int _ _)) _ _ _); k_dflt (refine' item_tupleT ?tq321 ?aq321 ?bq321 ?cq321 ?dq321 ?_; (case tq321 => exact News.isTup (by k_asm) (by k_mem)); (case aq321 => decide); (case bq321 => decide); (case cq321 => rfl); (case dq321 => rfl); k_whole)))
  k_with "callWith ref" => ((k_here; k_dflt (refine' callWith_K ?k1q322 ?k2q322 ?_; (case k1q322 => k_asm); (case k2q322 => k_is); k_whole)))
  k_with "call builtin:divmod" => ((k_here; (with_reducible show wpAny _ _ (call (Value.builtin _) [Value.int _ _, Value.int _ _]) _ _ _); k_dflt (refine' divmod_N ?k1q323 ?k2q323 ?feq323 ?_ (Or.inl (Sm.py ?fpq323)); (case k1q323 => k_asm); (case k2q323 => k_asm); (case feq323 => first | omega | exact Int.ne_of_gt (Int.mul_pos (by omega) (pow2_pos _))); (case fpq323 => ktr_rel)); intro h' F' N'; (try k_sweep)))
  k_with "call builtin:max" => ((k_here; (with_reducible show wpAny _ _ (call (Value.builtin _) [Value.ref _]) _ _ _); k_dflt (first
  | (refine' max_tup ?k0q324 ?k1q324 ?k2q324 ?k3q324 ?_; (case k0q324 => exact rfl); (case k1q324 => k_asm); (case k2q324 => k_asm); (case k3q324 => exact News.isTup (by k_asm) (by k_mem)))
  | (refine' max_list4 ?k0q324 ?k1q324 ?k2q324 ?k3q324 ?_; (case k0q324 => exact rfl); (case k1q324 => k_asm); (case k2q324 => k_asm); (case k3q324 => exact News.isList (by k_asm) (by k_mem)))); k_whole; intro h' r' tk' F' N'; (try k_sweep)))
  k_with "call builtin:min" => ((k_here; (with_reducible show wpAny _ _ (call (Value.builtin _) [Value.ref _]) _ _ _); k_dflt (first
  | (refine' min_tup ?k0q325 ?k1q325 ?k2q325 ?k3q325 ?_; (case k0q325 => exact rfl); (case k1q325 => k_asm); (case k2q325 => k_asm); (case k3q325 => exact News.isTup (by k_asm) (by k_mem)))
  | (refine' min_list4 ?k0q325 ?k1q325 ?k2q325 ?k3q325 ?_; (case k0q325 => exact rfl); (case k1q325 => k_asm); (case k2q325 => k_asm); (case k3q325 => exact News.isList (by k_asm) (by k_mem)))); k_whole; intro h' r' tk' F' N'; (try k_sweep)))
  k_with "exec Raise some none" => ((k_here; k_dflt (refine' raise_own (C := 51) ?hhq326 ?_; (case hhq326 => exact rfl); k_whole)))
  k_with "call ref" => ((k_here; (with_reducible show wpAny _ _ (call (Value.ref 51) _ _) _ _ _); k_dflt (refine wpAny_call ?_); k_dflt (refine' make_excH (fI := 48) ?k1q327 ?k2q327 ?k3q327 ?k4q327 ?k5q327 ?k6q327 ?k7q327 ?_; (case k1q327 => k_asm); (case k2q327 => k_asm); (case k3q327 => k_asm); (case k4q327 => kernel_rfl); (case k5q327 => k_is); (case k6q327 => k_is); (case k7q327 => size_fits); k_whole); intro x' t' h' F' N' l1 l2; (try (replace l1 := allLt_of l1; dsimp only [AllLt] at l1)); (try k_lt2 l2); (try k_sweep); k_dflt (refine' code_def ?k1q327 ?k2q327 ?k3q327 ?k4q327 ?k5q327 ?kAq327 ?kFq327 ?kKq327 ?k6q327 ?k7q327 ?k8q327 ?k9q327 ?kBq327 ?_ ?c2q327 ?c3q327 ?c4q327 ?c5q327; (case kAq327 => exact rfl); (case kFq327 => exact rfl); (case kKq327 => first | exact rfl | assumption); (case k1q327 => k_asm); (case k2q327 => k_asm); (case k3q327 => k_asm); (case k4q327 => k_asm); (case k5q327 => k_asm); (case k6q327 => k_is); (case k7q327 => k_is); (case k8q327 => ktr_room); (case k9q327 => exact BindsTo.of_eq rfl); (case c5q327 => decide); (case kBq327 => exact locs rfl); (case c2q327 => exact rfl); (case c3q327 => exact rfl); (case c4q327 => exact rfl); k_whole; intro g' L' h' FG' F' N' B' X' T'; (try dsimp only); (try k_fold))))
  k_with "RaiseP" => ((k_dflt (refine' raiseP_of (C := 51) ?k1q328 ?k2q328 ?k3q328 ?k4q328 ?m1q328 ?_; (case k1q328 => k_asm); (case k2q328 => k_asm); (case k3q328 => kernel_rfl); (case k4q328 => k_asm); (case m1q328 => k_mem)); k_whole; (try dsimp only)))
  k_with "leaving ref" => ((k_here; k_dflt (refine' leave_exc (C := 51) ?k1q329 ?k2q329 ?k3q329 ?m1q329 ?sfq329 ?k4q329 ?k5q329 ?_; (case k1q329 => k_asm); (case k2q329 => k_asm); (case k3q329 => k_asm); (case m1q329 => k_mem); (case sfq329 => repeat' (first | exact Sift.all (by assumption) | exact Sift.all (allLt_ne (And.right (And.right ‹_ ∧ _ ∧ AllLt _ _›)) (by omega)) | exact Sift.all (ltAll (by assumption) (by omega)) | (apply Sift.keep; (case h => first | (refine neN ?_; first | walk_at "ne9" | omega) | exact newsNe (by assumption) (by k_mem) (by k_mem) (by assumption) (by intro _ e; cases e))) | apply Sift.drop)); (case k4q329 => exact rfl); (case k5q329 => first | exact rfl | assumption)); k_whole; intro h9 R9 U9; (try dsimp only)))
  k_with "setAttr ref" => ((k_here; k_dflt (first
  | (refine' setExc_none (C := 51) ?k1q330 ?k2q330 ?k3q330 ?k4q330 ?k5q330 ?k6q330 ?m1q330 ?sfq330 ?_; (case k1q330 => k_asm); (case k2q330 => k_asm); (case k3q330 => k_asm); (case k4q330 => kernel_rfl); (case k5q330 => kernel_rfl); (case k6q330 => kernel_rfl); (case m1q330 => k_mem); (case sfq330 => repeat' (first | exact Sift.all (by assumption) | exact Sift.all (allLt_ne (And.right (And.right ‹_ ∧ _ ∧ AllLt _ _›)) (by omega)) | exact Sift.all (ltAll (by assumption) (by omega)) | (apply Sift.keep; (case h => first | (refine neN ?_; first | walk_at "ne9" | omega) | exact newsNe (by assumption) (by k_mem) (by k_mem) (by assumption) (by intro _ e; cases e))) | apply Sift.drop)); k_whole; intro h' dx' od' tk' F' N' D' l1; (try (replace l1 := allLt_of l1; dsimp only [AllLt] at l1)); (try dsimp only))
  | (refine' setExc_some (C := 51) ?k1q330 ?k2q330 ?k3q330 ?k4q330 ?k5q330 ?k6q330 ?m1q330 ?m2q330 ?dnq330 ?sfq330 ?lnq330 ?_; (case k1q330 => k_asm); (case k2q330 => k_asm); (case k3q330 => k_asm); (case k4q330 => kernel_rfl); (case k5q330 => kernel_rfl); (case k6q330 => kernel_rfl); (case m1q330 => k_mem); (case m2q330 => k_mem); (case dnq330 => assumption); (case sfq330 => repeat' (first | exact Sift.all (by assumption) | exact Sift.all (allLt_ne (And.right (And.right ‹_ ∧ _ ∧ AllLt _ _›)) (by omega)) | exact Sift.all (ltAll (by assumption) (by omega)) | (apply Sift.keep; (case h => first | (refine neN ?_; first | walk_at "ne9" | omega) | exact newsNe (by assumption) (by k_mem) (by k_mem) (by assumption) (by intro _ e; cases e))) | apply Sift.drop)); (case lnq330 => decide); k_whole; intro h' od' tk' F' N' D'; (try dsimp only)))))
  k_with "call ref" => ((k_here; (with_reducible show wpAny _ _ (call (Value.ref 163) _ _) _ _ _); k_dflt (refine' sign_of_c ?k1q331 ?k2q331 ?k3q331 ?k4q331 ?k5q331 ?kKq331 ?kdq331 ?kuq331 ?m0q331 ?m1q331  ?_; (case k1q331 => k_asm); (case k2q331 => k_asm); (case k3q331 => k_asm); (case k4q331 => k_asm); (case k5q331 => k_asm); (case kKq331 => first | exact rfl | assumption); (case kdq331 => ktr_room); (case kuq331 => ktr_units); (case m0q331 => k_mem); (case m1q331 => k_mem); k_whole); intro z9 t9 h9 tk9 e9 F9 N9; (try k_sweep); (try dsimp only); (try k_fold); skip))
  k_with "call ref" => ((k_here; (with_reducible show wpAny _ _ (call (Value.ref 156) _ _) _ _ _); k_dflt (refine' place_of_c ?k1q332 ?k2q332 ?k3q332 ?k4q332 ?k5q332 ?kKq332 ?kdq332 ?kuq332 ?m0q332 ?m1q332  ?_; (case k1q332 => k_asm); (case k2q332 => k_asm); (case k3q332 => k_asm); (case k4q332 => k_asm); (case k5q332 => k_asm); (case kKq332 => first | exact rfl | assumption); (case kdq332 => ktr_room); (case kuq332 => ktr_units); (case m0q332 => k_mem); (case m1q332 => k_mem); k_whole); intro z9 t9 h9 tk9 e9 F9 N9; (try k_sweep); (try dsimp only); (try k_fold); skip))
  trivial
section
variable {w : World} {loose : List Str} {mean : ExcName → Option Value} {mg mb : Str → Option Value}
  {dp un : Nat} {gd : Option (List Code)} {cn : Str} {cs : Scope} {a : Addr} {ccd : Value} {cl : List (Str × Addr)} {outer : List Env} {A₀ : Around} {base h₀ : Heap} {L : Addr} {m : Str → Option Value} {news : List (Addr × Obj)} {s : Shared} {Q E : Value → Shared → Prop}

theorem exp_raise_c {p : Int} {t9 : Tok} {x1 y1 : Int} {j1 t1 k1 u1 : Tok} {a1 d1 : Addr}
  (B : Below A₀ base outer h₀) (F : Fr h₀ L s.heap m) (X : (hd.heap_1 w.params).In h₀) (N : News h₀ L s.heap (news)) (T : Top topProg loose mean mg mb h₀) (hk : cs.kind = .function)
  (hdp : dp + 24 < recursionLimit) (hun : un + 320 < cLine)
  (Ma1 : (a1, instObj (nat_lit 89) d1) ∈ news) (Md1 : (d1, realO w j1 x1 t1 k1 y1 u1) ∈ news) (g1 : sgn x1 ≠ 0) (g2 : 17 < placeI x1 y1)
  (hraise : ∀ g e h' tk', Fr h₀ L g m → RaisedSN base g (envX cn cs L a ccd cl :: outer) e (.ref 51) news h' → g.UpToSlots h' → E (.ref e) { s with heap := h', toks := tk' }) :
  wpAny (model Challenge.rw_nt0168_01.row.prog w) (ktrTop dp un gd cn cs L a ccd cl outer) (call (.ref 296) [.int p t9, .ref a1]) Q E s := by
  refine wpAny_call ?_
  k_dflt (refine' code_defC ?k1 ?k2 ?k3 ?k4 ?k5 ?kA ?kF ?kK ?k6 ?k7 ?k8 ?k9 ?kB ?kD ?_ ?c2 ?c3 ?c4; (case kA => exact rfl); (case kF => exact rfl); (case kK => assumption); (case k1 => k_asm); (case k2 => k_asm); (case k3 => k_asm); (case k4 => k_asm); (case k5 => k_asm); (case k6 => k_is); (case k7 => k_is); (case k8 => ktr_room); (case k9 => exact BindsTo.of_eq rfl); (case kB => exact rfl); (case kD => decide +kernel); (case c2 => exact rfl); (case c3 => exact rfl); (case c4 => exact rfl); k_whole; intro g' L' h' tk' cells' FG' F' N' Y' B' X' T' l1; (try (replace l1 := allLt_of l1; dsimp only [AllLt] at l1)); k_cells Y'; (try simp only [List.cons_append, List.nil_append] at N'); (try dsimp only); (try k_lift B'); (try k_fold))
  k_steps
  exact hraise _ _ _ _ (by assumption) (raised_sub (by assumption) (by first | ((repeat (first | exact sub_refl | refine sub_cons ?_)); done) | (intro p hp; first | exact hp | (repeat (first | exact hp | refine List.mem_cons_of_mem _ ?_))))) (by assumption)
theorem reg_60 : True := by
  k_with "call ref" => ((k_here; (with_reducible show wpAny _ _ (call (Value.ref 296) _ _) _ _ _); k_dflt (refine' exp_raise_c ?k1q333 ?k2q333 ?k3q333 ?k4q333 ?k5q333 ?kKq333 ?kdq333 ?kuq333 ?m0q333 ?m1q333 ?p0q333 ?p1q333 ?_; (case k1q333 => k_asm); (case k2q333 => k_asm); (case k3q333 => k_asm); (case k4q333 => k_asm); (case k5q333 => k_asm); (case kKq333 => first | exact rfl | assumption); (case kdq333 => ktr_room); (case kuq333 => ktr_units); (case m0q333 => k_mem); (case m1q333 => k_mem); (case p0q333 => (try law_clear); subst_vars; decide); (case p1q333 => (try law_clear); subst_vars; decide); k_whole); intro g9 e9 h9 tk9 F9 R9 U9; (try k_sweep); (try dsimp only); (try k_fold); skip))
  trivial
end
end
section
open PySem PySem.W PySem.Spec PySem.Calls PyProof.Rows
set_option Elab.async false
set_option maxRecDepth 100000
set_option maxHeartbeats 0
theorem reg_61 : True := by
  k_with_none
  k_with "lt9" => (first | with_reducible assumption | (refine ltc (by with_reducible assumption) ?_; first | exact pj1 | exact pj2 | exact pj3 | exact pj4 | exact pj5 | exact pj6 | exact pj7 | exact pj8 | exact pj9 | exact pj10 | exact pj11 | exact pj12 | exact pj13 | exact pj14 | exact qj1 | exact qj2 | exact qj3 | exact qj4 | exact qj5 | exact qj6 | exact qj7 | exact qj8 | exact qj9 | exact qj10 | exact qj11 | exact qj12 | exact qj13 | exact qj14))
  k_with "ne9" => (first | decide | (refine Nat.ne_of_lt ?_; walk_at "lt9") | (refine Nat.ne_of_gt ?_; walk_at "lt9") | exact Nat.ne_of_lt (Nat.lt_succ_self _) | exact Nat.ne_of_gt (Nat.lt_succ_self _) | (refine ne_up1 ?_; walk_at "lt9") | (refine ne_up2 ?_; walk_at "lt9") | (refine Ne.symm (ne_up1 ?_); walk_at "lt9") | (refine Ne.symm (ne_up2 ?_); walk_at "lt9"))
  trivial
-- Sm facts
theorem reg_62 : True := by
  k_with "binaryOp FloorDiv int int" => ((k_here; (with_reducible refine floordiv_int ?feq336 ?_ (Or.inl (Sm.py ?fpq336))); (case feq336 => first | decide | omega | assumption); (case fpq336 => ktr_rel)))
  k_with "binaryOp LShift int int" => ((k_here; (with_reducible refine lshift_int ?feq337 ?fpq337 ?_); (case feq337 => omega); (case fpq337 => exact Sm.shl (by ktr_rel) (by omega))))
  k_with "ite" => ((k_here; k_openite; k_spoken; first
  | (refine ite_pos (by ((try simp only [beq_iff_eq, bne_iff_ne, ne_eq, Bool.not_eq_true', beq_eq_false_iff_ne]); (try law_clear); (try subst_vars); first | assumption | exact decide_eq_true rfl | exact Int.not_le.mp (by assumption) | exact Int.not_lt.mp (by assumption) | (law_clear; omega))) ?_; walk_say "PRUNED own")
  | (refine ite_neg (by ((try simp only [beq_iff_eq, bne_iff_ne, ne_eq, Bool.not_eq_true', beq_eq_false_iff_ne]); (try law_clear); (try subst_vars); first | assumption | exact Int.not_le.mpr (by assumption) | exact Int.not_lt.mpr (by assumption) | (law_clear; omega))) ?_; walk_say "PRUNED own")))
  k_with "subscriptTail" => ((k_here; (with_reducible show wpAny _ _ (subscriptTail _ _ (Value.ref _) (Value.int _ _)) _ _ _); k_dflt (refine' item_tupleT ?tq339 ?aq339 ?bq339 ?cq339 ?dq339 ?_; (case tq339 => exact News.isTup (by k_asm) (by k_mem)); (case aq339 => decide); (case bq339 => decide); (case cq339 => rfl); (case dq339 => rfl); k_whole)))
  k_with "subscriptTail Name Constant ref int" => ((k_here; (with_reducible show wpAny _ _ (subscriptTail _ _ (Value.ref _) (Value.int _ _)) _ _ _); k_dflt (refine' item_tupleT ?tq340 ?aq340 ?bq340 ?cq340 ?dq340 ?_; (case tq340 => exact News.isTup (by k_asm) (by k_mem)); (case aq340 => decide); (case bq340 => decide); (case cq340 => rfl); (case dq340 => rfl); k_whole)))
  k_with "callWith ref" => ((k_here; k_dflt (refine' callWith_K ?k1q341 ?k2q341 ?_; (case k1q341 => k_asm); (case k2q341 => k_is); k_whole)))
  k_with "call builtin:divmod" => ((k_here; (with_reducible show wpAny _ _ (call (Value.builtin _) [Value.int _ _, Value.int _ _]) _ _ _); k_dflt (refine' divmod_N ?k1q342 ?k2q342 ?feq342 ?_ (Or.inl (Sm.py ?fpq342)); (case k1q342 => k_asm); (case k2q342 => k_asm); (case feq342 => first | omega | exact Int.ne_of_gt (Int.mul_pos (by omega) (pow2_pos _))); (case fpq342 => ktr_rel)); intro h' F' N'; (try k_sweep)))
  k_with "call builtin:max" => ((k_here; (with_reducible show wpAny _ _ (call (Value.builtin _) [Value.ref _]) _ _ _); k_dflt (first
  | (refine' max_tup ?k0q343 ?k1q343 ?k2q343 ?k3q343 ?_; (case k0q343 => exact rfl); (case k1q343 => k_asm); (case k2q343 => k_asm); (case k3q343 => exact News.isTup (by k_asm) (by k_mem)))
  | (refine' max_list4 ?k0q343 ?k1q343 ?k2q343 ?k3q343 ?_; (case k0q343 => exact rfl); (case k1q343 => k_asm); (case k2q343 => k_asm); (case k3q343 => exact News.isList (by k_asm) (by k_mem)))); k_whole; intro h' r' tk' F' N'; (try k_sweep)))
  k_with "call builtin:min" => ((k_here; (with_reducible show wpAny _ _ (call (Value.builtin _) [Value.ref _]) _ _ _); k_dflt (first
  | (refine' min_tup ?k0q344 ?k1q344 ?k2q344 ?k3q344 ?_; (case k0q344 => exact rfl); (case k1q344 => k_asm); (case k2q344 => k_asm); (case k3q344 => exact News.isTup (by k_asm) (by k_mem)))
  | (refine' min_list4 ?k0q344 ?k1q344 ?k2q344 ?k3q344 ?_; (case k0q344 => exact rfl); (case k1q344 => k_asm); (case k2q344 => k_asm); (case k3q344 => exact News.isList (by k_asm) (by k_mem)))); k_whole; intro h' r' tk' F' N'; (try k_sweep)))
  k_with "exec Raise some none" => ((k_here; k_dflt (refine' raise_own (C := 70) ?hhq345 ?_; (case hhq345 => exact rfl); k_whole)))
  k_with "call ref" => ((k_here; (with_reducible show wpAny _ _ (call (Value.ref 70) _ _) _ _ _); k_dflt (refine wpAny_call ?_); k_dflt (refine' make_excH (fI := 67) ?k1q346 ?k2q346 ?k3q346 ?k4q346 ?k5q346 ?k6q346 ?k7q346 ?_; (case k1q346 => k_asm); (case k2q346 => k_asm); (case k3q346 => k_asm); (case k4q346 => kernel_rfl); (case k5q346 => k_is); (case k6q346 => k_is); (case k7q346 => size_fits); k_whole); intro x' t' h' F' N' l1 l2; (try (replace l1 := allLt_of l1; dsimp only [AllLt] at l1)); (try k_lt2 l2); (try k_sweep); k_dflt (refine' code_def ?k1q346 ?k2q346 ?k3q346 ?k4q346 ?k5q346 ?kAq346 ?kFq346 ?kKq346 ?k6q346 ?k7q346 ?k8q346 ?k9q346 ?kBq346 ?_ ?c2q346 ?c3q346 ?c4q346 ?c5q346; (case kAq346 => exact rfl); (case kFq346 => exact rfl); (case kKq346 => first | exact rfl | assumption); (case k1q346 => k_asm); (case k2q346 => k_asm); (case k3q346 => k_asm); (case k4q346 => k_asm); (case k5q346 => k_asm); (case k6q346 => k_is); (case k7q346 => k_is); (case k8q346 => ktr_room); (case k9q346 => exact BindsTo.of_eq rfl); (case c5q346 => decide); (case kBq346 => exact locs rfl); (case c2q346 => exact rfl); (case c3q346 => exact rfl); (case c4q346 => exact rfl); k_whole; intro g' L' h' FG' F' N' B' X' T'; (try dsimp only); (try k_fold))))
  k_with "RaiseP" => ((k_dflt (refine' raiseP_of (C := 70) ?k1q347 ?k2q347 ?k3q347 ?k4q347 ?m1q347 ?_; (case k1q347 => k_asm); (case k2q347 => k_asm); (case k3q347 => kernel_rfl); (case k4q347 => k_asm); (case m1q347 => k_mem)); k_whole; (try dsimp only)))
  k_with "leaving ref" => ((k_here; k_dflt (refine' leave_exc (C := 70) ?k1q348 ?k2q348 ?k3q348 ?m1q348 ?sfq348 ?k4q348 ?k5q348 ?_; (case k1q348 => k_asm); (case k2q348 => k_asm); (case k3q348 => k_asm); (case m1q348 => k_mem); (case sfq348 => repeat' (first | exact Sift.all (by assumption) | exact Sift.all (allLt_ne (And.right (And.right ‹_ ∧ _ ∧ AllLt _ _›)) (by omega)) | exact Sift.all (ltAll (by assumption) (by omega)) | (apply Sift.keep; (case h => first | (refine neN ?_; first | walk_at "ne9" | omega) | exact newsNe (by assumption) (by k_mem) (by k_mem) (by assumption) (by intro _ e; cases e))) | apply Sift.drop)); (case k4q348 => exact rfl); (case k5q348 => first | exact rfl | assumption)); k_whole; intro h9 R9 U9; (try dsimp only)))
  k_with "setAttr ref" => ((k_here; k_dflt (first
  | (refine' setExc_none (C := 70) ?k1q349 ?k2q349 ?k3q349 ?k4q349 ?k5q349 ?k6q349 ?m1q349 ?sfq349 ?_; (case k1q349 => k_asm); (case k2q349 => k_asm); (case k3q349 => k_asm); (case k4q349 => kernel_rfl); (case k5q349 => kernel_rfl); (case k6q349 => kernel_rfl); (case m1q349 => k_mem); (case sfq349 => repeat' (first | exact Sift.all (by assumption) | exact Sift.all (allLt_ne (And.right (And.right ‹_ ∧ _ ∧ AllLt _ _›)) (by omega)) | exact Sift.all (ltAll (by assumption) (by omega)) | (apply Sift.keep; (case h => first | (refine neN ?_; first | walk_at "ne9" | omega) | exact newsNe (by assumption) (by k_mem) (by k_mem) (by assumption) (by intro _ e; cases e))) | apply Sift.drop)); k_whole; intro h' dx' od' tk' F' N' D' l1; (try (replace l1 := allLt_of l1; dsimp only [AllLt] at l1)); (try dsimp only))
  | (refine' setExc_some (C := 70) ?k1q349 ?k2q349 ?k3q349 ?k4q349 ?k5q349 ?k6q349 ?m1q349 ?m2q349 ?dnq349 ?sfq349 ?lnq349 ?_; (case k1q349 => k_asm); (case k2q349 => k_asm); (case k3q349 => k_asm); (case k4q349 => kernel_rfl); (case k5q349 => kernel_rfl); (case k6q349 => kernel_rfl); (case m1q349 => k_mem); (case m2q349 => k_mem); (case dnq349 => assumption); (case sfq349 => repeat' (first | exact Sift.all (by assumption) | exact Sift.all (allLt_ne (And.right (And.right ‹_ ∧ _ ∧ AllLt _ _›)) (by omega)) | exact Sift.all (ltAll (by assumption) (by omega)) | (apply Sift.keep; (case h => first | (refine neN ?_; first | walk_at "ne9" | omega) | exact newsNe (by assumption) (by k_mem) (by k_mem) (by assumption) (by intro _ e; cases e))) | apply Sift.drop)); (case lnq349 => decide); k_whole; intro h' od' tk' F' N' D'; (try dsimp only)))))
  k_with "call ref" => ((k_here; (with_reducible show wpAny _ _ (call (Value.ref 163) _ _) _ _ _); k_dflt (refine' sign_of_c ?k1q350 ?k2q350 ?k3q350 ?k4q350 ?k5q350 ?kKq350 ?kdq350 ?kuq350 ?m0q350 ?m1q350  ?_; (case k1q350 => k_asm); (case k2q350 => k_asm); (case k3q350 => k_asm); (case k4q350 => k_asm); (case k5q350 => k_asm); (case kKq350 => first | exact rfl | assumption); (case kdq350 => ktr_room); (case kuq350 => ktr_units); (case m0q350 => k_mem); (case m1q350 => k_mem); k_whole); intro z9 t9 h9 tk9 e9 F9 N9; (try k_sweep); (try dsimp only); (try k_fold); skip))
  k_with "call ref" => ((k_here; (with_reducible show wpAny _ _ (call (Value.ref 156) _ _) _ _ _); k_dflt (refine' place_of_c ?k1q351 ?k2q351 ?k3q351 ?k4q351 ?k5q351 ?kKq351 ?kdq351 ?kuq351 ?m0q351 ?m1q351  ?_; (case k1q351 => k_asm); (case k2q351 => k_asm); (case k3q351 => k_asm); (case k4q351 => k_asm); (case k5q351 => k_asm); (case kKq351 => first | exact rfl | assumption); (case kdq351 => ktr_room); (case kuq351 => ktr_units); (case m0q351 => k_mem); (case m1q351 => k_mem); k_whole); intro z9 t9 h9 tk9 e9 F9 N9; (try k_sweep); (try dsimp only); (try k_fold); skip))
  trivial
section
variable {w : World} {loose : List Str} {mean : ExcName → Option Value} {mg mb : Str → Option Value}
  {dp un : Nat} {gd : Option (List Code)} {cn : Str} {cs : Scope} {a : Addr} {ccd : Value} {cl : List (Str × Addr)} {outer : List Env} {A₀ : Around} {base h₀ : Heap} {L : Addr} {m : Str → Option Value} {news : List (Addr × Obj)} {s : Shared} {Q E : Value → Shared → Prop}

theorem log_raise_c {p : Int} {t9 : Tok} {x1 y1 : Int} {j1 t1 k1 u1 : Tok} {a1 d1 : Addr}
  (B : Below A₀ base outer h₀) (F : Fr h₀ L s.heap m) (X : (hd.heap_1 w.params).In h₀) (N : News h₀ L s.heap (news)) (T : Top topProg loose mean mg mb h₀) (hk : cs.kind = .function)
  (hdp : dp + 24 < recursionLimit) (hun : un + 320 < cLine)
  (Ma1 : (a1, instObj (nat_lit 89) d1) ∈ news) (Md1 : (d1, realO w j1 x1 t1 k1 y1 u1) ∈ news) (g1 : sgn x1 ≤ 0)
  (hraise : ∀ g e h' tk', Fr h₀ L g m → RaisedSN base g (envX cn cs L a ccd cl :: outer) e (.ref 70) news h' → g.UpToSlots h' → E (.ref e) { s with heap := h', toks := tk' }) :
  wpAny (model Challenge.rw_nt0168_01.row.prog w) (ktrTop dp un gd cn cs L a ccd cl outer) (call (.ref 310) [.int p t9, .ref a1]) Q E s := by
  refine wpAny_call ?_
  k_dflt (refine' code_defC ?k1 ?k2 ?k3 ?k4 ?k5 ?kA ?kF ?kK ?k6 ?k7 ?k8 ?k9 ?kB ?kD ?_ ?c2 ?c3 ?c4; (case kA => exact rfl); (case kF => exact rfl); (case kK => assumption); (case k1 => k_asm); (case k2 => k_asm); (case k3 => k_asm); (case k4 => k_asm); (case k5 => k_asm); (case k6 => k_is); (case k7 => k_is); (case k8 => ktr_room); (case k9 => exact BindsTo.of_eq rfl); (case kB => exact rfl); (case kD => decide +kernel); (case c2 => exact rfl); (case c3 => exact rfl); (case c4 => exact rfl); k_whole; intro g' L' h' tk' cells' FG' F' N' Y' B' X' T' l1; (try (replace l1 := allLt_of l1; dsimp only [AllLt] at l1)); k_cells Y'; (try simp only [List.cons_append, List.nil_append] at N'); (try dsimp only); (try k_lift B'); (try k_fold))
  k_steps
  exact hraise _ _ _ _ (by assumption) (raised_sub (by assumption) (by first | ((repeat (first | exact sub_refl | refine sub_cons ?_)); done) | (intro p hp; first | exact hp | (repeat (first | exact hp | refine List.mem_cons_of_mem _ ?_))))) (by assumption)
theorem reg_63 : True := by
  k_with "call ref" => ((k_here; (with_reducible show wpAny _ _ (call (Value.ref 310) _ _) _ _ _); k_dflt (refine' log_raise_c ?k1q352 ?k2q352 ?k3q352 ?k4q352 ?k5q352 ?kKq352 ?kdq352 ?kuq352 ?m0q352 ?m1q352 ?p0q352 ?_; (case k1q352 => k_asm); (case k2q352 => k_asm); (case k3q352 => k_asm); (case k4q352 => k_asm); (case k5q352 => k_asm); (case kKq352 => first | exact rfl | assumption); (case kdq352 => ktr_room); (case kuq352 => ktr_units); (case m0q352 => k_mem); (case m1q352 => k_mem); (case p0q352 => (try law_clear); subst_vars; first | decide | exact sgn_abs); k_whole); intro g9 e9 h9 tk9 F9 R9 U9; (try k_sweep); (try dsimp only); (try k_fold); skip))
  trivial
end
end
section
open PySem PySem.W PySem.Spec PySem.Calls PyProof.Rows
set_option Elab.async false
set_option maxRecDepth 100000
set_option maxHeartbeats 0
theorem reg_64 : True := by
  k_with_none
  k_with "lt9" => (first | with_reducible assumption | (refine ltc (by with_reducible assumption) ?_; first | exact pj1 | exact pj2 | exact pj3 | exact pj4 | exact pj5 | exact pj6 | exact pj7 | exact pj8 | exact pj9 | exact pj10 | exact pj11 | exact pj12 | exact pj13 | exact pj14 | exact qj1 | exact qj2 | exact qj3 | exact qj4 | exact qj5 | exact qj6 | exact qj7 | exact qj8 | exact qj9 | exact qj10 | exact qj11 | exact qj12 | exact qj13 | exact qj14))
  k_with "ne9" => (first | decide | (refine Nat.ne_of_lt ?_; walk_at "lt9") | (refine Nat.ne_of_gt ?_; walk_at "lt9") | exact Nat.ne_of_lt (Nat.lt_succ_self _) | exact Nat.ne_of_gt (Nat.lt_succ_self _) | (refine ne_up1 ?_; walk_at "lt9") | (refine ne_up2 ?_; walk_at "lt9") | (refine Ne.symm (ne_up1 ?_); walk_at "lt9") | (refine Ne.symm (ne_up2 ?_); walk_at "lt9"))
  trivial
-- Sm facts
theorem reg_65 : True := by
  k_with "binaryOp FloorDiv int int" => ((k_here; (with_reducible refine floordiv_int ?feq355 ?_ (Or.inl (Sm.py ?fpq355))); (case feq355 => first | decide | omega | assumption); (case fpq355 => ktr_rel)))
  k_with "binaryOp LShift int int" => ((k_here; (with_reducible refine lshift_int ?feq356 ?fpq356 ?_); (case feq356 => omega); (case fpq356 => exact Sm.shl (by ktr_rel) (by omega))))
  k_with "ite" => ((k_here; k_openite; k_spoken; first
  | (refine ite_pos (by ((try simp only [beq_iff_eq, bne_iff_ne, ne_eq, Bool.not_eq_true', beq_eq_false_iff_ne]); (try law_clear); (try subst_vars); first | assumption | exact decide_eq_true rfl | exact Int.not_le.mp (by assumption) | exact Int.not_lt.mp (by assumption) | (law_clear; omega))) ?_; walk_say "PRUNED own")
  | (refine ite_neg (by ((try simp only [beq_iff_eq, bne_iff_ne, ne_eq, Bool.not_eq_true', beq_eq_false_iff_ne]); (try law_clear); (try subst_vars); first | assumption | exact Int.not_le.mpr (by assumption) | exact Int.not_lt.mpr (by assumption) | (law_clear; omega))) ?_; walk_say "PRUNED own")))
  k_with "subscriptTail" => ((k_here; (with_reducible show wpAny _ _ (subscriptTail _ _ (Value.ref _) (Value.int _ _)) _ _ _); k_dflt (refine' item_tupleT ?tq358 ?aq358 ?bq358 ?cq358 ?dq358 ?_; (case tq358 => exact News.isTup (by k_asm) (by k_mem)); (case aq358 => decide); (case bq358 => decide); (case cq358 => rfl); (case dq358 => rfl); k_whole)))
  k_with "subscriptTail Name Constant ref int" => ((k_here; (with_reducible show wpAny _ _ (subscriptTail _ _ (Value.ref _) (Value.int _ _)) _ _ _); k_dflt (refine' item_tupleT ?tq359 ?aq359 ?bq359 ?cq359 ?dq359 ?_; (case tq359 => exact News.isTup (by k_asm) (by k_mem)); (case aq359 => decide); (case bq359 => decide); (case cq359 => rfl); (case dq359 => rfl); k_whole)))
  k_with "callWith ref" => ((k_here; k_dflt (refine' callWith_K ?k1q360 ?k2q360 ?_; (case k1q360 => k_asm); (case k2q360 => k_is); k_whole)))
  k_with "call builtin:divmod" => ((k_here; (with_reducible show wpAny _ _ (call (Value.builtin _) [Value.int _ _, Value.int _ _]) _ _ _); k_dflt (refine' divmod_N ?k1q361 ?k2q361 ?feq361 ?_ (Or.inl (Sm.py ?fpq361)); (case k1q361 => k_asm); (case k2q361 => k_asm); (case feq361 => first | omega | exact Int.ne_of_gt (Int.mul_pos (by omega) (pow2_pos _))); (case fpq361 => ktr_rel)); intro h' F' N'; (try k_sweep)))
  k_with "call builtin:max" => ((k_here; (with_reducible show wpAny _ _ (call (Value.builtin _) [Value.ref _]) _ _ _); k_dflt (first
  | (refine' max_tup ?k0q362 ?k1q362 ?k2q362 ?k3q362 ?_; (case k0q362 => exact rfl); (case k1q362 => k_asm); (case k2q362 => k_asm); (case k3q362 => exact News.isTup (by k_asm) (by k_mem)))
  | (refine' max_list4 ?k0q362 ?k1q362 ?k2q362 ?k3q362 ?_; (case k0q362 => exact rfl); (case k1q362 => k_asm); (case k2q362 => k_asm); (case k3q362 => exact News.isList (by k_asm) (by k_mem)))); k_whole; intro h' r' tk' F' N'; (try k_sweep)))
  k_with "call builtin:min" => ((k_here; (with_reducible show wpAny _ _ (call (Value.builtin _) [Value.ref _]) _ _ _); k_dflt (first
  | (refine' min_tup ?k0q363 ?k1q363 ?k2q363 ?k3q363 ?_; (case k0q363 => exact rfl); (case k1q363 => k_asm); (case k2q363 => k_asm); (case k3q363 => exact News.isTup (by k_asm) (by k_mem)))
  | (refine' min_list4 ?k0q363 ?k1q363 ?k2q363 ?k3q363 ?_; (case k0q363 => exact rfl); (case k1q363 => k_asm); (case k2q363 => k_asm); (case k3q363 => exact News.isList (by k_asm) (by k_mem)))); k_whole; intro h' r' tk' F' N'; (try k_sweep)))
  k_with "call ref" => ((k_here; (with_reducible show wpAny _ _ (call (Value.ref 163) _ _) _ _ _); k_dflt (refine' sign_of_c ?k1q364 ?k2q364 ?k3q364 ?k4q364 ?k5q364 ?kKq364 ?kdq364 ?kuq364 ?m0q364 ?m1q364  ?_; (case k1q364 => k_asm); (case k2q364 => k_asm); (case k3q364 => k_asm); (case k4q364 => k_asm); (case k5q364 => k_asm); (case kKq364 => first | exact rfl | assumption); (case kdq364 => ktr_room); (case kuq364 => ktr_units); (case m0q364 => k_mem); (case m1q364 => k_mem); k_whole); intro z9 t9 h9 tk9 e9 F9 N9; (try k_sweep); (try dsimp only); (try k_fold); skip))
  k_with "call ref" => ((k_here; (with_reducible show wpAny _ _ (call (Value.ref 156) _ _) _ _ _); k_dflt (refine' place_of_c ?k1q365 ?k2q365 ?k3q365 ?k4q365 ?k5q365 ?kKq365 ?kdq365 ?kuq365 ?m0q365 ?m1q365  ?_; (case k1q365 => k_asm); (case k2q365 => k_asm); (case k3q365 => k_asm); (case k4q365 => k_asm); (case k5q365 => k_asm); (case kKq365 => first | exact rfl | assumption); (case kdq365 => ktr_room); (case kuq365 => ktr_units); (case m0q365 => k_mem); (case m1q365 => k_mem); k_whole); intro z9 t9 h9 tk9 e9 F9 N9; (try k_sweep); (try dsimp only); (try k_fold); skip))
  k_with "call ref" => ((k_here; (with_reducible show wpAny _ _ (call (Value.ref 89) _ _) _ _ _); k_dflt (refine' real_c ?k1q366 ?k2q366 ?k3q366 ?k4q366 ?k5q366 ?kKq366 ?kdq366 ?kuq366   ?_; (case k1q366 => k_asm); (case k2q366 => k_asm); (case k3q366 => k_asm); (case k4q366 => k_asm); (case k5q366 => k_asm); (case kKq366 => first | exact rfl | assumption); (case kdq366 => ktr_room); (case kuq366 => ktr_units); k_whole); intro r9 d9 z9 y9 j9 t9 i9 u9 h9 tk9 e9 f9 F9 N9; (try k_sweep); (try dsimp only); (try k_fold); skip))
  trivial
section
variable {w : World} {loose : List Str} {mean : ExcName → Option Value} {mg mb : Str → Option Value}
  {dp un : Nat} {gd : Option (List Code)} {cn : Str} {cs : Scope} {a : Addr} {ccd : Value} {cl : List (Str × Addr)} {outer : List Env} {A₀ : Around} {base h₀ : Heap} {L : Addr} {m : Str → Option Value} {news : List (Addr × Obj)} {s : Shared} {Q E : Value → Shared → Prop}

theorem exp_zero_c {p : Int} {t9 : Tok} {x1 y1 : Int} {j1 t1 k1 u1 : Tok} {a1 d1 : Addr}
  (B : Below A₀ base outer h₀) (F : Fr h₀ L s.heap m) (X : (hd.heap_1 w.params).In h₀) (N : News h₀ L s.heap (news)) (T : Top topProg loose mean mg mb h₀) (hk : cs.kind = .function)
  (hdp : dp + 24 < recursionLimit) (hun : un + 320 < cLine)
  (Ma1 : (a1, instObj (nat_lit 89) d1) ∈ news) (Md1 : (d1, realO w j1 x1 t1 k1 y1 u1) ∈ news) (g1 : sgn x1 = 0)
  (hret : ∀ r d z1 z2 j u1 k u2 h' tk', z1 = ((1, 0)).1 → z2 = ((1, 0)).2 → Fr h₀ L h' m → News h₀ L h' ((r, instObj (nat_lit 89) d) :: (d, realO w j z1 u1 k z2 u2) :: news) → Q (.ref r) { s with heap := h', toks := tk' }) :
  wpAny (model Challenge.rw_nt0168_01.row.prog w) (ktrTop dp un gd cn cs L a ccd cl outer) (call (.ref 296) [.int p t9, .ref a1]) Q E s := by
  refine wpAny_call ?_
  k_dflt (refine' code_defC ?k1 ?k2 ?k3 ?k4 ?k5 ?kA ?kF ?kK ?k6 ?k7 ?k8 ?k9 ?kB ?kD ?_ ?c2 ?c3 ?c4; (case kA => exact rfl); (case kF => exact rfl); (case kK => assumption); (case k1 => k_asm); (case k2 => k_asm); (case k3 => k_asm); (case k4 => k_asm); (case k5 => k_asm); (case k6 => k_is); (case k7 => k_is); (case k8 => ktr_room); (case k9 => exact BindsTo.of_eq rfl); (case kB => exact rfl); (case kD => decide +kernel); (case c2 => exact rfl); (case c3 => exact rfl); (case c4 => exact rfl); k_whole; intro g' L' h' tk' cells' FG' F' N' Y' B' X' T' l1; (try (replace l1 := allLt_of l1; dsimp only [AllLt] at l1)); k_cells Y'; (try simp only [List.cons_append, List.nil_append] at N'); (try dsimp only); (try k_lift B'); (try k_fold))
  k_steps
  all_goals (refine retR (v := (1, 0)) hret (by assumption) (by k_asm) (by k_mem) (by k_mem) (by first | ((repeat (first | exact sub_refl | refine sub_cons ?_)); done) | (intro p hp; first | exact hp | (repeat (first | exact hp | refine List.mem_cons_of_mem _ ?_)))) ?_)
  all_goals ((try law_clear); subst_vars; rfl)
theorem reg_66 : True := by
  k_with "call ref" => ((k_here; (with_reducible show wpAny _ _ (call (Value.ref 296) _ _) _ _ _); k_dflt (refine' exp_zero_c ?k1q367 ?k2q367 ?k3q367 ?k4q367 ?k5q367 ?kKq367 ?kdq367 ?kuq367 ?m0q367 ?m1q367 ?p0q367 ?_; (case k1q367 => k_asm); (case k2q367 => k_asm); (case k3q367 => k_asm); (case k4q367 => k_asm); (case k5q367 => k_asm); (case kKq367 => first | exact rfl | assumption); (case kdq367 => ktr_room); (case kuq367 => ktr_units); (case m0q367 => k_mem); (case m1q367 => k_mem); (case p0q367 => (try law_clear); subst_vars; decide); k_whole); intro r9 d9 z9 y9 j9 t9 i9 u9 h9 tk9 e9 f9 F9 N9; (try k_sweep); (try dsimp only); (try k_fold); skip))
  trivial
end
end
section
open PySem PySem.W PySem.Spec PySem.Calls PyProof.Rows
set_option Elab.async false
set_option maxRecDepth 100000
set_option maxHeartbeats 0
/-- a call from a frame above the law's own raises an object of one class -/
noncomputable def Throws (w : World) (loose : List Str) (mean : ExcName → Option Value) (mg mb : Str → Option Value) (gd : Option (List Code)) (base : Heap) (env : Env) (news : List (Addr × Obj)) (C f : Addr) : Prop :=
  ∀ (dp un : Nat) (cn : Str) (cs : Scope) (L a : Addr) (ccd : Value) (A : Around) (h₀ : Heap) (m : Str → Option Value) (s : Shared) (Q E : Value → Shared → Prop),
    Below A base [env] h₀ → Fr h₀ L s.heap m → (hd.heap_1 w.params).In h₀ → News h₀ L s.heap news → Top topProg loose mean mg mb h₀ → cs.kind = .function → dp + 36 < recursionLimit → un + 480 < cLine →
    (∀ g e h' tk', Fr h₀ L g m → RaisedSN base g [envX cn cs L a ccd [], env] e (.ref C) news h' → g.UpToSlots h' → E (.ref e) { s with heap := h', toks := tk' }) →
    wpAny (model Challenge.rw_nt0168_01.row.prog w) (ktrTop dp un gd cn cs L a ccd [] [env]) (call (.ref f) []) Q E s
theorem reg_67 : True := by
  k_with_none
  k_with "lt9" => (first | with_reducible assumption | (refine ltc (by with_reducible assumption) ?_; first | exact pj1 | exact pj2 | exact pj3 | exact pj4 | exact pj5 | exact pj6 | exact pj7 | exact pj8 | exact pj9 | exact pj10 | exact pj11 | exact pj12 | exact pj13 | exact pj14 | exact qj1 | exact qj2 | exact qj3 | exact qj4 | exact qj5 | exact qj6 | exact qj7 | exact qj8 | exact qj9 | exact qj10 | exact qj11 | exact qj12 | exact qj13 | exact qj14))
  k_with "ne9" => (first | decide | (refine Nat.ne_of_lt ?_; walk_at "lt9") | (refine Nat.ne_of_gt ?_; walk_at "lt9") | exact Nat.ne_of_lt (Nat.lt_succ_self _) | exact Nat.ne_of_gt (Nat.lt_succ_self _) | (refine ne_up1 ?_; walk_at "lt9") | (refine ne_up2 ?_; walk_at "lt9") | (refine Ne.symm (ne_up1 ?_); walk_at "lt9") | (refine Ne.symm (ne_up2 ?_); walk_at "lt9"))
  trivial
-- Sm facts
theorem reg_68 : True := by
  k_with "binaryOp FloorDiv int int" => ((k_here; (with_reducible refine floordiv_int ?feq370 ?_ (Or.inl (Sm.py ?fpq370))); (case feq370 => first | decide | omega | assumption); (case fpq370 => ktr_rel)))
  k_with "binaryOp LShift int int" => ((k_here; (with_reducible refine lshift_int ?feq371 ?fpq371 ?_); (case feq371 => omega); (case fpq371 => exact Sm.shl (by ktr_rel) (by omega))))
  k_with "ite" => ((k_here; k_openite; k_spoken; first
  | (refine ite_pos (by ((try simp only [beq_iff_eq, bne_iff_ne, ne_eq, Bool.not_eq_true', beq_eq_false_iff_ne]); (try law_clear); (try subst_vars); first | assumption | exact decide_eq_true rfl | exact Int.not_le.mp (by assumption) | exact Int.not_lt.mp (by assumption) | (law_clear; omega))) ?_; walk_say "PRUNED own")
  | (refine ite_neg (by ((try simp only [beq_iff_eq, bne_iff_ne, ne_eq, Bool.not_eq_true', beq_eq_false_iff_ne]); (try law_clear); (try subst_vars); first | assumption | exact Int.not_le.mpr (by assumption) | exact Int.not_lt.mpr (by assumption) | (law_clear; omega))) ?_; walk_say "PRUNED own")))
  k_with "subscriptTail" => ((k_here; (with_reducible show wpAny _ _ (subscriptTail _ _ (Value.ref _) (Value.int _ _)) _ _ _); k_dflt (refine' item_tupleT ?tq373 ?aq373 ?bq373 ?cq373 ?dq373 ?_; (case tq373 => exact News.isTup (by k_asm) (by k_mem)); (case aq373 => decide); (case bq373 => decide); (case cq373 => rfl); (case dq373 => rfl); k_whole)))
  k_with "subscriptTail Name Constant ref int" => ((k_here; (with_reducible show wpAny _ _ (subscriptTail _ _ (Value.ref _) (Value.int _ _)) _ _ _); k_dflt (refine' item_tupleT ?tq374 ?aq374 ?bq374 ?cq374 ?dq374 ?_; (case tq374 => exact News.isTup (by k_asm) (by k_mem)); (case aq374 => decide); (case bq374 => decide); (case cq374 => rfl); (case dq374 => rfl); k_whole)))
  k_with "callWith ref" => ((k_here; k_dflt (refine' callWith_K ?k1q375 ?k2q375 ?_; (case k1q375 => k_asm); (case k2q375 => k_is); k_whole)))
  k_with "call builtin:divmod" => ((k_here; (with_reducible show wpAny _ _ (call (Value.builtin _) [Value.int _ _, Value.int _ _]) _ _ _); k_dflt (refine' divmod_N ?k1q376 ?k2q376 ?feq376 ?_ (Or.inl (Sm.py ?fpq376)); (case k1q376 => k_asm); (case k2q376 => k_asm); (case feq376 => first | omega | exact Int.ne_of_gt (Int.mul_pos (by omega) (pow2_pos _))); (case fpq376 => ktr_rel)); intro h' F' N'; (try k_sweep)))
  k_with "call builtin:max" => ((k_here; (with_reducible show wpAny _ _ (call (Value.builtin _) [Value.ref _]) _ _ _); k_dflt (first
  | (refine' max_tup ?k0q377 ?k1q377 ?k2q377 ?k3q377 ?_; (case k0q377 => exact rfl); (case k1q377 => k_asm); (case k2q377 => k_asm); (case k3q377 => exact News.isTup (by k_asm) (by k_mem)))
  | (refine' max_list4 ?k0q377 ?k1q377 ?k2q377 ?k3q377 ?_; (case k0q377 => exact rfl); (case k1q377 => k_asm); (case k2q377 => k_asm); (case k3q377 => exact News.isList (by k_asm) (by k_mem)))); k_whole; intro h' r' tk' F' N'; (try k_sweep)))
  k_with "call builtin:min" => ((k_here; (with_reducible show wpAny _ _ (call (Value.builtin _) [Value.ref _]) _ _ _); k_dflt (first
  | (refine' min_tup ?k0q378 ?k1q378 ?k2q378 ?k3q378 ?_; (case k0q378 => exact rfl); (case k1q378 => k_asm); (case k2q378 => k_asm); (case k3q378 => exact News.isTup (by k_asm) (by k_mem)))
  | (refine' min_list4 ?k0q378 ?k1q378 ?k2q378 ?k3q378 ?_; (case k0q378 => exact rfl); (case k1q378 => k_asm); (case k2q378 => k_asm); (case k3q378 => exact News.isList (by k_asm) (by k_mem)))); k_whole; intro h' r' tk' F' N'; (try k_sweep)))
  k_with "callWith ref" => ((k_here; k_dflt (refine' callWith_F0 ?k1q379 ?_; (case k1q379 => exact FnAt.of (by k_asm) (by k_mem)); k_whole; try dsimp only [List.nil_append, List.cons_append])))
  k_with "call ref" => ((k_here; (with_reducible rename Throws _ _ _ _ _ _ _ _ _ _ _ => hcX); k_dflt (refine' hcX _ _ _ _ _ _ _ _ _ _ _ _ _ ?k1q380 ?k2q380 ?k3q380 ?k4q380 ?k5q380 ?kKq380 ?kdq380 ?kuq380 ?_; (case k1q380 => k_asm); (case k2q380 => k_asm); (case k3q380 => k_asm); (case k4q380 => k_asm); (case k5q380 => k_asm); (case kKq380 => first | exact rfl | assumption); (case kdq380 => ktr_room); (case kuq380 => ktr_units); k_whole); intro g9 e9 h9 tk9 F9 R9 U9; (try dsimp only)))
  trivial
section
variable {w : World} {loose : List Str} {mean : ExcName → Option Value} {mg mb : Str → Option Value}
  {dp un : Nat} {gd : Option (List Code)} {cn : Str} {cs : Scope} {a : Addr} {ccd : Value} {cl : List (Str × Addr)} {outer : List Env} {A₀ : Around} {base h₀ : Heap} {L : Addr} {m : Str → Option Value} {news : List (Addr × Obj)} {s : Shared} {Q E : Value → Shared → Prop}

theorem law_refused_domain_c {f : Addr} {nm ql : Str} {prm : Arguments} {bd : Expr} {scp : Scope} {cls : List (Str × Addr)} {pm : Value} {cf : Addr} {ctf : Value}
  (B : Below A₀ base [] h₀) (F : Fr h₀ L s.heap m) (X : (hd.heap_1 w.params).In h₀) (N : News h₀ L s.heap news) (T : Top topProg loose mean mg mb h₀) (hk : cs.kind = .function)
  (XB : (hd.heap_1 w.params).In base) (TB : Top topProg loose mean mg mb base) (hdp : dp + 45 < recursionLimit) (hun : un + 600 < cLine)
  (Mf : (f, kla_obj nm ql prm bd scp cls pm cf ctf) ∈ news) (hcall : Throws w loose mean mg mb gd base (envX cn cs L a ccd cl) news 70 f)
  (hret : ∀ t h' tk', Fr h₀ L h' m → News h₀ L h' news → Q (.str "domain" t) { s with heap := h', toks := tk' }) :
  wpAny (model Challenge.rw_nt0168_01.row.prog w) (ktrTop dp un gd cn cs L a ccd cl []) (call (.ref 367) [.ref f]) Q E s := by
  refine wpAny_call ?_
  k_dflt (refine' code_defT ?k1 ?k2 ?k3 ?k4 ?k5 ?kA ?kF ?kK ?k6 ?k7 ?k8 ?k9 ?kB ?_ ?c2 ?c3 ?c4 ?c5; (case kA => exact rfl); (case kF => exact rfl); (case kK => first | exact rfl | assumption); (case k1 => k_asm); (case k2 => k_asm); (case k3 => k_asm); (case k4 => k_asm); (case k5 => k_asm); (case k6 => k_is); (case k7 => k_is); (case k8 => ktr_room); (case k9 => exact BindsTo.of_eq rfl); (case c5 => decide); (case kB => exact locs rfl); (case c2 => exact rfl); (case c3 => exact rfl); (case c4 => exact rfl); k_whole; intro g' L' h' FG' F' N' B' X' T' D'; (try dsimp only); (try k_fold))
  k_steps
  exact hret _ _ _ (by assumption) (by k_asm)

theorem law_refused_range_c {f : Addr} {nm ql : Str} {prm : Arguments} {bd : Expr} {scp : Scope} {cls : List (Str × Addr)} {pm : Value} {cf : Addr} {ctf : Value}
  (B : Below A₀ base [] h₀) (F : Fr h₀ L s.heap m) (X : (hd.heap_1 w.params).In h₀) (N : News h₀ L s.heap news) (T : Top topProg loose mean mg mb h₀) (hk : cs.kind = .function)
  (XB : (hd.heap_1 w.params).In base) (TB : Top topProg loose mean mg mb base) (hdp : dp + 45 < recursionLimit) (hun : un + 600 < cLine)
  (Mf : (f, kla_obj nm ql prm bd scp cls pm cf ctf) ∈ news) (hcall : Throws w loose mean mg mb gd base (envX cn cs L a ccd cl) news 51 f)
  (hret : ∀ t h' tk', Fr h₀ L h' m → News h₀ L h' news → Q (.str "range" t) { s with heap := h', toks := tk' }) :
  wpAny (model Challenge.rw_nt0168_01.row.prog w) (ktrTop dp un gd cn cs L a ccd cl []) (call (.ref 367) [.ref f]) Q E s := by
  refine wpAny_call ?_
  k_dflt (refine' code_defT ?k1 ?k2 ?k3 ?k4 ?k5 ?kA ?kF ?kK ?k6 ?k7 ?k8 ?k9 ?kB ?_ ?c2 ?c3 ?c4 ?c5; (case kA => exact rfl); (case kF => exact rfl); (case kK => first | exact rfl | assumption); (case k1 => k_asm); (case k2 => k_asm); (case k3 => k_asm); (case k4 => k_asm); (case k5 => k_asm); (case k6 => k_is); (case k7 => k_is); (case k8 => ktr_room); (case k9 => exact BindsTo.of_eq rfl); (case c5 => decide); (case kB => exact locs rfl); (case c2 => exact rfl); (case c3 => exact rfl); (case c4 => exact rfl); k_whole; intro g' L' h' FG' F' N' B' X' T' D'; (try dsimp only); (try k_fold))
  k_steps
  exact hret _ _ _ (by assumption) (by k_asm)
end
end
section
open PySem PySem.W PySem.Spec PySem.Calls PyProof.Rows
set_option Elab.async false
set_option maxRecDepth 100000
set_option maxHeartbeats 0
theorem reg_69 : True := by
  k_with_none
  k_with "lt9" => (first | with_reducible assumption | (refine ltc (by with_reducible assumption) ?_; first | exact pj1 | exact pj2 | exact pj3 | exact pj4 | exact pj5 | exact pj6 | exact pj7 | exact pj8 | exact pj9 | exact pj10 | exact pj11 | exact pj12 | exact pj13 | exact pj14 | exact qj1 | exact qj2 | exact qj3 | exact qj4 | exact qj5 | exact qj6 | exact qj7 | exact qj8 | exact qj9 | exact qj10 | exact qj11 | exact qj12 | exact qj13 | exact qj14))
  k_with "ne9" => (first | decide | (refine Nat.ne_of_lt ?_; walk_at "lt9") | (refine Nat.ne_of_gt ?_; walk_at "lt9") | exact Nat.ne_of_lt (Nat.lt_succ_self _) | exact Nat.ne_of_gt (Nat.lt_succ_self _) | (refine ne_up1 ?_; walk_at "lt9") | (refine ne_up2 ?_; walk_at "lt9") | (refine Ne.symm (ne_up1 ?_); walk_at "lt9") | (refine Ne.symm (ne_up2 ?_); walk_at "lt9"))
  trivial
-- Sm facts
theorem reg_70 : True := by
  k_with "binaryOp FloorDiv int int" => ((k_here; (with_reducible refine floordiv_int ?feq383 ?_ (Or.inl (Sm.py ?fpq383))); (case feq383 => first | decide | omega | assumption); (case fpq383 => ktr_rel)))
  k_with "binaryOp LShift int int" => ((k_here; (with_reducible refine lshift_int ?feq384 ?fpq384 ?_); (case feq384 => omega); (case fpq384 => exact Sm.shl (by ktr_rel) (by omega))))
  k_with "ite" => ((k_here; k_openite; k_spoken; first
  | (refine ite_pos (by ((try simp only [beq_iff_eq, bne_iff_ne, ne_eq, Bool.not_eq_true', beq_eq_false_iff_ne]); (try law_clear); (try subst_vars); first | assumption | exact decide_eq_true rfl | exact Int.not_le.mp (by assumption) | exact Int.not_lt.mp (by assumption) | (law_clear; omega))) ?_; walk_say "PRUNED own")
  | (refine ite_neg (by ((try simp only [beq_iff_eq, bne_iff_ne, ne_eq, Bool.not_eq_true', beq_eq_false_iff_ne]); (try law_clear); (try subst_vars); first | assumption | exact Int.not_le.mpr (by assumption) | exact Int.not_lt.mpr (by assumption) | (law_clear; omega))) ?_; walk_say "PRUNED own")))
  k_with "subscriptTail" => ((k_here; (with_reducible show wpAny _ _ (subscriptTail _ _ (Value.ref _) (Value.int _ _)) _ _ _); k_dflt (refine' item_tupleT ?tq386 ?aq386 ?bq386 ?cq386 ?dq386 ?_; (case tq386 => exact News.isTup (by k_asm) (by k_mem)); (case aq386 => decide); (case bq386 => decide); (case cq386 => rfl); (case dq386 => rfl); k_whole)))
  k_with "subscriptTail Name Constant ref int" => ((k_here; (with_reducible show wpAny _ _ (subscriptTail _ _ (Value.ref _) (Value.int _ _)) _ _ _); k_dflt (refine' item_tupleT ?tq387 ?aq387 ?bq387 ?cq387 ?dq387 ?_; (case tq387 => exact News.isTup (by k_asm) (by k_mem)); (case aq387 => decide); (case bq387 => decide); (case cq387 => rfl); (case dq387 => rfl); k_whole)))
  k_with "callWith ref" => ((k_here; k_dflt (refine' callWith_K ?k1q388 ?k2q388 ?_; (case k1q388 => k_asm); (case k2q388 => k_is); k_whole)))
  k_with "call builtin:divmod" => ((k_here; (with_reducible show wpAny _ _ (call (Value.builtin _) [Value.int _ _, Value.int _ _]) _ _ _); k_dflt (refine' divmod_N ?k1q389 ?k2q389 ?feq389 ?_ (Or.inl (Sm.py ?fpq389)); (case k1q389 => k_asm); (case k2q389 => k_asm); (case feq389 => first | omega | exact Int.ne_of_gt (Int.mul_pos (by omega) (pow2_pos _))); (case fpq389 => ktr_rel)); intro h' F' N'; (try k_sweep)))
  k_with "call builtin:max" => ((k_here; (with_reducible show wpAny _ _ (call (Value.builtin _) [Value.ref _]) _ _ _); k_dflt (first
  | (refine' max_tup ?k0q390 ?k1q390 ?k2q390 ?k3q390 ?_; (case k0q390 => exact rfl); (case k1q390 => k_asm); (case k2q390 => k_asm); (case k3q390 => exact News.isTup (by k_asm) (by k_mem)))
  | (refine' max_list4 ?k0q390 ?k1q390 ?k2q390 ?k3q390 ?_; (case k0q390 => exact rfl); (case k1q390 => k_asm); (case k2q390 => k_asm); (case k3q390 => exact News.isList (by k_asm) (by k_mem)))); k_whole; intro h' r' tk' F' N'; (try k_sweep)))
  k_with "call builtin:min" => ((k_here; (with_reducible show wpAny _ _ (call (Value.builtin _) [Value.ref _]) _ _ _); k_dflt (first
  | (refine' min_tup ?k0q391 ?k1q391 ?k2q391 ?k3q391 ?_; (case k0q391 => exact rfl); (case k1q391 => k_asm); (case k2q391 => k_asm); (case k3q391 => exact News.isTup (by k_asm) (by k_mem)))
  | (refine' min_list4 ?k0q391 ?k1q391 ?k2q391 ?k3q391 ?_; (case k0q391 => exact rfl); (case k1q391 => k_asm); (case k2q391 => k_asm); (case k3q391 => exact News.isList (by k_asm) (by k_mem)))); k_whole; intro h' r' tk' F' N'; (try k_sweep)))
  k_with "storeName" => ((k_here; k_dflt (refine' storeX_S (by k_asm) (by k_asm) rfl (by k_mem) (by assumption) (by repeat' (first | exact Sift.all (by assumption) | exact Sift.all (allLt_ne (And.right (And.right ‹_ ∧ _ ∧ AllLt _ _›)) (by omega)) | exact Sift.all (ltAll (by assumption) (by omega)) | (apply Sift.keep; (case h => first | (refine neN ?_; first | walk_at "ne9" | omega) | exact newsNe (by assumption) (by k_mem) (by k_mem) (by assumption) (by intro _ e; cases e) | (refine' newsNeC ?nNq392 ?nAq392 ?nBq392 ?nCq392; (case nNq392 => assumption); (case nAq392 => k_mem); (case nBq392 => k_mem); (case nCq392 => first | (intro e; cases e; done) | (intro e; exact absurd (Value.type.inj e) (by decide)))) | (refine' codeNe ?nNq392 ?nAq392 ?nBq392 ?nDq392 ?nPq392 ?nGq392; (case nNq392 => assumption); (case nGq392 => assumption); (case nAq392 => k_mem); (case nBq392 => k_mem); (case nDq392 => assumption); (case nPq392 => k_mem)))) | apply Sift.drop)) ?_ rfl rfl; k_whole); intro h' o' F' N' d1'; (try dsimp only)))
  k_with "exec FunctionDef" => ((k_here; k_dflt (refine' nestDef_K ?d0q393 ?k0q393 ?a0q393 ?_; (case d0q393 => exact rfl); (case k0q393 => exact rfl); (case a0q393 => exact rfl)); k_dflt (refine' nest_S (by k_asm) (by k_asm) (by k_asm) (by first | assumption | exact CodeHd.keeps (by assumption) (Fr.keep (by assumption))) rfl (by assumption) (by k_mem) (by k_mem) (by repeat' (first | exact Sift.all (by assumption) | exact Sift.all (allLt_ne (And.right (And.right ‹_ ∧ _ ∧ AllLt _ _›)) (by omega)) | exact Sift.all (ltAll (by assumption) (by omega)) | (apply Sift.keep; (case h => first | (refine neN ?_; first | walk_at "ne9" | omega) | exact newsNe (by assumption) (by k_mem) (by k_mem) (by assumption) (by intro _ e; cases e) | (refine' newsNeC ?nNq393 ?nAq393 ?nBq393 ?nCq393; (case nNq393 => assumption); (case nAq393 => k_mem); (case nBq393 => k_mem); (case nCq393 => first | (intro e; cases e; done) | (intro e; exact absurd (Value.type.inj e) (by decide)))) | (refine' codeNe ?nNq393 ?nAq393 ?nBq393 ?nDq393 ?nPq393 ?nGq393; (case nNq393 => assumption); (case nGq393 => assumption); (case nAq393 => k_mem); (case nBq393 => k_mem); (case nDq393 => assumption); (case nPq393 => k_mem)))) | apply Sift.drop)) (by intro c9; kn_triples) (by intro c9; kn_hit) rfl ?_; k_whole); intro f' c' oc' doc' ct' h' tk' F' N' ok'; (have ok2' := ok'); (obtain ⟨vs', t', d1', d2'⟩ := ok2'); (try dsimp only at N')))
  k_with "eval Lambda" => ((k_here; k_dflt (refine' kla_eval ?d0q394 ?_; (case d0q394 => exact rfl)); k_dflt (refine' lam_S (by k_asm) (by k_asm) (by k_asm) (by first | assumption | exact CodeHd.keeps (by assumption) (Fr.keep (by assumption))) rfl (by assumption) (by k_mem) (by k_mem) (by repeat' (first | exact Sift.all (by assumption) | exact Sift.all (allLt_ne (And.right (And.right ‹_ ∧ _ ∧ AllLt _ _›)) (by omega)) | exact Sift.all (ltAll (by assumption) (by omega)) | (apply Sift.keep; (case h => first | (refine neN ?_; first | walk_at "ne9" | omega) | exact newsNe (by assumption) (by k_mem) (by k_mem) (by assumption) (by intro _ e; cases e) | (refine' newsNeC ?nNq394 ?nAq394 ?nBq394 ?nCq394; (case nNq394 => assumption); (case nAq394 => k_mem); (case nBq394 => k_mem); (case nCq394 => first | (intro e; cases e; done) | (intro e; exact absurd (Value.type.inj e) (by decide)))) | (refine' codeNe ?nNq394 ?nAq394 ?nBq394 ?nDq394 ?nPq394 ?nGq394; (case nNq394 => assumption); (case nGq394 => assumption); (case nAq394 => k_mem); (case nBq394 => k_mem); (case nDq394 => assumption); (case nPq394 => k_mem)))) | apply Sift.drop)) (by intro c9; kn_triples) (by intro c9; kn_hit) rfl ?_; k_whole); intro f' c' oc' ct' h' tk' F' N' ok'; (have ok2' := ok'); (obtain ⟨vs', t', d1', d2'⟩ := ok2'); (try dsimp only at N')))
  k_with "OnceB" => ((dsimp only [OnceB]))
  k_with "call ref" => ((k_here; (with_reducible show wpAny _ _ (call (Value.ref 282) _ _) _ _ _); k_dflt (refine wpAny_call ?_; ktr_enter)))
  k_with "CompEnd" => ((k_dflt (first
  | (refine' compEnd_1 ?Fq397 ?Nq397 ?offq397 ?hrq397 ?hSq397 ?_; (case Fq397 => k_asm); (case Nq397 => assumption); (case offq397 => assumption); (case hrq397 => (refine ⟨?_, ?_, ?_⟩ <;> first | walk_at "lt9" | omega)); (case hSq397 => exact Or.inr ⟨_, by k_mem, rfl, _, rfl⟩))
  | (refine' compEnd_0 ?Fq397 ?Nq397 ?offq397 ?hSq397 ?_; (case Fq397 => k_asm); (case Nq397 => assumption); (case offq397 => assumption); (case hSq397 => exact Or.inr ⟨_, by k_mem, rfl, _, rfl⟩)))))
  k_with "CompSrc" => ((k_here; k_dflt (refine LCg.CompSrc.ledger (by rfl) (by k_asm) (by k_asm) (by k_mem) (by first | size_fits | exact Nat.le_of_ble_eq_true rfl) ?_; intro g'; lcg_lit)))
  k_with "eval ListComp" => ((k_here; lcf_look; k_dflt (refine LCg.ListComp_U (F₀ := by k_asm) (by with_unfolding_all rfl) (by decide) (by rfl) (by decide) (by rfl) ?_); k_dflt lcg_toSrc))
  k_with "call ref" => ((k_here; (with_reducible show wpAny _ _ (call (Value.ref 89) _ _) _ _ _); k_dflt (refine' real_c ?k1q400 ?k2q400 ?k3q400 ?k4q400 ?k5q400 ?kKq400 ?kdq400 ?kuq400   ?_; (case k1q400 => k_asm); (case k2q400 => k_asm); (case k3q400 => k_asm); (case k4q400 => k_asm); (case k5q400 => k_asm); (case kKq400 => first | exact rfl | assumption); (case kdq400 => ktr_room); (case kuq400 => ktr_units); k_whole); intro r9 d9 z9 y9 j9 t9 i9 u9 h9 tk9 e9 f9 F9 N9; (try k_sweep); (try dsimp only); (try k_fold); skip))
  k_with "call ref" => ((k_here; (with_reducible show wpAny _ _ (call (Value.ref 296) _ _) _ _ _); k_dflt (refine' exp_real_c ?k1q401 ?k2q401 ?k3q401 (newsTab ?n1q401 ?n2q401 ?n3q401 ?sfq401) ?k5q401 ?kKq401 ?kdq401 ?kuq401 ?m0q401 ?m1q401 ?p0q401 ?p1q401 (Sift.ne ?sfq401) ?p3q401 ?p4q401 ?p5q401 ?_; (case k1q401 => k_asm); (case k2q401 => k_asm); (case k3q401 => k_asm); (case p1q401 => assumption); (case n1q401 => k_asm); (case n2q401 => k_mem); (case n3q401 => k_mem); (case sfq401 => repeat' (first | exact Sift.all (by assumption) | exact Sift.all (allLt_ne (And.right (And.right ‹_ ∧ _ ∧ AllLt _ _›)) (by omega)) | exact Sift.all (ltAll (by assumption) (by omega)) | (apply Sift.keep; (case h => first | (refine neN ?_; first | walk_at "ne9" | omega) | exact newsNe (by assumption) (by k_mem) (by k_mem) (by assumption) (by intro _ e; cases e) | (refine' newsNeC ?nNq401 ?nAq401 ?nBq401 ?nCq401; (case nNq401 => assumption); (case nAq401 => k_mem); (case nBq401 => k_mem); (case nCq401 => first | (intro e; cases e; done) | (intro e; exact absurd (Value.type.inj e) (by decide)))) | (refine' codeNe ?nNq401 ?nAq401 ?nBq401 ?nDq401 ?nPq401 ?nGq401; (case nNq401 => assumption); (case nGq401 => assumption); (case nAq401 => k_mem); (case nBq401 => k_mem); (case nDq401 => assumption); (case nPq401 => k_mem)))) | apply Sift.drop)); (case k5q401 => k_asm); (case kKq401 => first | exact rfl | assumption); (case kdq401 => ktr_room); (case kuq401 => ktr_units); (case m0q401 => k_mem); (case m1q401 => k_mem); (case p0q401 => first | assumption | exact CodeHd.keeps (by assumption) (Fr.keep (by assumption))); (case p3q401 => first | with_reducible assumption | omega); (case p4q401 => first | with_reducible assumption | omega); (case p5q401 => first | with_reducible assumption | k_dflt (have hq := (‹expF _ _ _ = some _›); refine Eq.trans ?_ hq; law_clear; subst_vars; exact rfl) | kwd_less); k_whole); intro r9 d9 z9 y9 j9 t9 i9 u9 q9 c9 o9 h9 tk9 e9 f9 ok9 F9 N9; (obtain ⟨c8, o8, ok8, gc8, N8⟩ := tabNorm ok9 N9); clear ok9 N9; (try k_sweep); (try dsimp only); (try k_fold); skip))
  k_with "call ref" => ((k_here; (with_reducible show wpAny _ _ (call (Value.ref 331) _ _) _ _ _); k_dflt (refine' law_fraction_c ?k1q402 ?k2q402 ?k3q402 ?k4q402 ?k5q402 ?kKq402 ?kdq402 ?kuq402  ?p0q402 ?p1q402 ?p2q402 ?_; (case k1q402 => k_asm); (case k2q402 => k_asm); (case k3q402 => k_asm); (case k4q402 => k_asm); (case k5q402 => k_asm); (case kKq402 => first | exact rfl | assumption); (case kdq402 => ktr_room); (case kuq402 => ktr_units); (case p0q402 => ktr_rel); (case p1q402 => first | with_reducible assumption | omega); (case p2q402 => first | with_reducible assumption | omega); k_whole); intro r9 z9 y9 t9 u9 h9 tk9 e9 f9 F9 N9; (try k_sweep); (try dsimp only); (try k_fold); skip))
  k_with "call ref" => ((k_here; (with_reducible show wpAny _ _ (call (Value.ref 336) _ _) _ _ _); k_dflt (refine' law_middles_c ?k1q403 ?k2q403 ?k3q403 ?k4q403 ?k5q403 ?kKq403 ?kdq403 ?kuq403 ?m0q403 ?m1q403 ?p0q403 ?p1q403 ?p2q403 ?_; (case k1q403 => k_asm); (case k2q403 => k_asm); (case k3q403 => k_asm); (case k4q403 => k_asm); (case k5q403 => k_asm); (case kKq403 => first | exact rfl | assumption); (case kdq403 => ktr_room); (case kuq403 => ktr_units); (case m0q403 => k_mem); (case m1q403 => k_mem); (case p0q403 => first | with_reducible assumption | omega); (case p1q403 => first | with_reducible assumption | omega); (case p2q403 => first | with_reducible assumption | k_dflt (have hq := (‹midF _ _ _ = some _›); refine Eq.trans ?_ hq; law_clear; subst_vars; exact rfl) | kwd_less); k_whole); intro r9 p9 q9 z9 y9 x9 w9 t9 u9 j9 k9 h9 tk9 e9 f9 c9 d9 F9 N9; (try k_sweep); (try dsimp only); (try k_fold); skip))
  k_with "call ref" => ((k_here; (with_reducible show wpAny _ _ (call (Value.ref 350) _ _) _ _ _); k_dflt (refine' law_side_c ?k1q404 ?k2q404 ?k3q404 ?k4q404 ?k5q404 ?kKq404 ?kdq404 ?kuq404 ?m0q404 ?m1q404 ?p0q404 ?_; (case k1q404 => k_asm); (case k2q404 => k_asm); (case k3q404 => k_asm); (case k4q404 => k_asm); (case k5q404 => k_asm); (case kKq404 => first | exact rfl | assumption); (case kdq404 => ktr_room); (case kuq404 => ktr_units); (case m0q404 => k_mem); (case m1q404 => k_mem); (case p0q404 => first | with_reducible assumption | k_dflt (have hq := (‹sideF _ _ = some 1›); refine Eq.trans ?_ hq; law_clear; subst_vars; with_reducible rfl) | k_dflt (have hq := (‹sideF _ _ = some (-1)›); refine Eq.trans ?_ hq; law_clear; subst_vars; with_reducible rfl) | kwd_less); k_whole); intro z9 t9 h9 tk9 e9 F9 N9; (try k_sweep); (try dsimp only); (try k_fold); skip))
  trivial
section
variable {w : World} {loose : List Str} {mean : ExcName → Option Value} {mg mb : Str → Option Value}
  {dp un : Nat} {gd : Option (List Code)} {cn : Str} {cs : Scope} {a : Addr} {ccd : Value} {cl : List (Str × Addr)} {outer : List Env} {A₀ : Around} {base h₀ : Heap} {L : Addr} {m : Str → Option Value} {news : List (Addr × Obj)} {s : Shared} {Q E : Value → Shared → Prop}

theorem law_is_exp_right_c {p : Int} {t9 : Tok} {x1 y1 : Int} {t1 u1 : Tok} {a1 : Addr} {ps : Array Value} {c1 : Addr} {o1 : Obj}
  (B : Below A₀ base outer h₀) (F : Fr h₀ L s.heap m) (X : (hd.heap_1 w.params).In h₀) (N : News h₀ L s.heap ((291, tabObj ps) :: (c1, o1) :: news)) (T : Top topProg loose mean mg mb h₀) (hk : cs.kind = .function)
  (hdp : dp + 30 < recursionLimit) (hun : un + 400 < cLine)
  (Ma1 : (a1, tupO x1 t1 y1 u1) ∈ news) (hC : CodeHd h₀ 295 291) (ok : TabOk posE qualE ps c1 o1) (hne : ∀ q ∈ news, q.1 ≠ 291) (h0 : 1 ≤ p) (h1 : p < 100) (b1 : Sm x1) (b2 : -1000 ≤ y1) (b3 : y1 ≤ 1000) (hv : isExp p x1 y1 = true)
  (hret : ∀ ps' c' oc' h' tk', TabOk posE qualE ps' c' oc' → (c' = 291 ∨ CodeNm qualE oc') → Fr h₀ L h' m → News h₀ L h' ((291, tabObj ps') :: (c', oc') :: news) → Q (.bool true) { s with heap := h', toks := tk' }) :
  wpAny (model Challenge.rw_nt0168_01.row.prog w) (ktrTop dp un gd cn cs L a ccd cl outer) (call (.ref 355) [.int p t9, .ref a1]) Q E s := by
  obtain ⟨⟨r1, r2⟩, m1, m2, hv1, hv2, hv3, hv4⟩ := isExp_parts hv
  dsimp only at hv2
  refine wpAny_call ?_
  k_dflt (refine' code_defC ?k1 ?k2 ?k3 ?k4 ?k5 ?kA ?kF ?kK ?k6 ?k7 ?k8 ?k9 ?kB ?kD ?_ ?c2 ?c3 ?c4; (case kA => exact rfl); (case kF => exact rfl); (case kK => assumption); (case k1 => k_asm); (case k2 => k_asm); (case k3 => k_asm); (case k4 => k_asm); (case k5 => k_asm); (case k6 => k_is); (case k7 => k_is); (case k8 => ktr_room); (case k9 => exact BindsTo.of_eq rfl); (case kB => exact rfl); (case kD => decide +kernel); (case c2 => exact rfl); (case c3 => exact rfl); (case c4 => exact rfl); k_whole; intro g' L' h' tk' cells' FG' F' N' Y' B' X' T' l1; (try (replace l1 := allLt_of l1; dsimp only [AllLt] at l1)); k_cells Y'; (try simp only [List.cons_append, List.nil_append] at N'); (try dsimp only); (try k_lift B'); (try k_fold))
  k_steps
  all_goals (refine retTB hret (by assumption) (by k_asm) (by assumption) (by k_mem) (by k_mem) (by first | ((repeat (first | exact sub_refl | refine sub_cons ?_)); done) | (intro p hp; first | exact hp | (repeat (first | exact hp | refine List.mem_cons_of_mem _ ?_)))) ?_)
  all_goals ((try law_clear); subst_vars; rfl)
end
end
section
open PySem PySem.W PySem.Spec PySem.Calls PyProof.Rows
set_option Elab.async false
set_option maxRecDepth 100000
set_option maxHeartbeats 0
theorem reg_71 : True := by
  k_with_none
  k_with "lt9" => (first | with_reducible assumption | (refine ltc (by with_reducible assumption) ?_; first | exact pj1 | exact pj2 | exact pj3 | exact pj4 | exact pj5 | exact pj6 | exact pj7 | exact pj8 | exact pj9 | exact pj10 | exact pj11 | exact pj12 | exact pj13 | exact pj14 | exact qj1 | exact qj2 | exact qj3 | exact qj4 | exact qj5 | exact qj6 | exact qj7 | exact qj8 | exact qj9 | exact qj10 | exact qj11 | exact qj12 | exact qj13 | exact qj14))
  k_with "ne9" => (first | decide | (refine Nat.ne_of_lt ?_; walk_at "lt9") | (refine Nat.ne_of_gt ?_; walk_at "lt9") | exact Nat.ne_of_lt (Nat.lt_succ_self _) | exact Nat.ne_of_gt (Nat.lt_succ_self _) | (refine ne_up1 ?_; walk_at "lt9") | (refine ne_up2 ?_; walk_at "lt9") | (refine Ne.symm (ne_up1 ?_); walk_at "lt9") | (refine Ne.symm (ne_up2 ?_); walk_at "lt9"))
  trivial
-- Sm facts
theorem reg_72 : True := by
  k_with "binaryOp FloorDiv int int" => ((k_here; (with_reducible refine floordiv_int ?feq407 ?_ (Or.inl (Sm.py ?fpq407))); (case feq407 => first | decide | omega | assumption); (case fpq407 => ktr_rel)))
  k_with "binaryOp LShift int int" => ((k_here; (with_reducible refine lshift_int ?feq408 ?fpq408 ?_); (case feq408 => omega); (case fpq408 => exact Sm.shl (by ktr_rel) (by omega))))
  k_with "ite" => ((k_here; k_openite; k_spoken; first
  | (refine ite_pos (by ((try simp only [beq_iff_eq, bne_iff_ne, ne_eq, Bool.not_eq_true', beq_eq_false_iff_ne]); (try law_clear); (try subst_vars); first | assumption | exact decide_eq_true rfl | exact Int.not_le.mp (by assumption) | exact Int.not_lt.mp (by assumption) | (law_clear; omega))) ?_; walk_say "PRUNED own")
  | (refine ite_neg (by ((try simp only [beq_iff_eq, bne_iff_ne, ne_eq, Bool.not_eq_true', beq_eq_false_iff_ne]); (try law_clear); (try subst_vars); first | assumption | exact Int.not_le.mpr (by assumption) | exact Int.not_lt.mpr (by assumption) | (law_clear; omega))) ?_; walk_say "PRUNED own")))
  k_with "subscriptTail" => ((k_here; (with_reducible show wpAny _ _ (subscriptTail _ _ (Value.ref _) (Value.int _ _)) _ _ _); k_dflt (refine' item_tupleT ?tq410 ?aq410 ?bq410 ?cq410 ?dq410 ?_; (case tq410 => exact News.isTup (by k_asm) (by k_mem)); (case aq410 => decide); (case bq410 => decide); (case cq410 => rfl); (case dq410 => rfl); k_whole)))
  k_with "subscriptTail Name Constant ref int" => ((k_here; (with_reducible show wpAny _ _ (subscriptTail _ _ (Value.ref _) (Value.int _ _)) _ _ _); k_dflt (refine' item_tupleT ?tq411 ?aq411 ?bq411 ?cq411 ?dq411 ?_; (case tq411 => exact News.isTup (by k_asm) (by k_mem)); (case aq411 => decide); (case bq411 => decide); (case cq411 => rfl); (case dq411 => rfl); k_whole)))
  k_with "callWith ref" => ((k_here; k_dflt (refine' callWith_K ?k1q412 ?k2q412 ?_; (case k1q412 => k_asm); (case k2q412 => k_is); k_whole)))
  k_with "call builtin:divmod" => ((k_here; (with_reducible show wpAny _ _ (call (Value.builtin _) [Value.int _ _, Value.int _ _]) _ _ _); k_dflt (refine' divmod_N ?k1q413 ?k2q413 ?feq413 ?_ (Or.inl (Sm.py ?fpq413)); (case k1q413 => k_asm); (case k2q413 => k_asm); (case feq413 => first | omega | exact Int.ne_of_gt (Int.mul_pos (by omega) (pow2_pos _))); (case fpq413 => ktr_rel)); intro h' F' N'; (try k_sweep)))
  k_with "call builtin:max" => ((k_here; (with_reducible show wpAny _ _ (call (Value.builtin _) [Value.ref _]) _ _ _); k_dflt (first
  | (refine' max_tup ?k0q414 ?k1q414 ?k2q414 ?k3q414 ?_; (case k0q414 => exact rfl); (case k1q414 => k_asm); (case k2q414 => k_asm); (case k3q414 => exact News.isTup (by k_asm) (by k_mem)))
  | (refine' max_list4 ?k0q414 ?k1q414 ?k2q414 ?k3q414 ?_; (case k0q414 => exact rfl); (case k1q414 => k_asm); (case k2q414 => k_asm); (case k3q414 => exact News.isList (by k_asm) (by k_mem)))); k_whole; intro h' r' tk' F' N'; (try k_sweep)))
  k_with "call builtin:min" => ((k_here; (with_reducible show wpAny _ _ (call (Value.builtin _) [Value.ref _]) _ _ _); k_dflt (first
  | (refine' min_tup ?k0q415 ?k1q415 ?k2q415 ?k3q415 ?_; (case k0q415 => exact rfl); (case k1q415 => k_asm); (case k2q415 => k_asm); (case k3q415 => exact News.isTup (by k_asm) (by k_mem)))
  | (refine' min_list4 ?k0q415 ?k1q415 ?k2q415 ?k3q415 ?_; (case k0q415 => exact rfl); (case k1q415 => k_asm); (case k2q415 => k_asm); (case k3q415 => exact News.isList (by k_asm) (by k_mem)))); k_whole; intro h' r' tk' F' N'; (try k_sweep)))
  k_with "storeName" => ((k_here; k_dflt (refine' storeX_S (by k_asm) (by k_asm) rfl (by k_mem) (by assumption) (by repeat' (first | exact Sift.all (by assumption) | exact Sift.all (allLt_ne (And.right (And.right ‹_ ∧ _ ∧ AllLt _ _›)) (by omega)) | exact Sift.all (ltAll (by assumption) (by omega)) | (apply Sift.keep; (case h => first | (refine neN ?_; first | walk_at "ne9" | omega) | exact newsNe (by assumption) (by k_mem) (by k_mem) (by assumption) (by intro _ e; cases e) | (refine' newsNeC ?nNq416 ?nAq416 ?nBq416 ?nCq416; (case nNq416 => assumption); (case nAq416 => k_mem); (case nBq416 => k_mem); (case nCq416 => first | (intro e; cases e; done) | (intro e; exact absurd (Value.type.inj e) (by decide)))) | (refine' codeNe ?nNq416 ?nAq416 ?nBq416 ?nDq416 ?nPq416 ?nGq416; (case nNq416 => assumption); (case nGq416 => assumption); (case nAq416 => k_mem); (case nBq416 => k_mem); (case nDq416 => assumption); (case nPq416 => k_mem)))) | apply Sift.drop)) ?_ rfl rfl; k_whole); intro h' o' F' N' d1'; (try dsimp only)))
  k_with "exec FunctionDef" => ((k_here; k_dflt (refine' nestDef_K ?d0q417 ?k0q417 ?a0q417 ?_; (case d0q417 => exact rfl); (case k0q417 => exact rfl); (case a0q417 => exact rfl)); k_dflt (refine' nest_S (by k_asm) (by k_asm) (by k_asm) (by first | assumption | exact CodeHd.keeps (by assumption) (Fr.keep (by assumption))) rfl (by assumption) (by k_mem) (by k_mem) (by repeat' (first | exact Sift.all (by assumption) | exact Sift.all (allLt_ne (And.right (And.right ‹_ ∧ _ ∧ AllLt _ _›)) (by omega)) | exact Sift.all (ltAll (by assumption) (by omega)) | (apply Sift.keep; (case h => first | (refine neN ?_; first | walk_at "ne9" | omega) | exact newsNe (by assumption) (by k_mem) (by k_mem) (by assumption) (by intro _ e; cases e) | (refine' newsNeC ?nNq417 ?nAq417 ?nBq417 ?nCq417; (case nNq417 => assumption); (case nAq417 => k_mem); (case nBq417 => k_mem); (case nCq417 => first | (intro e; cases e; done) | (intro e; exact absurd (Value.type.inj e) (by decide)))) | (refine' codeNe ?nNq417 ?nAq417 ?nBq417 ?nDq417 ?nPq417 ?nGq417; (case nNq417 => assumption); (case nGq417 => assumption); (case nAq417 => k_mem); (case nBq417 => k_mem); (case nDq417 => assumption); (case nPq417 => k_mem)))) | apply Sift.drop)) (by intro c9; kn_triples) (by intro c9; kn_hit) rfl ?_; k_whole); intro f' c' oc' doc' ct' h' tk' F' N' ok'; (have ok2' := ok'); (obtain ⟨vs', t', d1', d2'⟩ := ok2'); (try dsimp only at N')))
  k_with "eval Lambda" => ((k_here; k_dflt (refine' kla_eval ?d0q418 ?_; (case d0q418 => exact rfl)); k_dflt (refine' lam_S (by k_asm) (by k_asm) (by k_asm) (by first | assumption | exact CodeHd.keeps (by assumption) (Fr.keep (by assumption))) rfl (by assumption) (by k_mem) (by k_mem) (by repeat' (first | exact Sift.all (by assumption) | exact Sift.all (allLt_ne (And.right (And.right ‹_ ∧ _ ∧ AllLt _ _›)) (by omega)) | exact Sift.all (ltAll (by assumption) (by omega)) | (apply Sift.keep; (case h => first | (refine neN ?_; first | walk_at "ne9" | omega) | exact newsNe (by assumption) (by k_mem) (by k_mem) (by assumption) (by intro _ e; cases e) | (refine' newsNeC ?nNq418 ?nAq418 ?nBq418 ?nCq418; (case nNq418 => assumption); (case nAq418 => k_mem); (case nBq418 => k_mem); (case nCq418 => first | (intro e; cases e; done) | (intro e; exact absurd (Value.type.inj e) (by decide)))) | (refine' codeNe ?nNq418 ?nAq418 ?nBq418 ?nDq418 ?nPq418 ?nGq418; (case nNq418 => assumption); (case nGq418 => assumption); (case nAq418 => k_mem); (case nBq418 => k_mem); (case nDq418 => assumption); (case nPq418 => k_mem)))) | apply Sift.drop)) (by intro c9; kn_triples) (by intro c9; kn_hit) rfl ?_; k_whole); intro f' c' oc' ct' h' tk' F' N' ok'; (have ok2' := ok'); (obtain ⟨vs', t', d1', d2'⟩ := ok2'); (try dsimp only at N')))
  k_with "OnceB" => ((dsimp only [OnceB]))
  k_with "call ref" => ((k_here; (with_reducible show wpAny _ _ (call (Value.ref 282) _ _) _ _ _); k_dflt (refine wpAny_call ?_; ktr_enter)))
  k_with "CompEnd" => ((k_dflt (first
  | (refine' compEnd_1 ?Fq421 ?Nq421 ?offq421 ?hrq421 ?hSq421 ?_; (case Fq421 => k_asm); (case Nq421 => assumption); (case offq421 => assumption); (case hrq421 => (refine ⟨?_, ?_, ?_⟩ <;> first | walk_at "lt9" | omega)); (case hSq421 => exact Or.inr ⟨_, by k_mem, rfl, _, rfl⟩))
  | (refine' compEnd_0 ?Fq421 ?Nq421 ?offq421 ?hSq421 ?_; (case Fq421 => k_asm); (case Nq421 => assumption); (case offq421 => assumption); (case hSq421 => exact Or.inr ⟨_, by k_mem, rfl, _, rfl⟩)))))
  k_with "CompSrc" => ((k_here; k_dflt (refine LCg.CompSrc.ledger (by rfl) (by k_asm) (by k_asm) (by k_mem) (by first | size_fits | exact Nat.le_of_ble_eq_true rfl) ?_; intro g'; lcg_lit)))
  k_with "eval ListComp" => ((k_here; lcf_look; k_dflt (refine LCg.ListComp_U (F₀ := by k_asm) (by with_unfolding_all rfl) (by decide) (by rfl) (by decide) (by rfl) ?_); k_dflt lcg_toSrc))
  k_with "call ref" => ((k_here; (with_reducible show wpAny _ _ (call (Value.ref 89) _ _) _ _ _); k_dflt (refine' real_c ?k1q424 ?k2q424 ?k3q424 ?k4q424 ?k5q424 ?kKq424 ?kdq424 ?kuq424   ?_; (case k1q424 => k_asm); (case k2q424 => k_asm); (case k3q424 => k_asm); (case k4q424 => k_asm); (case k5q424 => k_asm); (case kKq424 => first | exact rfl | assumption); (case kdq424 => ktr_room); (case kuq424 => ktr_units); k_whole); intro r9 d9 z9 y9 j9 t9 i9 u9 h9 tk9 e9 f9 F9 N9; (try k_sweep); (try dsimp only); (try k_fold); skip))
  k_with "call ref" => ((k_here; (with_reducible show wpAny _ _ (call (Value.ref 310) _ _) _ _ _); k_dflt (refine' log_real_c ?k1q425 ?k2q425 ?k3q425 (newsTab ?n1q425 ?n2q425 ?n3q425 ?sfq425) ?k5q425 ?kKq425 ?kdq425 ?kuq425 ?m0q425 ?m1q425 ?p0q425 ?p1q425 (Sift.ne ?sfq425) ?p3q425 ?p4q425 ?p5q425 ?_; (case k1q425 => k_asm); (case k2q425 => k_asm); (case k3q425 => k_asm); (case p1q425 => assumption); (case n1q425 => k_asm); (case n2q425 => k_mem); (case n3q425 => k_mem); (case sfq425 => repeat' (first | exact Sift.all (by assumption) | exact Sift.all (allLt_ne (And.right (And.right ‹_ ∧ _ ∧ AllLt _ _›)) (by omega)) | exact Sift.all (ltAll (by assumption) (by omega)) | (apply Sift.keep; (case h => first | (refine neN ?_; first | walk_at "ne9" | omega) | exact newsNe (by assumption) (by k_mem) (by k_mem) (by assumption) (by intro _ e; cases e) | (refine' newsNeC ?nNq425 ?nAq425 ?nBq425 ?nCq425; (case nNq425 => assumption); (case nAq425 => k_mem); (case nBq425 => k_mem); (case nCq425 => first | (intro e; cases e; done) | (intro e; exact absurd (Value.type.inj e) (by decide)))) | (refine' codeNe ?nNq425 ?nAq425 ?nBq425 ?nDq425 ?nPq425 ?nGq425; (case nNq425 => assumption); (case nGq425 => assumption); (case nAq425 => k_mem); (case nBq425 => k_mem); (case nDq425 => assumption); (case nPq425 => k_mem)))) | apply Sift.drop)); (case k5q425 => k_asm); (case kKq425 => first | exact rfl | assumption); (case kdq425 => ktr_room); (case kuq425 => ktr_units); (case m0q425 => k_mem); (case m1q425 => k_mem); (case p0q425 => first | assumption | exact CodeHd.keeps (by assumption) (Fr.keep (by assumption))); (case p3q425 => first | with_reducible assumption | omega); (case p4q425 => first | with_reducible assumption | omega); (case p5q425 => first | with_reducible assumption | k_dflt (have hq := (‹logF _ _ _ = some _›); refine Eq.trans ?_ hq; law_clear; subst_vars; exact rfl) | kwd_less); k_whole); intro r9 d9 z9 y9 j9 t9 i9 u9 q9 c9 o9 h9 tk9 e9 f9 ok9 F9 N9; (obtain ⟨c8, o8, ok8, gc8, N8⟩ := tabNorm ok9 N9); clear ok9 N9; (try k_sweep); (try dsimp only); (try k_fold); skip))
  k_with "call ref" => ((k_here; (with_reducible show wpAny _ _ (call (Value.ref 331) _ _) _ _ _); k_dflt (refine' law_fraction_c ?k1q426 ?k2q426 ?k3q426 ?k4q426 ?k5q426 ?kKq426 ?kdq426 ?kuq426  ?p0q426 ?p1q426 ?p2q426 ?_; (case k1q426 => k_asm); (case k2q426 => k_asm); (case k3q426 => k_asm); (case k4q426 => k_asm); (case k5q426 => k_asm); (case kKq426 => first | exact rfl | assumption); (case kdq426 => ktr_room); (case kuq426 => ktr_units); (case p0q426 => ktr_rel); (case p1q426 => first | with_reducible assumption | omega); (case p2q426 => first | with_reducible assumption | omega); k_whole); intro r9 z9 y9 t9 u9 h9 tk9 e9 f9 F9 N9; (try k_sweep); (try dsimp only); (try k_fold); skip))
  k_with "call ref" => ((k_here; (with_reducible show wpAny _ _ (call (Value.ref 336) _ _) _ _ _); k_dflt (refine' law_middles_c ?k1q427 ?k2q427 ?k3q427 ?k4q427 ?k5q427 ?kKq427 ?kdq427 ?kuq427 ?m0q427 ?m1q427 ?p0q427 ?p1q427 ?p2q427 ?_; (case k1q427 => k_asm); (case k2q427 => k_asm); (case k3q427 => k_asm); (case k4q427 => k_asm); (case k5q427 => k_asm); (case kKq427 => first | exact rfl | assumption); (case kdq427 => ktr_room); (case kuq427 => ktr_units); (case m0q427 => k_mem); (case m1q427 => k_mem); (case p0q427 => first | with_reducible assumption | omega); (case p1q427 => first | with_reducible assumption | omega); (case p2q427 => first | with_reducible assumption | k_dflt (have hq := (‹midF _ _ _ = some _›); refine Eq.trans ?_ hq; law_clear; subst_vars; exact rfl) | kwd_less); k_whole); intro r9 p9 q9 z9 y9 x9 w9 t9 u9 j9 k9 h9 tk9 e9 f9 c9 d9 F9 N9; (try k_sweep); (try dsimp only); (try k_fold); skip))
  k_with "call ref" => ((k_here; (with_reducible show wpAny _ _ (call (Value.ref 350) _ _) _ _ _); k_dflt (refine' law_side_c ?k1q428 ?k2q428 ?k3q428 ?k4q428 ?k5q428 ?kKq428 ?kdq428 ?kuq428 ?m0q428 ?m1q428 ?p0q428 ?_; (case k1q428 => k_asm); (case k2q428 => k_asm); (case k3q428 => k_asm); (case k4q428 => k_asm); (case k5q428 => k_asm); (case kKq428 => first | exact rfl | assumption); (case kdq428 => ktr_room); (case kuq428 => ktr_units); (case m0q428 => k_mem); (case m1q428 => k_mem); (case p0q428 => first | with_reducible assumption | k_dflt (have hq := (‹sideF _ _ = some 1›); refine Eq.trans ?_ hq; law_clear; subst_vars; with_reducible rfl) | k_dflt (have hq := (‹sideF _ _ = some (-1)›); refine Eq.trans ?_ hq; law_clear; subst_vars; with_reducible rfl) | kwd_less); k_whole); intro z9 t9 h9 tk9 e9 F9 N9; (try k_sweep); (try dsimp only); (try k_fold); skip))
  trivial
section
variable {w : World} {loose : List Str} {mean : ExcName → Option Value} {mg mb : Str → Option Value}
  {dp un : Nat} {gd : Option (List Code)} {cn : Str} {cs : Scope} {a : Addr} {ccd : Value} {cl : List (Str × Addr)} {outer : List Env} {A₀ : Around} {base h₀ : Heap} {L : Addr} {m : Str → Option Value} {news : List (Addr × Obj)} {s : Shared} {Q E : Value → Shared → Prop}

theorem law_is_log_right_c {p : Int} {t9 : Tok} {x1 y1 : Int} {t1 u1 : Tok} {a1 : Addr} {ps : Array Value} {c1 : Addr} {o1 : Obj}
  (B : Below A₀ base outer h₀) (F : Fr h₀ L s.heap m) (X : (hd.heap_1 w.params).In h₀) (N : News h₀ L s.heap ((305, tabObj ps) :: (c1, o1) :: news)) (T : Top topProg loose mean mg mb h₀) (hk : cs.kind = .function)
  (hdp : dp + 30 < recursionLimit) (hun : un + 400 < cLine)
  (Ma1 : (a1, tupO x1 t1 y1 u1) ∈ news) (hC : CodeHd h₀ 309 305) (ok : TabOk posL qualL ps c1 o1) (hne : ∀ q ∈ news, q.1 ≠ 305) (h0 : 1 ≤ p) (h1 : p < 100) (b1 : Sm x1) (b2 : -1000 ≤ y1) (b3 : y1 ≤ 1000) (hv : isLog p x1 y1 = true)
  (hret : ∀ ps' c' oc' h' tk', TabOk posL qualL ps' c' oc' → (c' = 305 ∨ CodeNm qualL oc') → Fr h₀ L h' m → News h₀ L h' ((305, tabObj ps') :: (c', oc') :: news) → Q (.bool true) { s with heap := h', toks := tk' }) :
  wpAny (model Challenge.rw_nt0168_01.row.prog w) (ktrTop dp un gd cn cs L a ccd cl outer) (call (.ref 360) [.int p t9, .ref a1]) Q E s := by
  obtain ⟨⟨r1, r2⟩, hv1, ⟨rfl, rfl, hv2⟩ | ⟨hn, m1, m2, hv2, hv3, hv4⟩⟩ := isLog_parts hv
  all_goals (try dsimp only at hv2)
  · obtain ⟨rfl, rfl⟩ := Prod.mk.inj hv2
    refine wpAny_call ?_
    k_dflt (refine' code_defC ?k1 ?k2 ?k3 ?k4 ?k5 ?kA ?kF ?kK ?k6 ?k7 ?k8 ?k9 ?kB ?kD ?_ ?c2 ?c3 ?c4; (case kA => exact rfl); (case kF => exact rfl); (case kK => assumption); (case k1 => k_asm); (case k2 => k_asm); (case k3 => k_asm); (case k4 => k_asm); (case k5 => k_asm); (case k6 => k_is); (case k7 => k_is); (case k8 => ktr_room); (case k9 => exact BindsTo.of_eq rfl); (case kB => exact rfl); (case kD => decide +kernel); (case c2 => exact rfl); (case c3 => exact rfl); (case c4 => exact rfl); k_whole; intro g' L' h' tk' cells' FG' F' N' Y' B' X' T' l1; (try (replace l1 := allLt_of l1; dsimp only [AllLt] at l1)); k_cells Y'; (try simp only [List.cons_append, List.nil_append] at N'); (try dsimp only); (try k_lift B'); (try k_fold))
    k_steps
    all_goals (refine retTB hret (by assumption) (by k_asm) (by assumption) (by k_mem) (by k_mem) (by first | ((repeat (first | exact sub_refl | refine sub_cons ?_)); done) | (intro p hp; first | exact hp | (repeat (first | exact hp | refine List.mem_cons_of_mem _ ?_)))) ?_)
    all_goals ((try law_clear); subst_vars; rfl)
  ·
    refine wpAny_call ?_
    k_dflt (refine' code_defC ?k1 ?k2 ?k3 ?k4 ?k5 ?kA ?kF ?kK ?k6 ?k7 ?k8 ?k9 ?kB ?kD ?_ ?c2 ?c3 ?c4; (case kA => exact rfl); (case kF => exact rfl); (case kK => assumption); (case k1 => k_asm); (case k2 => k_asm); (case k3 => k_asm); (case k4 => k_asm); (case k5 => k_asm); (case k6 => k_is); (case k7 => k_is); (case k8 => ktr_room); (case k9 => exact BindsTo.of_eq rfl); (case kB => exact rfl); (case kD => decide +kernel); (case c2 => exact rfl); (case c3 => exact rfl); (case c4 => exact rfl); k_whole; intro g' L' h' tk' cells' FG' F' N' Y' B' X' T' l1; (try (replace l1 := allLt_of l1; dsimp only [AllLt] at l1)); k_cells Y'; (try simp only [List.cons_append, List.nil_append] at N'); (try dsimp only); (try k_lift B'); (try k_fold))
    k_steps
    all_goals (refine retTB hret (by assumption) (by k_asm) (by assumption) (by k_mem) (by k_mem) (by first | ((repeat (first | exact sub_refl | refine sub_cons ?_)); done) | (intro p hp; first | exact hp | (repeat (first | exact hp | refine List.mem_cons_of_mem _ ?_)))) ?_)
    all_goals (first | exact absurd (pairIs (by assumption)) hn | ((try law_clear); subst_vars; rfl))
end
end
section
open PySem PySem.W PySem.Spec PySem.Calls PyProof.Rows
set_option Elab.async false
set_option maxRecDepth 100000
noncomputable def okFrom (bits : Int) (a : Nat) : Nat → Bool
  | 0 => true
  | n + 1 => okCode bits (a + n) && okFrom bits a n
theorem okFrom_at {bits : Int} {a : Nat} : ∀ {n : Nat}, okFrom bits a n = true → ∀ k, a ≤ k → k < a + n → okCode bits k = true
  | 0, _, k, h1, h2 => absurd h2 (Nat.not_lt.mpr h1)
  | n + 1, h, k, h1, h2 => by
    unfold okFrom at h
    rw [Bool.and_eq_true] at h
    by_cases e : k = a + n
    · rw [e]; exact h.1
    · exact okFrom_at h.2 k h1 (Nat.lt_of_le_of_ne (Nat.le_of_lt_succ h2) e)
theorem okFrom_add {bits : Int} {m n : Nat} (h1 : okFrom bits 0 m = true) (h2 : okFrom bits m n = true) (k : Nat) (h : k < m + n) : okCode bits k = true :=
  if c : k < m then okFrom_at h1 k (Nat.zero_le _) (by rwa [Nat.zero_add]) else okFrom_at h2 k (Nat.le_of_not_lt c) h
theorem ok_2 : okFrom 2 0 24 = true := by decide +kernel
theorem ok_3 : okFrom 3 0 48 = true := by decide +kernel
theorem ok_4a : okFrom 4 0 48 = true := by decide +kernel
theorem ok_4b : okFrom 4 48 48 = true := by decide +kernel
theorem ok_5a : okFrom 5 0 96 = true := by decide +kernel
theorem ok_5b : okFrom 5 96 96 = true := by decide +kernel
theorem fd (x : Int) {n : Int} (h : 0 ≤ n) : x.fdiv n = x / n := Int.fdiv_eq_ediv_of_nonneg x h
theorem fm (x : Int) {n : Int} (h : 0 ≤ n) : x.fmod n = x % n := Int.fmod_eq_emod_of_nonneg x h
theorem six (q y : Int) : (6 * q + y) % 3 = y % 3 ∧ (6 * q + y) / 3 % 2 = y / 3 % 2 := by constructor <;> omega
theorem lawPair_mod {b c S : Int} (hS : p2 b = S) (hp : 0 < S) : lawPair b c = lawPair b (c % (6 * S)) := by
  have h0 : (0 : Int) ≤ S := Int.le_of_lt hp
  have e : c = c % (6 * S) + S * (6 * (c / (6 * S))) := by
    have := Int.emod_add_mul_ediv c (6 * S)
    rw [Int.mul_comm 6 S, Int.mul_assoc] at this
    rw [Int.mul_comm 6 S]
    exact this.symm
  generalize hr : c % (6 * S) = r at e
  generalize c / (6 * S) = q at e
  have h1 : c % S = r % S := by rw [e, Int.add_mul_emod_self_left]
  have h2 : c / S = 6 * q + r / S := by rw [e, Int.add_mul_ediv_left _ _ (Int.ne_of_gt hp), Int.add_comm]
  obtain ⟨s1, s2⟩ := six q (r / S)
  unfold lawPair
  simp only [hS, fd _ h0, fm _ h0, fd _ (show (0 : Int) ≤ 3 by decide), fm _ (show (0 : Int) ≤ 3 by decide), fm _ (show (0 : Int) ≤ 2 by decide), h1, h2, s1, s2]
theorem ok_of {b c S : Int} {n : Nat} (hS : p2 b = S) (hp : 0 < S) (hn : 6 * S = n) (h : ∀ k < n, okCode b k = true) : okPair b (lawPair b c) = true := by
  rw [lawPair_mod hS hp]
  have h6 : (0 : Int) < 6 * S := Int.mul_pos (by decide) hp
  have g0 := Int.emod_nonneg c (Int.ne_of_gt h6)
  have g1 := Int.emod_lt_of_pos c h6
  obtain ⟨k, e⟩ := Int.eq_ofNat_of_zero_le g0
  rw [e] at g1 ⊢
  rw [hn] at g1
  exact h k (Int.ofNat_lt.mp g1)
theorem ok_all {b : Int} (h1 : 2 ≤ b) (h2 : b ≤ 5) (c : Int) : ∃ v, lawPair b c = some v ∧ isExp b v.1 v.2 = true ∧ isLog b (absI v.1) v.2 = true := by
  have e : okPair b (lawPair b c) = true := by
    rcases (by omega : b = 2 ∨ b = 3 ∨ b = 4 ∨ b = 5) with rfl | rfl | rfl | rfl
    · exact ok_of (S := 4) (by decide) (by decide) (n := 24) rfl fun k hk => okFrom_at ok_2 k (Nat.zero_le _) hk
    · exact ok_of (S := 8) (by decide) (by decide) (n := 48) rfl fun k hk => okFrom_at ok_3 k (Nat.zero_le _) hk
    · exact ok_of (S := 16) (by decide) (by decide) (n := 96) rfl (okFrom_add ok_4a ok_4b)
    · exact ok_of (S := 32) (by decide) (by decide) (n := 192) rfl (okFrom_add ok_5a ok_5b)
  cases q : lawPair b c with
  | none => rw [q] at e; cases e
  | some v =>
    rw [q] at e
    obtain ⟨m, x⟩ := v
    unfold okPair at e
    dsimp only at e
    rw [Bool.and_eq_true] at e
    exact ⟨(m, x), rfl, e.1, e.2⟩
end
section
open PySem PySem.W PySem.Spec PySem.Calls PyProof.Rows
set_option Elab.async false
set_option maxRecDepth 100000
theorem fmod4 (k : Nat) : 0 ≤ ((k : Nat) : Int).fmod 4 ∧ ((k : Nat) : Int).fmod 4 ≤ 3 := by
  rw [fm _ (show (0 : Int) ≤ 4 by decide)]; omega
theorem bitsB {vs : List Value} {ns : List Int} (_h : IntsAre vs ns) : 0 ≤ ((ns.length : Nat) : Int).fmod 4 ∧ ((ns.length : Nat) : Int).fmod 4 ≤ 3 := fmod4 _
/-- the pair that the law makes of a code -/
noncomputable def lawV (b c : Int) : Int × Int := (lawPair b c).getD (0, 0)
theorem lawV_all {k : Nat} (c : Int) : lawPair (2 + (k : Int).fmod 4) c = some (lawV (2 + (k : Int).fmod 4) c) ∧ isExp (2 + (k : Int).fmod 4) (lawV (2 + (k : Int).fmod 4) c).1 (lawV (2 + (k : Int).fmod 4) c).2 = true ∧
    isLog (2 + (k : Int).fmod 4) (absI (lawV (2 + (k : Int).fmod 4) c).1) (lawV (2 + (k : Int).fmod 4) c).2 = true := by
  have h := fmod4 k
  obtain ⟨v, h1, h2, h3⟩ := ok_all (b := 2 + (k : Int).fmod 4) (by omega) (by omega) c
  have e : lawV (2 + (k : Int).fmod 4) c = v := by unfold lawV; rw [h1]; rfl
  rw [e]
  exact ⟨h1, h2, h3⟩
section
variable {k : Nat} {c : Int}
theorem lawV_pair : lawPair (2 + (k : Int).fmod 4) c = some (lawV (2 + (k : Int).fmod 4) c) := (lawV_all c).1
theorem lawV_exp : isExp (2 + (k : Int).fmod 4) (lawV (2 + (k : Int).fmod 4) c).1 (lawV (2 + (k : Int).fmod 4) c).2 = true := (lawV_all c).2.1
theorem lawV_log : isLog (2 + (k : Int).fmod 4) (absI (lawV (2 + (k : Int).fmod 4) c).1) (lawV (2 + (k : Int).fmod 4) c).2 = true := (lawV_all c).2.2
theorem isExp_small {p m e : Int} (h : isExp p m e = true) : -1000 ≤ e ∧ e ≤ 1000 ∧ Sm m := by
  unfold isExp at h
  split at h
  · cases h
  · rename_i r q
    obtain ⟨_, _, _, t, f, r, q1, _⟩ := expF_parts (p := p) (m := m) (e := e) (by rw [q]; exact nofun)
    obtain ⟨_, _, _, g1, g2, g3, _⟩ := redF_parts q1
    exact ⟨g1, g2, g3⟩
theorem lawV_sm : Sm (lawV (2 + (k : Int).fmod 4) c).1 := (isExp_small lawV_exp).2.2
theorem lawV_lo : -1000 ≤ (lawV (2 + (k : Int).fmod 4) c).2 := (isExp_small lawV_exp).1
theorem lawV_hi : (lawV (2 + (k : Int).fmod 4) c).2 ≤ 1000 := (isExp_small lawV_exp).2.1
end
end
local macro_rules | `(tactic| kwd_less) => `(tactic| k_dflt (subst_vars; first | exact lawV_pair | exact lawV_exp | exact lawV_log))
section
open PySem PySem.W PySem.Spec PySem.Calls PyProof.Rows
set_option Elab.async false
set_option maxRecDepth 100000
set_option maxHeartbeats 0
theorem reg_73 : True := by
  k_with_none
  k_with "lt9" => (first | with_reducible assumption | (refine ltc (by with_reducible assumption) ?_; first | exact pj1 | exact pj2 | exact pj3 | exact pj4 | exact pj5 | exact pj6 | exact pj7 | exact pj8 | exact pj9 | exact pj10 | exact pj11 | exact pj12 | exact pj13 | exact pj14 | exact qj1 | exact qj2 | exact qj3 | exact qj4 | exact qj5 | exact qj6 | exact qj7 | exact qj8 | exact qj9 | exact qj10 | exact qj11 | exact qj12 | exact qj13 | exact qj14))
  k_with "ne9" => (first | decide | (refine Nat.ne_of_lt ?_; walk_at "lt9") | (refine Nat.ne_of_gt ?_; walk_at "lt9") | exact Nat.ne_of_lt (Nat.lt_succ_self _) | exact Nat.ne_of_gt (Nat.lt_succ_self _) | (refine ne_up1 ?_; walk_at "lt9") | (refine ne_up2 ?_; walk_at "lt9") | (refine Ne.symm (ne_up1 ?_); walk_at "lt9") | (refine Ne.symm (ne_up2 ?_); walk_at "lt9"))
  trivial
-- Sm facts
theorem reg_74 : True := by
  k_with "binaryOp FloorDiv int int" => ((k_here; (with_reducible refine floordiv_int ?feq431 ?_ (Or.inl (Sm.py ?fpq431))); (case feq431 => first | decide | omega | assumption); (case fpq431 => ktr_rel)))
  k_with "binaryOp LShift int int" => ((k_here; (with_reducible refine lshift_int ?feq432 ?fpq432 ?_); (case feq432 => omega); (case fpq432 => exact Sm.shl (by ktr_rel) (by omega))))
  k_with "ite" => ((k_here; k_openite; k_spoken; first
  | (refine ite_pos (by ((try simp only [beq_iff_eq, bne_iff_ne, ne_eq, Bool.not_eq_true', beq_eq_false_iff_ne]); (try law_clear); (try subst_vars); first | assumption | exact decide_eq_true rfl | exact Int.not_le.mp (by assumption) | exact Int.not_lt.mp (by assumption) | (law_clear; omega))) ?_; walk_say "PRUNED own")
  | (refine ite_neg (by ((try simp only [beq_iff_eq, bne_iff_ne, ne_eq, Bool.not_eq_true', beq_eq_false_iff_ne]); (try law_clear); (try subst_vars); first | assumption | exact Int.not_le.mpr (by assumption) | exact Int.not_lt.mpr (by assumption) | (law_clear; omega))) ?_; walk_say "PRUNED own")))
  k_with "subscriptTail" => ((k_here; (with_reducible show wpAny _ _ (subscriptTail _ _ (Value.ref _) (Value.int _ _)) _ _ _); k_dflt (refine' item_tupleT ?tq434 ?aq434 ?bq434 ?cq434 ?dq434 ?_; (case tq434 => exact News.isTup (by k_asm) (by k_mem)); (case aq434 => decide); (case bq434 => decide); (case cq434 => rfl); (case dq434 => rfl); k_whole)))
  k_with "subscriptTail Name Constant ref int" => ((k_here; (with_reducible show wpAny _ _ (subscriptTail _ _ (Value.ref _) (Value.int _ _)) _ _ _); k_dflt (refine' item_tupleT ?tq435 ?aq435 ?bq435 ?cq435 ?dq435 ?_; (case tq435 => exact News.isTup (by k_asm) (by k_mem)); (case aq435 => decide); (case bq435 => decide); (case cq435 => rfl); (case dq435 => rfl); k_whole)))
  k_with "callWith ref" => ((k_here; k_dflt (refine' callWith_K ?k1q436 ?k2q436 ?_; (case k1q436 => k_asm); (case k2q436 => k_is); k_whole)))
  k_with "call builtin:divmod" => ((k_here; (with_reducible show wpAny _ _ (call (Value.builtin _) [Value.int _ _, Value.int _ _]) _ _ _); k_dflt (refine' divmod_N ?k1q437 ?k2q437 ?feq437 ?_ (Or.inl (Sm.py ?fpq437)); (case k1q437 => k_asm); (case k2q437 => k_asm); (case feq437 => first | omega | exact Int.ne_of_gt (Int.mul_pos (by omega) (pow2_pos _))); (case fpq437 => ktr_rel)); intro h' F' N'; (try k_sweep)))
  k_with "call builtin:max" => ((k_here; (with_reducible show wpAny _ _ (call (Value.builtin _) [Value.ref _]) _ _ _); k_dflt (first
  | (refine' max_tup ?k0q438 ?k1q438 ?k2q438 ?k3q438 ?_; (case k0q438 => exact rfl); (case k1q438 => k_asm); (case k2q438 => k_asm); (case k3q438 => exact News.isTup (by k_asm) (by k_mem)))
  | (refine' max_list4 ?k0q438 ?k1q438 ?k2q438 ?k3q438 ?_; (case k0q438 => exact rfl); (case k1q438 => k_asm); (case k2q438 => k_asm); (case k3q438 => exact News.isList (by k_asm) (by k_mem)))); k_whole; intro h' r' tk' F' N'; (try k_sweep)))
  k_with "call builtin:min" => ((k_here; (with_reducible show wpAny _ _ (call (Value.builtin _) [Value.ref _]) _ _ _); k_dflt (first
  | (refine' min_tup ?k0q439 ?k1q439 ?k2q439 ?k3q439 ?_; (case k0q439 => exact rfl); (case k1q439 => k_asm); (case k2q439 => k_asm); (case k3q439 => exact News.isTup (by k_asm) (by k_mem)))
  | (refine' min_list4 ?k0q439 ?k1q439 ?k2q439 ?k3q439 ?_; (case k0q439 => exact rfl); (case k1q439 => k_asm); (case k2q439 => k_asm); (case k3q439 => exact News.isList (by k_asm) (by k_mem)))); k_whole; intro h' r' tk' F' N'; (try k_sweep)))
  trivial
noncomputable def ThrowsTo (h₀ : Heap) (L : Addr) (m : Str → Option Value) (base : Heap) (l : List Env) (news : List (Addr × Obj)) (C : Addr) (s : Shared) (E : Value → Shared → Prop) : Prop :=
  ∀ g e h' tk', Fr h₀ L g m → RaisedSN base g l e (.ref C) news h' → g.UpToSlots h' → E (.ref e) { s with heap := h', toks := tk' }
theorem reg_75 : True := by
  k_with "storeName" => ((k_here; k_dflt (refine' storeX_S (by k_asm) (by k_asm) rfl (by k_mem) (by assumption) (by repeat' (first | exact Sift.nil | exact Sift.all (by assumption) | exact Sift.all (allLt_ne (And.right (And.right ‹_ ∧ _ ∧ AllLt _ _›)) (by omega)) | exact Sift.all (ltAll (by assumption) (by omega)) | (apply Sift.keep; (case h => first | (refine neN ?_; first | walk_at "ne9" | omega) | exact newsNe (by assumption) (by k_mem) (by k_mem) (by assumption) (by intro _ e; cases e) | (refine' newsNeC ?nNq440 ?nAq440 ?nBq440 ?nCq440; (case nNq440 => assumption); (case nAq440 => k_mem); (case nBq440 => k_mem); (case nCq440 => first | (intro e; cases e; done) | (intro e; exact absurd (Value.type.inj e) (by decide)))) | (refine' codeNe ?nNq440 ?nAq440 ?nBq440 ?nDq440 ?nPq440 ?nGq440; (case nNq440 => assumption); (case nGq440 => assumption); (case nAq440 => k_mem); (case nBq440 => k_mem); (case nDq440 => assumption); (case nPq440 => k_mem)) | (refine' tabNe ?nNq440 ?nAq440 ?nBq440 ?nOq440 ?nGq440 ?nPq440; (case nNq440 => assumption); (case nGq440 => assumption); (case nAq440 => k_mem); (case nBq440 => k_mem); (case nOq440 => assumption); (case nPq440 => decide)))) | apply Sift.drop)) ?_ rfl rfl; k_whole); intro h' o' F' N' d1'; (try dsimp only)))
  k_with "eval Lambda" => ((k_here; k_dflt (refine' kla_eval ?d0q441 ?_; (case d0q441 => exact rfl)); k_dflt (refine' lam_T (c := 371) (P := 369) ?Fq441 ?Nq441 ?Tq441 ?Cq441 ?cdq441 ?hmq441 ?Sq441 ?tq441 ?nq441 ?clq441 ?_; (case Fq441 => k_asm); (case Nq441 => k_asm); (case Tq441 => k_asm); (case cdq441 => exact rfl); (case Cq441 => first | assumption | exact CodeHd.keeps (by assumption) (Fr.keep (by assumption))); (case hmq441 => k_mem); (case Sq441 => repeat' (first | exact Sift.nil | exact Sift.all (by assumption) | exact Sift.all (allLt_ne (And.right (And.right ‹_ ∧ _ ∧ AllLt _ _›)) (by omega)) | exact Sift.all (ltAll (by assumption) (by omega)) | (apply Sift.keep; (case h => first | (refine neN ?_; first | walk_at "ne9" | omega) | exact newsNe (by assumption) (by k_mem) (by k_mem) (by assumption) (by intro _ e; cases e) | (refine' newsNeC ?nNq441 ?nAq441 ?nBq441 ?nCq441; (case nNq441 => assumption); (case nAq441 => k_mem); (case nBq441 => k_mem); (case nCq441 => first | (intro e; cases e; done) | (intro e; exact absurd (Value.type.inj e) (by decide)))) | (refine' codeNe ?nNq441 ?nAq441 ?nBq441 ?nDq441 ?nPq441 ?nGq441; (case nNq441 => assumption); (case nGq441 => assumption); (case nAq441 => k_mem); (case nBq441 => k_mem); (case nDq441 => assumption); (case nPq441 => k_mem)) | (refine' tabNe ?nNq441 ?nAq441 ?nBq441 ?nOq441 ?nGq441 ?nPq441; (case nNq441 => assumption); (case nGq441 => assumption); (case nAq441 => k_mem); (case nBq441 => k_mem); (case nOq441 => assumption); (case nPq441 => decide)))) | apply Sift.drop)); (case tq441 => kn_triples); (case nq441 => kn_among); (case clq441 => exact rfl); k_whole); intro f' c' oc' vs' t' ct' h' tk' F' N' d1' d2' l1 l2; (try dsimp only at N'); (try (replace l1 := allLt_of l1; dsimp only [AllLt] at l1)); (try k_lt2 l2)))
  k_with "pyIter ref" => ((k_here; k_dflt (refine' iter_tabsV [Str.ofString "pair"] ?hhq442 ?Fq442 ?Nq442 ?mEq442 ?mLq442 ?S1q442 ?S2q442 ?hlq442 ?hiq442 ?turnq442 ?doneq442; (case hhq442 => exact rfl); (case Fq442 => k_asm); (case Nq442 => k_asm); (case mEq442 => k_mem); (case mLq442 => k_mem); (case S1q442 => exact Sift.keep (by refine neN ?_; first | walk_at "ne9" | omega) (Sift.keep (by refine neN ?_; first | walk_at "ne9" | omega) (Sift.keep (by refine neN ?_; first | walk_at "ne9" | omega) (Sift.drop (Sift.drop (Sift.drop (Sift.keep (by refine neN ?_; first | walk_at "ne9" | omega) (Sift.keep (by refine neN ?_; first | walk_at "ne9" | omega) (Sift.drop (Sift.keep (by refine neN ?_; first | walk_at "ne9" | omega) Sift.nil)))))))))); (case S2q442 => exact Sift.keep (by refine neN ?_; first | walk_at "ne9" | omega) (Sift.keep (by refine neN ?_; first | walk_at "ne9" | omega) (Sift.keep (by refine neN ?_; first | walk_at "ne9" | omega) (Sift.keep (by refine neN ?_; first | walk_at "ne9" | omega) (Sift.drop (Sift.keep (by refine neN ?_; first | walk_at "ne9" | omega) Sift.nil)))))); (case hlq442 => k_mem); (case hiq442 => assumption)); (rotate_left; k_whole; intro u h' tk' pE pL F' N'; (try k_sweep); (try dsimp only); rotate_right); k_whole; intro n9 t9 u9 s9 I9 it9 psE psL cE cL oE oL hn9 F' N' hc9 okE gE okL gL i1 i2 i3; (try k_lt i3); (try dsimp only [tabLed] at N'); (try k_sweep); (try dsimp only); skip))
  k_with "TurnEnd" => (( k_dflt (refine' TurnEnd.intro ?Fq443 ?Nq443 ?aq443 ?bq443 ?cq443 ?dq443 ?mIq443 ?m1q443 ?m2q443 ?m3q443 ?m4q443 ?mkq443 ?hzq443; (case Fq443 => k_asm); (case Nq443 => k_asm); (case aq443 => assumption); (case bq443 => assumption); (case cq443 => assumption); (case dq443 => assumption); (case mIq443 => k_mem); (case m1q443 => k_mem); (case m2q443 => k_mem); (case m3q443 => k_mem); (case m4q443 => k_mem); (case mkq443 => repeat' (first | exact List.forall_mem_nil _ | refine List.forall_mem_cons.mpr ⟨by k_mem, ?_⟩)); (case hzq443 => (intro z h1 h3; simp only [List.contains_cons, List.contains_nil, Bool.or_false, beq_eq_false_iff_ne, ne_eq] at h3; simp [kstB, h1, h3])))))
  k_with "leaving ref" => ((k_here; k_dflt (refine' leave_onX ?k1q444 ?k2q444 ?k3q444 ?k4q444 ?k5q444 ?_; (case k1q444 => k_asm); (case k2q444 => k_asm); (case k3q444 => exact rfl); (case k4q444 => k_asm); (case k5q444 => k_asm); k_whole); intro h9 R9 U9; (try dsimp only)))
  k_with "Throws" => (( intro dp9 un9 cn9 cs9 L9 a9 ccd9 A9 b9 m9 s9 Q9 E9 B9 F9 X9 N9 T9 hk9 hd9 hu9 hr9; (change ThrowsTo _ _ _ _ _ _ _ _ _ at hr9); refine wpAny_call ?_; k_dflt (refine' kla_code ?k1q445 ?k2q445 ?k3q445 ?k4q445 ?k5q445 ?kAq445 ?kFq445 ?kKq445 ?k6q445 ?k7q445 ?k8q445 ?k9q445 ?kBq445 ?_ ?c2q445 ?c3q445 ?c4q445 ?c5q445; (case kAq445 => exact rfl); (case kFq445 => exact rfl); (case kKq445 => first | exact rfl | assumption); (case k1q445 => k_asm); (case k2q445 => k_asm); (case k3q445 => k_asm); (case k4q445 => k_asm); (case k5q445 => k_asm); (case k6q445 => k_mem); (case k7q445 => exact codeRec_news (by k_asm) (by k_mem) (by assumption) (by assumption)); (case k8q445 => ktr_room); (case k9q445 => exact rfl); (case c5q445 => decide); (case kBq445 => exact locs rfl); (case c2q445 => exact rfl); (case c3q445 => exact rfl); (case c4q445 => exact rfl); k_whole; intro g' L' h' FG' F' N' B' X' T'; (try dsimp only); (try k_fold)); skip))
  k_with "subscriptTail Name Constant ref int" => ((k_here; (with_reducible show wpAny _ _ (subscriptTail (Expr.Name (Str.ofString "codes") _) _ (Value.ref _) (Value.int 0 _)) _ _ _); (with_unfolding_all refine' item_anyK ?k1q446 ?k2q446 ?k3q446 ?k4q446 ?k5q446 ?_ ?k6q446; (case k1q446 => exact News.isList (by k_asm) (by k_mem)); (case k2q446 => with_reducible assumption); (case k3q446 => decide); (case k4q446 => (rw [List.length_append]; simp only [List.length_cons, List.length_nil]; omega)); (case k5q446 => decide); (case k6q446 => with_unfolding_all rfl); k_whole); intro _))
  k_with "call builtin:len" => ((k_here; (with_reducible show wpAny _ _ (call (Value.builtin _) [Value.ref _]) _ _ _); (with_unfolding_all refine' len_ints_fit ?k1q447 ?k2q447 ?k3q447 ?_; (case k1q447 => is_list); (case k2q447 => l_ints); (case k3q447 => l_fit); k_whole)))
  k_with "ite" => ((k_here; k_openite; refine ite_neg (by ((try law_clear); subst_vars; decide)) ?_; walk_say "PRUNED law"))
  k_with "call ref" => ((k_here; (with_reducible show wpAny _ _ (call (Value.ref 367) _ _) _ _ _); k_dflt (refine' law_refused_domain_c (bd := Expr.Call (Expr.Name (Str.ofString "log_real") _) _ _ _) ?k1q449 ?k2q449 ?k3q449 ?k4q449 ?k5q449 ?kKq449 ?x1q449 ?x2q449 ?kdq449 ?kuq449 ?mfq449 ?_ ?_; (case k1q449 => k_asm); (case k2q449 => k_asm); (case k3q449 => k_asm); (case k4q449 => k_asm); (case k5q449 => k_asm); (case kKq449 => exact rfl); (case x1q449 => k_asm); (case x2q449 => k_asm); (case kdq449 => ktr_room); (case kuq449 => ktr_units); (case mfq449 => with_reducible exact List.mem_cons_self ..)); (rotate_left; k_whole; intro t9 h9 tk9 F9 N9; (try k_sweep); (try dsimp only); (try k_fold); rotate_right); skip))
  k_with "call ref" => ((k_here; (with_reducible show wpAny _ _ (call (Value.ref 367) _ _) _ _ _); k_dflt (refine' law_refused_range_c (bd := Expr.Call (Expr.Name (Str.ofString "exp_real") _) _ _ _) ?k1q450 ?k2q450 ?k3q450 ?k4q450 ?k5q450 ?kKq450 ?x1q450 ?x2q450 ?kdq450 ?kuq450 ?mfq450 ?_ ?_; (case k1q450 => k_asm); (case k2q450 => k_asm); (case k3q450 => k_asm); (case k4q450 => k_asm); (case k5q450 => k_asm); (case kKq450 => exact rfl); (case x1q450 => k_asm); (case x2q450 => k_asm); (case kdq450 => ktr_room); (case kuq450 => ktr_units); (case mfq450 => with_reducible exact List.mem_cons_self ..)); (rotate_left; k_whole; intro t9 h9 tk9 F9 N9; (try k_sweep); (try dsimp only); (try k_fold); rotate_right); skip))
  k_with "call ref" => ((k_here; (with_reducible show wpAny _ _ (call (Value.ref 324) _ _) _ _ _); k_dflt (refine' law_pair_c ?k1q451 ?k2q451 ?k3q451 ?k4q451 ?k5q451 ?kKq451 ?kdq451 ?kuq451  ?p0q451 ?p1q451 ?p2q451 ?_; (case k1q451 => k_asm); (case k2q451 => k_asm); (case k3q451 => k_asm); (case k4q451 => k_asm); (case k5q451 => k_asm); (case kKq451 => first | exact rfl | assumption); (case kdq451 => ktr_room); (case kuq451 => ktr_units); (case p0q451 => first | with_reducible assumption | omega); (case p1q451 => first | with_reducible assumption | omega); (case p2q451 => first | with_reducible assumption | k_dflt (have hq := (‹lawPair _ _ = some _›); refine Eq.trans ?_ hq; law_clear; subst_vars; exact rfl) | kwd_less); k_whole); intro r9 z9 y9 t9 u9 h9 tk9 e9 f9 F9 N9; (try k_sweep); (try dsimp only); (try k_fold); skip))
  k_with "call ref" => ((k_here; (with_reducible show wpAny _ _ (call (Value.ref 355) _ _) _ _ _); k_dflt (refine' law_is_exp_right_c ?k1q452 ?k2q452 ?k3q452 (newsTab ?n1q452 ?n2q452 ?n3q452 ?sfq452) ?k5q452 ?kKq452 ?kdq452 ?kuq452 ?m0q452 ?p0q452 ?p1q452 (Sift.ne ?sfq452) ?p3q452 ?p4q452 ?p5q452 ?p6q452 ?p7q452 ?p8q452 ?_; (case k1q452 => k_asm); (case k2q452 => k_asm); (case k3q452 => k_asm); (case p1q452 => assumption); (case n1q452 => k_asm); (case n2q452 => k_mem); (case n3q452 => k_mem); (case sfq452 => repeat' (first | exact Sift.nil | exact Sift.all (by assumption) | exact Sift.all (allLt_ne (And.right (And.right ‹_ ∧ _ ∧ AllLt _ _›)) (by omega)) | exact Sift.all (ltAll (by assumption) (by omega)) | (apply Sift.keep; (case h => first | (refine neN ?_; first | walk_at "ne9" | omega) | exact newsNe (by assumption) (by k_mem) (by k_mem) (by assumption) (by intro _ e; cases e) | (refine' newsNeC ?nNq452 ?nAq452 ?nBq452 ?nCq452; (case nNq452 => assumption); (case nAq452 => k_mem); (case nBq452 => k_mem); (case nCq452 => first | (intro e; cases e; done) | (intro e; exact absurd (Value.type.inj e) (by decide)))) | (refine' codeNe ?nNq452 ?nAq452 ?nBq452 ?nDq452 ?nPq452 ?nGq452; (case nNq452 => assumption); (case nGq452 => assumption); (case nAq452 => k_mem); (case nBq452 => k_mem); (case nDq452 => assumption); (case nPq452 => k_mem)) | (refine' tabNe ?nNq452 ?nAq452 ?nBq452 ?nOq452 ?nGq452 ?nPq452; (case nNq452 => assumption); (case nGq452 => assumption); (case nAq452 => k_mem); (case nBq452 => k_mem); (case nOq452 => assumption); (case nPq452 => decide)))) | apply Sift.drop)); (case k5q452 => k_asm); (case kKq452 => first | exact rfl | assumption); (case kdq452 => ktr_room); (case kuq452 => ktr_units); (case m0q452 => k_mem); (case p0q452 => first | assumption | exact CodeHd.keeps (by assumption) (Fr.keep (by assumption))); (case p3q452 => first | with_reducible assumption | omega); (case p4q452 => first | with_reducible assumption | omega); (case p5q452 => first | assumption | ((try law_clear); subst_vars; first | exact lawV_sm | exact Sm.abs lawV_sm)); (case p6q452 => (try law_clear); subst_vars; exact lawV_lo); (case p7q452 => (try law_clear); subst_vars; exact lawV_hi); (case p8q452 => first | with_reducible assumption | k_dflt (have hq := (‹isExp _ _ _ = true›); refine Eq.trans ?_ hq; law_clear; subst_vars; exact rfl) | kwd_less); k_whole); intro q9 c9 o9 h9 tk9 ok9 g9 F9 N9; (try k_sweep); (try dsimp only); (try k_fold); skip))
  k_with "call ref" => ((k_here; (with_reducible show wpAny _ _ (call (Value.ref 360) _ _) _ _ _); k_dflt (refine' law_is_log_right_c ?k1q453 ?k2q453 ?k3q453 (newsTab ?n1q453 ?n2q453 ?n3q453 ?sfq453) ?k5q453 ?kKq453 ?kdq453 ?kuq453 ?m0q453 ?p0q453 ?p1q453 (Sift.ne ?sfq453) ?p3q453 ?p4q453 ?p5q453 ?p6q453 ?p7q453 ?p8q453 ?_; (case k1q453 => k_asm); (case k2q453 => k_asm); (case k3q453 => k_asm); (case p1q453 => assumption); (case n1q453 => k_asm); (case n2q453 => k_mem); (case n3q453 => k_mem); (case sfq453 => repeat' (first | exact Sift.nil | exact Sift.all (by assumption) | exact Sift.all (allLt_ne (And.right (And.right ‹_ ∧ _ ∧ AllLt _ _›)) (by omega)) | exact Sift.all (ltAll (by assumption) (by omega)) | (apply Sift.keep; (case h => first | (refine neN ?_; first | walk_at "ne9" | omega) | exact newsNe (by assumption) (by k_mem) (by k_mem) (by assumption) (by intro _ e; cases e) | (refine' newsNeC ?nNq453 ?nAq453 ?nBq453 ?nCq453; (case nNq453 => assumption); (case nAq453 => k_mem); (case nBq453 => k_mem); (case nCq453 => first | (intro e; cases e; done) | (intro e; exact absurd (Value.type.inj e) (by decide)))) | (refine' codeNe ?nNq453 ?nAq453 ?nBq453 ?nDq453 ?nPq453 ?nGq453; (case nNq453 => assumption); (case nGq453 => assumption); (case nAq453 => k_mem); (case nBq453 => k_mem); (case nDq453 => assumption); (case nPq453 => k_mem)) | (refine' tabNe ?nNq453 ?nAq453 ?nBq453 ?nOq453 ?nGq453 ?nPq453; (case nNq453 => assumption); (case nGq453 => assumption); (case nAq453 => k_mem); (case nBq453 => k_mem); (case nOq453 => assumption); (case nPq453 => decide)))) | apply Sift.drop)); (case k5q453 => k_asm); (case kKq453 => first | exact rfl | assumption); (case kdq453 => ktr_room); (case kuq453 => ktr_units); (case m0q453 => k_mem); (case p0q453 => first | assumption | exact CodeHd.keeps (by assumption) (Fr.keep (by assumption))); (case p3q453 => first | with_reducible assumption | omega); (case p4q453 => first | with_reducible assumption | omega); (case p5q453 => first | assumption | ((try law_clear); subst_vars; first | exact lawV_sm | exact Sm.abs lawV_sm)); (case p6q453 => (try law_clear); subst_vars; exact lawV_lo); (case p7q453 => (try law_clear); subst_vars; exact lawV_hi); (case p8q453 => first | with_reducible assumption | k_dflt (have hq := (‹isLog _ _ _ = true›); refine Eq.trans ?_ hq; law_clear; subst_vars; exact rfl) | kwd_less); k_whole); intro q9 c9 o9 h9 tk9 ok9 g9 F9 N9; (try k_sweep); (try dsimp only); (try k_fold); skip))
  k_with "call ref" => ((k_here; (with_reducible show wpAny _ _ (call (Value.ref 89) _ _) _ _ _); k_dflt (refine' real_c ?k1q454 ?k2q454 ?k3q454 ?k4q454 ?k5q454 ?kKq454 ?kdq454 ?kuq454   ?_; (case k1q454 => k_asm); (case k2q454 => k_asm); (case k3q454 => k_asm); (case k4q454 => k_asm); (case k5q454 => k_asm); (case kKq454 => first | exact rfl | assumption); (case kdq454 => ktr_room); (case kuq454 => ktr_units); k_whole); intro r9 d9 z9 y9 j9 t9 i9 u9 h9 tk9 e9 f9 F9 N9; (try k_sweep); (try dsimp only); (try k_fold); skip))
  k_with "call ref" => ((k_here; (with_reducible show wpAny _ _ (call (Value.ref 296) _ _) _ _ _); k_dflt (refine' exp_zero_c ?k1q455 ?k2q455 ?k3q455 ?k4q455 ?k5q455 ?kKq455 ?kdq455 ?kuq455 ?m0q455 ?m1q455 ?p0q455 ?_; (case k1q455 => k_asm); (case k2q455 => k_asm); (case k3q455 => k_asm); (case k4q455 => k_asm); (case k5q455 => k_asm); (case kKq455 => first | exact rfl | assumption); (case kdq455 => ktr_room); (case kuq455 => ktr_units); (case m0q455 => k_mem); (case m1q455 => k_mem); (case p0q455 => (try law_clear); subst_vars; decide); k_whole); intro r9 d9 z9 y9 j9 t9 i9 u9 h9 tk9 e9 f9 F9 N9; (try k_sweep); (try dsimp only); (try k_fold); skip))
  k_with "call ref" => ((k_here; (with_reducible show wpAny _ _ (call (Value.ref 296) _ _) _ _ _); k_dflt (refine' exp_raise_c ?k1q456 ?k2q456 ?k3q456 ?k4q456 ?k5q456 ?kKq456 ?kdq456 ?kuq456 ?m0q456 ?m1q456 ?p0q456 ?p1q456 ?_; (case k1q456 => k_asm); (case k2q456 => k_asm); (case k3q456 => k_asm); (case k4q456 => k_asm); (case k5q456 => k_asm); (case kKq456 => first | exact rfl | assumption); (case kdq456 => ktr_room); (case kuq456 => ktr_units); (case m0q456 => k_mem); (case m1q456 => k_mem); (case p0q456 => (try law_clear); subst_vars; decide); (case p1q456 => (try law_clear); subst_vars; decide); k_whole); intro g9 e9 h9 tk9 F9 R9 U9; (try k_sweep); (try dsimp only); (try k_fold); skip))
  k_with "call ref" => ((k_here; (with_reducible show wpAny _ _ (call (Value.ref 310) _ _) _ _ _); k_dflt (refine' log_raise_c ?k1q457 ?k2q457 ?k3q457 ?k4q457 ?k5q457 ?kKq457 ?kdq457 ?kuq457 ?m0q457 ?m1q457 ?p0q457 ?_; (case k1q457 => k_asm); (case k2q457 => k_asm); (case k3q457 => k_asm); (case k4q457 => k_asm); (case k5q457 => k_asm); (case kKq457 => first | exact rfl | assumption); (case kdq457 => ktr_room); (case kuq457 => ktr_units); (case m0q457 => k_mem); (case m1q457 => k_mem); (case p0q457 => (try law_clear); subst_vars; first | decide | exact sgn_abs); k_whole); intro g9 e9 h9 tk9 F9 R9 U9; (try k_sweep); (try dsimp only); (try k_fold); skip))
  trivial
theorem law_ok : PySem.Challenge.rw_nt0168_01.Holds := hd (by
  k_go0
  have hb9 := bitsB ‹IntsAre _ _›
  (all_goals try k_fold)
  k_steps
  all_goals (k_dflt (rename ThrowsTo _ _ _ _ _ _ _ _ _ => hT; refine' hT _ _ _ _ ?tA ?tR ?tU; (case tR => exact raised_sub (by assumption) (by first | ((repeat (first | exact sub_refl | refine sub_cons ?_)); done) | (intro p hp; first | exact hp | (repeat (first | exact hp | refine List.mem_cons_of_mem _ ?_))))); (case tA => assumption); (case tU => assumption))))
end
end Mine
theorem PySem.Challenge.cw_nt0168_01_holds : PySem.Challenge.rw_nt0168_01.Holds := by
  exact Mine.law_ok
