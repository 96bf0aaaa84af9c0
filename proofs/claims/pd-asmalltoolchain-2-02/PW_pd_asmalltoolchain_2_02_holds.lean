import PyProof.Rows.All
import Wide.All
import OpenK.AllK
import Wide.FinOn
import PySem.Challenge.RW_pd_asmalltoolchain_2_02
set_option compiler.extract_closed false
set_option Elab.async false
namespace Mine
open PySem
open PySem.Builtin.Int (intBits)

inductive Bop where
  | add | sub | mul | div | mod | lt | le | eq | ne | gt | ge

def Bop.str : Bop → Str
  | .add => Str.ofString "+" | .sub => Str.ofString "-" | .mul => Str.ofString "*" | .div => Str.ofString "//" | .mod => Str.ofString "%"
  | .lt => Str.ofString "<" | .le => Str.ofString "<=" | .eq => Str.ofString "==" | .ne => Str.ofString "!=" | .gt => Str.ofString ">" | .ge => Str.ofString ">="

inductive Unk where
  | a | b | c | d

def Unk.str : Unk → Str
  | .a => Str.ofString "pop" | .b => Str.ofString "" | .c => Str.ofString "=" | .d => Str.ofString "NEG"

inductive Op where
  | push | load | store | out | neg | not | bin (b : Bop) | unk (u : Unk)

def Op.str : Op → Str
  | .push => Str.ofString "push" | .load => Str.ofString "load" | .store => Str.ofString "store" | .out => Str.ofString "out"
  | .neg => Str.ofString "neg" | .not => Str.ofString "not" | .bin b => b.str | .unk u => u.str

def LIM : Int := 1000000000000000000
def lim (v : Int) : Option Int := if v > LIM ∨ v < -LIM then none else some v
def bit (p : Prop) [Decidable p] : Int := if p then 1 else 0

def Bop.val : Bop → Int → Int → Option Int
  | .add, x, y => lim (x + y)
  | .sub, x, y => lim (x - y)
  | .mul, x, y => lim (x * y)
  | .div, x, y => if y = 0 then none else lim (x.fdiv y)
  | .mod, x, y => if y = 0 then none else lim (x.fmod y)
  | .lt, x, y => some (bit (x < y))
  | .le, x, y => some (bit (x ≤ y))
  | .eq, x, y => some (bit (x = y))
  | .ne, x, y => some (bit (x ≠ y))
  | .gt, x, y => some (bit (x > y))
  | .ge, x, y => some (bit (x ≥ y))

inductive Stp where
  | stuck
  | error
  | next (st sl out : List Int)

inductive Res where
  | stuck
  | error (out : List Int)
  | done (out : List Int)

/-- one pair of the code -/
def stp (n : Int) : Op → Int → List Int → List Int → List Int → Stp
  | .push, a, st, sl, out => .next (st ++ [a]) sl out
  | .load, a, st, sl, out => if a < 0 ∨ a ≥ n then .stuck else .next (st ++ [sl.getD a.toNat 0]) sl out
  | .store, a, st, sl, out => if a < 0 ∨ a ≥ n then .stuck else if st.length = 0 then .stuck else .next st.dropLast (sl.set a.toNat (st.getLastD 0)) out
  | .out, _, st, sl, out => if st.length = 0 then .stuck else .next st.dropLast sl (out ++ [st.getLastD 0])
  | .neg, _, st, sl, out => if st.length = 0 then .stuck else .next (st.dropLast ++ [-(st.getLastD 0)]) sl out
  | .not, _, st, sl, out => if st.length = 0 then .stuck else .next (st.dropLast ++ [bit (st.getLastD 0 = 0)]) sl out
  | .bin b, _, st, sl, out => if st.length < 2 then .stuck else
      match b.val (st.dropLast.getLastD 0) (st.getLastD 0) with
      | none => .error
      | some v => .next (st.dropLast.dropLast ++ [v]) sl out
  | .unk _, _, _, _, _ => .stuck

/-- the rest of the code, from a state -/
def runs (n : Int) : List (Op × Int) → List Int → List Int → List Int → Res
  | [], _, _, out => .done out
  | (op, a) :: r, st, sl, out => match stp n op a st sl out with
    | .stuck => .stuck
    | .error => .error out
    | .next st' sl' out' => runs n r st' sl' out'

/-- what a pair of the code is -/
def Fit (p : Op × Int) : Prop := intBits p.2 ≤ 2 ^ 20 ∧ ((p.1 = .load ∨ p.1 = .store) → -3 ≤ p.2 ∧ p.2 ≤ 3)
/-- what holds of the state between two pairs -/
structure Ok (n : Int) (k : Nat) (st sl out : List Int) : Prop where
  bst : ∀ v ∈ st, intBits v ≤ 2 ^ 20
  bsl : ∀ v ∈ sl, intBits v ≤ 2 ^ 20
  lsl : (sl.length : Int) = n
  lst : st.length ≤ k
  lout : out.length ≤ k

theorem lim_over {v : Int} (h : 1000000000000000000 < v) : lim v = none := by
  unfold lim LIM
  exact if_pos (.inl h)
theorem lim_under {v : Int} (h : v < -1000000000000000000) : lim v = none := by
  unfold lim LIM
  exact if_pos (.inr h)
theorem lim_in {v : Int} (h : ¬ 1000000000000000000 < v) (h' : ¬ v < -1000000000000000000) : lim v = some v := by
  unfold lim LIM
  exact if_neg (fun q => q.elim h h')
theorem bit_one {p : Prop} [Decidable p] (h : p) : some (bit p) = some 1 := by
  unfold bit
  rw [if_pos h]
theorem bit_zero {p : Prop} [Decidable p] (h : ¬ p) : some (bit p) = some 0 := by
  unfold bit
  rw [if_neg h]
theorem bits_lim {v r : Int} (h : lim v = some r) : intBits r ≤ 2 ^ 20 := by
  unfold lim at h
  split at h
  · cases h
  · rename_i q
    cases h
    have h64 := intBits_le_64 (k := v) (by unfold LIM at q; omega) (by unfold LIM at q; omega)
    omega
theorem bits_bit {p : Prop} [Decidable p] : intBits (bit p) ≤ 2 ^ 20 := by
  unfold bit
  split <;> decide
theorem Bop.val_bits {b : Bop} {x y r : Int} (h : b.val x y = some r) : intBits r ≤ 2 ^ 20 := by
  cases b <;> simp only [Bop.val] at h
  case add => exact bits_lim h
  case sub => exact bits_lim h
  case mul => exact bits_lim h
  case div => split at h; · cases h
              · exact bits_lim h
  case mod => split at h; · cases h
              · exact bits_lim h
  all_goals (cases h; exact bits_bit)

def Bop.holds : Bop → Option (List Str)
  | .lt => some [Str.ofString "less"]
  | .le => some [Str.ofString "less", Str.ofString "same"]
  | .eq => some [Str.ofString "same"]
  | .ne => some [Str.ofString "less", Str.ofString "more"]
  | .gt => some [Str.ofString "more"]
  | .ge => some [Str.ofString "more", Str.ofString "same"]
  | _ => none

theorem lim_abs_in {v : Int} (h : (if v < 0 then -v else v) ≤ 1000000000000000000) : lim v = some v := by
  refine lim_in ?_ ?_ <;> (split at h <;> omega)
theorem lim_abs_out {v : Int} (h : ¬ (if v < 0 then -v else v) ≤ 1000000000000000000) : lim v = none := by
  split at h
  · exact lim_under (by omega)
  · exact lim_over (by omega)
/-- how two ints lie -/
def relOf (x y : Int) : Str := if x = y then Str.ofString "same" else if x < y then Str.ofString "less" else Str.ofString "more"
theorem relOf_same {x y : Int} (h : x = y) : relOf x y = Str.ofString "same" := if_pos h
theorem relOf_less {x y : Int} (h : x < y) : relOf x y = Str.ofString "less" := by
  unfold relOf
  rw [if_neg (by omega), if_pos h]
theorem relOf_more {x y : Int} (h : ¬ x < y) (h' : ¬ x = y) : relOf x y = Str.ofString "more" := by
  unfold relOf
  rw [if_neg h', if_neg h]
theorem Bop.val_rel {b : Bop} {ys : List Str} (hb : b.holds = some ys) (x y : Int) : b.val x y = some (if ys.any (· == relOf x y) then 1 else 0) := by
  rcases Int.lt_trichotomy x y with h | h | h
  · rw [relOf_less h]
    cases b <;> cases hb
    · exact (bit_one h).trans rfl
    · exact (bit_one (by omega)).trans rfl
    · exact (bit_zero (by omega)).trans rfl
    · exact (bit_one (by omega)).trans rfl
    · exact (bit_zero (by omega)).trans rfl
    · exact (bit_zero (by omega)).trans rfl
  · rw [relOf_same h]
    cases b <;> cases hb
    · exact (bit_zero (by omega)).trans rfl
    · exact (bit_one (by omega)).trans rfl
    · exact (bit_one (by omega)).trans rfl
    · exact (bit_zero (by omega)).trans rfl
    · exact (bit_zero (by omega)).trans rfl
    · exact (bit_one (by omega)).trans rfl
  · rw [relOf_more (by omega) (by omega)]
    cases b <;> cases hb
    · exact (bit_zero (by omega)).trans rfl
    · exact (bit_zero (by omega)).trans rfl
    · exact (bit_zero (by omega)).trans rfl
    · exact (bit_one (by omega)).trans rfl
    · exact (bit_one (by omega)).trans rfl
    · exact (bit_one (by omega)).trans rfl
theorem Bop.val_one {b : Bop} {ys : List Str} {x y : Int} {r : Str} (hb : b.holds = some ys) (hr : relOf x y = r) (h : ys.any (· == r) = true) : b.val x y = some 1 := by
  rw [Bop.val_rel hb, hr, h]
  rfl
theorem Bop.val_zero {b : Bop} {ys : List Str} {x y : Int} {r : Str} (hb : b.holds = some ys) (hr : relOf x y = r) (h : ys.any (· == r) = false) : b.val x y = some 0 := by
  rw [Bop.val_rel hb, hr, h]
  rfl

theorem bin_push (b : Bop) : (b.str == Str.ofString "push") = false := by cases b <;> decide +kernel
theorem bin_load (b : Bop) : (b.str == Str.ofString "load") = false := by cases b <;> decide +kernel
theorem bin_store (b : Bop) : (b.str == Str.ofString "store") = false := by cases b <;> decide +kernel
theorem bin_out (b : Bop) : (b.str == Str.ofString "out") = false := by cases b <;> decide +kernel
theorem bin_neg (b : Bop) : (b.str == Str.ofString "neg") = false := by cases b <;> decide +kernel
theorem bin_not (b : Bop) : (b.str == Str.ofString "not") = false := by cases b <;> decide +kernel
theorem unk_push (u : Unk) : (u.str == Str.ofString "push") = false := by cases u <;> decide +kernel
theorem unk_load (u : Unk) : (u.str == Str.ofString "load") = false := by cases u <;> decide +kernel
theorem unk_store (u : Unk) : (u.str == Str.ofString "store") = false := by cases u <;> decide +kernel
theorem unk_out (u : Unk) : (u.str == Str.ofString "out") = false := by cases u <;> decide +kernel
theorem unk_neg (u : Unk) : (u.str == Str.ofString "neg") = false := by cases u <;> decide +kernel
theorem unk_not (u : Unk) : (u.str == Str.ofString "not") = false := by cases u <;> decide +kernel
theorem bin_jz (b : Bop) : (b.str == Str.ofString "jz") = false := by cases b <;> decide +kernel
theorem unk_jz (u : Unk) : (u.str == Str.ofString "jz") = false := by cases u <;> decide +kernel
theorem bin_jmp (b : Bop) : (b.str == Str.ofString "jmp") = false := by cases b <;> decide +kernel
theorem unk_jmp (u : Unk) : (u.str == Str.ofString "jmp") = false := by cases u <;> decide +kernel
theorem bin_back (b : Bop) : (b.str == Str.ofString "back") = false := by cases b <;> decide +kernel
theorem unk_back (u : Unk) : (u.str == Str.ofString "back") = false := by cases u <;> decide +kernel
theorem getLastD_mem {st : List Int} (h : 0 < st.length) : st.getLastD 0 ∈ st := by
  cases st with
  | nil => exact absurd h (Nat.lt_irrefl _)
  | cons a r =>
    rw [List.getLastD_cons]
    clear h
    induction r generalizing a with
    | nil => exact .head _
    | cons b r ih => rw [List.getLastD_cons]; exact .tail _ (ih b)

theorem runs_stuck {n : Int} {op : Op} {a : Int} {r : List (Op × Int)} {st sl out : List Int} (h : stp n op a st sl out = .stuck) : runs n ((op, a) :: r) st sl out = .stuck := by
  rw [runs, h]
theorem runs_error {n : Int} {op : Op} {a : Int} {r : List (Op × Int)} {st sl out : List Int} (h : stp n op a st sl out = .error) : runs n ((op, a) :: r) st sl out = .error out := by
  rw [runs, h]
theorem runs_next {n : Int} {op : Op} {a : Int} {r : List (Op × Int)} {st sl out st' sl' out' : List Int} (h : stp n op a st sl out = .next st' sl' out') : runs n ((op, a) :: r) st sl out = runs n r st' sl' out' := by
  rw [runs, h]
theorem bits_last {st : List Int} (h : ∀ v ∈ st, intBits v ≤ 2 ^ 20) : intBits (st.getLastD 0) ≤ 2 ^ 20 := by
  cases st with
  | nil => decide
  | cons a r => exact h _ (getLastD_mem (by simp))
theorem bits_drop {st : List Int} (h : ∀ v ∈ st, intBits v ≤ 2 ^ 20) : ∀ v ∈ st.dropLast, intBits v ≤ 2 ^ 20 := fun v hv => h v ((List.dropLast_sublist st).subset hv)
theorem bits_snoc {st : List Int} {x : Int} (h : ∀ v ∈ st, intBits v ≤ 2 ^ 20) (hx : intBits x ≤ 2 ^ 20) : ∀ v ∈ st ++ [x], intBits v ≤ 2 ^ 20 := by
  intro v hv
  rcases List.mem_append.mp hv with hv | hv
  · exact h v hv
  · rw [List.mem_singleton.mp hv]; exact hx
theorem bits_negate {x : Int} (h : intBits x ≤ 2 ^ 20) : intBits (-x) ≤ 2 ^ 20 := by
  have e : intBits (-x) = intBits x := by
    unfold Builtin.Int.intBits
    simp
  rw [e]; exact h
theorem bits_getD {sl : List Int} {i : Nat} (h : ∀ v ∈ sl, intBits v ≤ 2 ^ 20) : intBits (sl.getD i 0) ≤ 2 ^ 20 := by
  rw [List.getD_eq_getElem?_getD]
  cases e : sl[i]? with
  | none => decide
  | some v => exact h v (List.mem_of_getElem? e)
theorem bits_set {sl : List Int} {i : Nat} {x : Int} (h : ∀ v ∈ sl, intBits v ≤ 2 ^ 20) (hx : intBits x ≤ 2 ^ 20) : ∀ v ∈ sl.set i x, intBits v ≤ 2 ^ 20 := by
  intro v hv
  rcases List.mem_or_eq_of_mem_set hv with hv | rfl
  · exact h v hv
  · exact hx
theorem ok_step {n : Int} {k : Nat} {op : Op} {a : Int} {st sl out st' sl' out' : List Int} (h : Ok n k st sl out) (hf : Fit (op, a)) (e : stp n op a st sl out = .next st' sl' out') : Ok n (k + 1) st' sl' out' := by
  obtain ⟨b1, b2, l1, l2, l3⟩ := h
  have hd : st.dropLast.length ≤ k := by rw [List.length_dropLast]; omega
  cases op <;> simp only [stp] at e
  case push => cases e; exact ⟨bits_snoc b1 hf.1, b2, l1, by simp; omega, by omega⟩
  case load =>
    split at e
    · cases e
    · cases e; exact ⟨bits_snoc b1 (bits_getD b2), b2, l1, by simp; omega, by omega⟩
  case store =>
    split at e
    · cases e
    · split at e
      · cases e
      · cases e; exact ⟨bits_drop b1, bits_set b2 (bits_last b1), by rw [List.length_set]; exact l1, by omega, by omega⟩
  case out =>
    split at e
    · cases e
    · cases e; exact ⟨bits_drop b1, b2, l1, by omega, by simp; omega⟩
  case neg =>
    split at e
    · cases e
    · cases e; exact ⟨bits_snoc (bits_drop b1) (bits_negate (bits_last b1)), b2, l1, by rw [List.length_append]; simp; omega, by omega⟩
  case not =>
    split at e
    · cases e
    · cases e; exact ⟨bits_snoc (bits_drop b1) bits_bit, b2, l1, by rw [List.length_append]; simp; omega, by omega⟩
  case bin b =>
    split at e
    · cases e
    · split at e
      · cases e
      · rename_i v hv
        cases e
        refine ⟨bits_snoc (bits_drop (bits_drop b1)) (Bop.val_bits hv), b2, l1, ?_, by omega⟩
        rw [List.length_append, List.length_dropLast]
        simp
        omega
  case unk u => cases e

theorem stp_not1 {n a : Int} {st sl out : List Int} (h : ¬ st.length = 0) (h0 : st.getLastD 0 = 0) : stp n .not a st sl out = .next (st.dropLast ++ [1]) sl out := by
  simp only [stp, bit]
  rw [if_neg h, if_pos h0]
theorem stp_not0 {n a : Int} {st sl out : List Int} (h : ¬ st.length = 0) (h0 : ¬ st.getLastD 0 = 0) : stp n .not a st sl out = .next (st.dropLast ++ [0]) sl out := by
  simp only [stp, bit]
  rw [if_neg h, if_neg h0]
theorem stp_bin {n a v : Int} {b : Bop} {st sl out : List Int} (h : ¬ st.length < 2) (hv : b.val (st.dropLast.getLastD 0) (st.getLastD 0) = some v) : stp n (.bin b) a st sl out = .next (st.dropLast.dropLast ++ [v]) sl out := by
  simp only [stp]
  rw [if_neg h, hv]
theorem stp_binE {n a : Int} {b : Bop} {st sl out : List Int} (h : ¬ st.length < 2) (hv : b.val (st.dropLast.getLastD 0) (st.getLastD 0) = none) : stp n (.bin b) a st sl out = .error := by
  simp only [stp]
  rw [if_neg h, hv]

end Mine

set_option Elab.async false
namespace Mine
open PySem PyProof.Rows

section
variable {prog : Program} {w : World} {A : Around} {E : Value → Shared → Prop} {Q : Flow → Shared → Prop} {s : Shared} {env : Env} {h₀ : Heap}

/-- what a turn of a loop hands on -/
def Turned (s : Shared) (h₀ : Heap) (L : Addr) (it : Addr × Obj) (J : (Str → Option Value) → List (Addr × Obj) → Prop) (Q : Flow → Shared → Prop) (f : Flow) (s₃ : Shared) : Prop :=
  match f with
  | .next => ∃ h' tk' m' news', s₃ = { s with heap := h', toks := tk' } ∧ Fr h₀ L h' m' ∧ News h₀ L h' (it :: news') ∧ J m' news'
  | .cont => ∃ h' tk' m' news', s₃ = { s with heap := h', toks := tk' } ∧ Fr h₀ L h' m' ∧ News h₀ L h' (it :: news') ∧ J m' news'
  | .brk => Q .next s₃
  | .ret v => Q (.ret v) s₃

theorem for_list {l : Addr} {vs : List Value} {target iter : Expr} {body : List Stmt} {pos : Pos} {m : Str → Option Value} {news : List (Addr × Obj)}
    (J : Nat → (Str → Option Value) → List (Addr × Obj) → Prop) (hh : A.handled = none)
    (hev : ∀ Q' : Value → Shared → Prop, Q' (.ref l) s → wpAny (model prog w) A (eval iter env) Q' E s)
    (hl : s.heap.IsList l vs.toArray) (hlk : ∀ m₁ news₁ h I o, Fr h₀ env.locals h m₁ → News h₀ env.locals h ((I, o) :: news₁) → (∃ i, J i m₁ news₁) → h.IsList l vs.toArray)
    (F : Fr h₀ env.locals s.heap m) (N : News h₀ env.locals s.heap news) (hj : J 0 m news)
    (turn : ∀ i v m₁ news₁ h tk I o, vs[i]? = some v → J i m₁ news₁ → Fr h₀ env.locals h m₁ → News h₀ env.locals h ((I, o) :: news₁) → o.cls = .type "list_iterator" → I = s.heap.objs.size →
      wpAny (model prog w) A (assign target env v) (fun _ s₂ => wpAny (model prog w) A (execs body env) (Turned s h₀ env.locals (I, o) (J (i + 1)) Q) E s₂) E { s with heap := h, toks := tk })
    (done : ∀ m₁ news₁ h tk, J vs.length m₁ news₁ → Fr h₀ env.locals h m₁ → News h₀ env.locals h news₁ → Q .next { s with heap := h, toks := tk })
    (hJ : ∀ i m₁ news₁, J i m₁ news₁ → ∀ q ∈ news₁, q.1 ≠ s.heap.objs.size)
    (hrf : ∀ v ∈ vs, ∃ a, v = .ref a)
    (ht : ∃ elts k p, target = .Tuple elts k p)
    (hE : PassesOwn (model prog w) A env E) (hs : ∀ x, foldedSetIterable iter env x = pure x) :
    wpAny (model prog w) A (exec (.For target iter body [] pos) env) Q E s := by
  obtain ⟨elts, kk, tp, rfl⟩ := ht
  refine wpAny_For (hev _ ?_) hs
  refine wpAny_pyIter_list hl ?_
  obtain ⟨ol, hol, _⟩ := id hl
  have hlt : l < s.heap.objs.size := Heap.lt_size hol
  refine codeAny_forLoop_any (fun k s' => ∃ h tk m₁ news₁ i, s' = { s with heap := h, toks := tk } ∧ h.IsListIter s.heap.objs.size l i ∧ Fr h₀ env.locals h m₁ ∧ News h₀ env.locals h news₁ ∧ J i m₁ news₁ ∧ i ≤ vs.length ∧ k = vs.length - i)
    ?_ vs.length ⟨_, s.toks, m, news, 0, rfl, ⟨_, Heap.get?_push_size _ rfl, rfl, rfl⟩, F.push _, fun p hp => ⟨Heap.get?_push_of_some _ (N p hp).1, (N p hp).2⟩, hj, Nat.zero_le _, rfl⟩
  rintro k s' ⟨h, tk, m₁, news₁, i, rfl, hit, F₁, N₁, hJ₁, hi, rfl⟩
  have hL : env.locals < s.heap.objs.size := F.ns.lt
  have hI : ∀ {h' : Heap} {o : Obj} {news₂ : List (Addr × Obj)}, h'.get? s.heap.objs.size = some o → News h₀ env.locals h' news₂ → News h₀ env.locals h' ((s.heap.objs.size, o) :: news₂) := by
    intro h' o news₂ ho N₂ p hp
    rcases List.mem_cons.mp hp with rfl | hp
    · refine ⟨ho, Nat.ne_of_gt hL, ?_⟩
      cases hq : h₀.get? s.heap.objs.size with
      | none => rfl
      | some o' => exact absurd (Heap.lt_size (F.keep _ _ hq)) (Nat.lt_irrefl _)
    · exact N₂ p hp
  obtain ⟨o, ho, hoc, hod⟩ := id hit
  have hls : h.IsList l vs.toArray := hlk m₁ news₁ h _ o F₁ (hI ho N₁) ⟨i, hJ₁⟩
  by_cases hlt' : i < vs.length
  · have hv : vs.toArray[i]? = some vs[i] := by simp [hlt']
    have hv' : vs[i]? = some vs[i] := by simp [hlt']
    refine wpAny_pyNext_list_item hit hls hv fun h₁ hit₁ hs₁ => ?_
    dsimp only
    obtain ⟨a, ha⟩ := hrf vs[i] (List.getElem_mem hlt')
    have F₂ : Fr h₀ env.locals h₁ m₁ := by
      obtain ⟨oL, es, ep, hLg, hLr⟩ := F₁.ns
      refine ⟨⟨oL, es, ep, (hs₁.2 _ (Nat.ne_of_lt hL)).trans hLg, hLr⟩, fun b o' e => (hs₁.2 b fun q => ?_).trans (F₁.keep b o' e), F₁.above⟩
      subst q
      exact absurd (Heap.lt_size (F.keep _ _ e)) (Nat.lt_irrefl _)
    have N₂ : News h₀ env.locals h₁ news₁ := fun p hp => ⟨(hs₁.2 _ (hJ i m₁ news₁ hJ₁ p hp)).trans (N₁ p hp).1, (N₁ p hp).2⟩
    obtain ⟨o₁, ho₁, hoc₁, hod₁⟩ := id hit₁
    rw [ha]
    refine wpAny_letOwnedTupleGo_listiter hit₁ ?_
    rw [← ha]
    refine wpAny_mono (turn i _ m₁ news₁ h₁ tk _ o₁ hv' hJ₁ F₂ (hI ho₁ N₂) hoc₁ rfl) (fun _ s₂ h₂ => ?_) fun e s'' he => hE e s'' he
    refine wpAny_mono h₂ (fun f s₃ h₃ => ?_) fun e s'' he => hE e s'' he
    cases f with
    | ret v => exact h₃
    | brk => exact h₃
    | next =>
      obtain ⟨h', tk', m', news', rfl, F', N', hJ'⟩ := h₃
      exact ⟨_, by omega, h', tk', m', news', i + 1, rfl, ⟨o₁, (N' _ (.head _)).1, hoc₁, hod₁⟩, F', fun p hp => N' p (.tail _ hp), hJ', hlt', rfl⟩
    | cont =>
      obtain ⟨h', tk', m', news', rfl, F', N', hJ'⟩ := h₃
      exact ⟨_, by omega, h', tk', m', news', i + 1, rfl, ⟨o₁, (N' _ (.head _)).1, hoc₁, hod₁⟩, F', fun p hp => N' p (.tail _ hp), hJ', hlt', rfl⟩
  · have hi' : i = vs.length := by omega
    subst hi'
    refine wpAny_pyNext_list_end hh hit hls (by simp) fun h₁ hs₁ => ?_
    dsimp only
    have F₂ : Fr h₀ env.locals h₁ m₁ := by
      obtain ⟨oL, es, ep, hLg, hLr⟩ := F₁.ns
      refine ⟨⟨oL, es, ep, hs₁ _ _ (Nat.ne_of_lt hL) hLg, hLr⟩, fun b o' e => hs₁ b o' (fun q => ?_) (F₁.keep b o' e), F₁.above⟩
      subst q
      exact absurd (Heap.lt_size (F.keep _ _ e)) (Nat.lt_irrefl _)
    have N₂ : News h₀ env.locals h₁ news₁ := fun p hp => ⟨hs₁ _ _ (hJ _ m₁ news₁ hJ₁ p hp) (N₁ p hp).1, (N₁ p hp).2⟩
    exact wpAny_execs_nil (done m₁ news₁ h₁ tk hJ₁ F₂ N₂)
theorem for_range {x : Str} {px : Pos} {iter : Expr} {body : List Stmt} {pos : Pos} {m : Str → Option Value} {news : List (Addr × Obj)} {n : Nat}
    (J : Addr → Nat → (Str → Option Value) → List (Addr × Obj) → Prop) (hh : A.handled = none)
    (hev : wpAny (model prog w) A (eval iter env) (fun v s₁ => ∃ r h₁ tk₁ t u z, v = .ref r ∧ s₁ = { s with heap := h₁, toks := tk₁ } ∧ IsRange h₁ r 0 (n : Int) 1 t u z ∧ Fr h₀ env.locals h₁ m ∧ News h₀ env.locals h₁ news) E s)
    (hn : Builtin.Range.small 0 (n : Int) 1 = true) (hz : Builtin.Range.rangeSize 0 (n : Int) 1 = (n : Int))
    (hj : ∀ I, (∀ p ∈ news, p.1 < I) → J I 0 m news)
    (turn : ∀ I i t m₁ news₁ h tk o, i < n → (∀ p ∈ news, p.1 < I) → J I i m₁ news₁ → Fr h₀ env.locals h (fun y => if y = x then some (.int (i : Int) t) else m₁ y) → News h₀ env.locals h ((I, o) :: news₁) →
      wpAny (model prog w) A (execs body env) (Turned s h₀ env.locals (I, o) (J I (i + 1)) Q) E { s with heap := h, toks := tk })
    (done : ∀ I m₁ news₁ h tk, J I n m₁ news₁ → Fr h₀ env.locals h m₁ → News h₀ env.locals h news₁ → Q .next { s with heap := h, toks := tk })
    (hJ : ∀ I i m₁ news₁, J I i m₁ news₁ → ∀ q ∈ news₁, q.1 ≠ I)
    (hx : env.kindOf x = some .local) (hp : (env.scope.kind == .class || (env.scope.kind == .module && env.locals != env.globals)) = false)
    (hE : PassesOwn (model prog w) A env E) (hs : ∀ x, foldedSetIterable iter env x = pure x) :
    wpAny (model prog w) A (exec (.For (.Name x px) iter body [] pos) env) Q E s := by
  refine wpAny_For (wpAny_mono hev (fun v s₁ hv => ?_) fun _ _ e => e) hs
  obtain ⟨r, h₁, tk₁, t, u, z, rfl, rfl, hr, F, N⟩ := hv
  refine wpAny_pyIter_range hr hn ?_
  have hlt : ∀ p ∈ news, p.1 < h₁.objs.size := fun p hp => Heap.lt_size (N p hp).1
  have hL : env.locals < h₁.objs.size := F.ns.lt
  refine codeAny_forLoop (fun k s' => ∃ h tk m₁ news₁ i, s' = { s with heap := h, toks := tk } ∧ IsRangeIter h h₁.objs.size ((i : Nat) : Int) ((n : Int) - (i : Nat)) 1 ∧ Fr h₀ env.locals h m₁ ∧ News h₀ env.locals h news₁ ∧ J h₁.objs.size i m₁ news₁ ∧ i ≤ n ∧ k = n - i)
    ?_ n ⟨_, tk₁, m, news, 0, rfl, by rw [hz]; simpa [IsRangeIter] using Heap.get?_push_size _ rfl, F.push _, fun p hp => ⟨Heap.get?_push_of_some _ (N p hp).1, (N p hp).2⟩, hj _ hlt, Nat.zero_le _, rfl⟩
  rintro k s' ⟨h, tk, m₁, news₁, i, rfl, hit, F₁, N₁, hJ₁, hi, rfl⟩
  have hI : ∀ {h' : Heap} {o : Obj} {news₂ : List (Addr × Obj)}, h'.get? h₁.objs.size = some o → News h₀ env.locals h' news₂ → News h₀ env.locals h' ((h₁.objs.size, o) :: news₂) := by
    intro h' o news₂ ho N₂ p hp
    rcases List.mem_cons.mp hp with rfl | hp
    · refine ⟨ho, Nat.ne_of_gt hL, ?_⟩
      cases hq : h₀.get? h₁.objs.size with
      | none => rfl
      | some o' => exact absurd (Heap.lt_size (F.keep _ _ hq)) (Nat.lt_irrefl _)
    · exact N₂ p hp
  by_cases hlt' : i < n
  · refine wpAny_pyNext_range_item hit (by omega) fun h₂ hit₂ hs₂ => ?_
    dsimp only
    have F₂ : Fr h₀ env.locals h₂ m₁ := by
      obtain ⟨oL, es, ep, hLg, hLr⟩ := F₁.ns
      refine ⟨⟨oL, es, ep, (hs₂.2 _ (Nat.ne_of_lt hL)).trans hLg, hLr⟩, fun b o' e => (hs₂.2 b fun q => ?_).trans (F₁.keep b o' e), F₁.above⟩
      subst q
      exact absurd (Heap.lt_size (F.keep _ _ e)) (Nat.lt_irrefl _)
    have N₂ : News h₀ env.locals h₂ news₁ := fun p hp => ⟨(hs₂.2 _ (hJ _ i m₁ news₁ hJ₁ p hp)).trans (N₁ p hp).1, (N₁ p hp).2⟩
    obtain ⟨oI, hit₂', hoI⟩ : ∃ o, h₂.get? h₁.objs.size = some o ∧ o = { cls := .type "range_iterator", data := .fields #[rawInt ((i : Int) + 1), rawInt ((n : Int) - (i : Nat) - 1), rawInt 1] } := ⟨_, hit₂, rfl⟩
    refine wpAny_mono (wpAny_assign_Name (wpAny_storeName_local hx F₂.ns (fun h₃ hns hsb => ?_) hp)) (Q := fun _ s₂ => wpAny (model prog w) A (execs body env) (Turned s h₀ env.locals (h₁.objs.size, oI) (J h₁.objs.size (i + 1)) Q) E s₂) (fun _ s₂ h₂ => ?_) fun e s'' he => hE e s'' he
    · exact turn h₁.objs.size i _ m₁ news₁ h₃ _ _ hlt' hlt hJ₁ (F₂.set hns hsb) ((hI hit₂' N₂).set hsb)
    · refine wpAny_mono h₂ (fun f s₃ h₃ => ?_) fun e s'' he => hE e s'' he
      have e1 : ((i : Nat) : Int) + 1 = ((i + 1 : Nat) : Int) := by omega
      have e2 : (n : Int) - (i : Nat) - 1 = (n : Int) - ((i + 1 : Nat) : Int) := by omega
      cases f with
      | ret v => exact h₃
      | brk => exact h₃
      | next =>
        obtain ⟨h', tk', m', news', rfl, F', N', hJ'⟩ := h₃
        refine ⟨_, by omega, h', tk', m', news', i + 1, rfl, ?_, F', fun p hp => N' p (.tail _ hp), hJ', hlt', rfl⟩
        have h9 := (N' _ (.head _)).1
        dsimp only at h9
        rw [hoI] at h9
        rw [← e2, ← e1]
        exact h9
      | cont =>
        obtain ⟨h', tk', m', news', rfl, F', N', hJ'⟩ := h₃
        refine ⟨_, by omega, h', tk', m', news', i + 1, rfl, ?_, F', fun p hp => N' p (.tail _ hp), hJ', hlt', rfl⟩
        have h9 := (N' _ (.head _)).1
        dsimp only at h9
        rw [hoI] at h9
        rw [← e2, ← e1]
        exact h9
  · have hi' : i = n := by omega
    subst hi'
    refine wpAny_pyNext_range_end hh hit (by omega) fun h₂ hs₂ => ?_
    dsimp only
    have F₂ : Fr h₀ env.locals h₂ m₁ := by
      obtain ⟨oL, es, ep, hLg, hLr⟩ := F₁.ns
      refine ⟨⟨oL, es, ep, hs₂ _ _ (Nat.ne_of_lt hL) hLg, hLr⟩, fun b o' e => hs₂ b o' (fun q => ?_) (F₁.keep b o' e), F₁.above⟩
      subst q
      exact absurd (Heap.lt_size (F.keep _ _ e)) (Nat.lt_irrefl _)
    have N₂ : News h₀ env.locals h₂ news₁ := fun p hp => ⟨hs₂ _ _ (hJ _ _ m₁ news₁ hJ₁ p hp) (N₁ p hp).1, (N₁ p hp).2⟩
    exact wpAny_execs_nil (done _ m₁ news₁ h₂ tk hJ₁ F₂ N₂)
end
end Mine

set_option Elab.async false
namespace Mine
open PySem PyProof.Rows
section
variable {prog : Program} {w : World} {A : Around} {E : Value → Shared → Prop} {Q : Flow → Shared → Prop} {s : Shared} {env : Env} {h₀ : Heap}
/-- what a turn leaves: its own name alone is new -/
def Same (s : Shared) (h₀ : Heap) (L : Addr) (m : Str → Option Value) (nx : List (Addr × Obj)) (f : Flow) (s₃ : Shared) : Prop :=
  f = .next ∧ ∃ h' tk', s₃ = { s with heap := h', toks := tk' } ∧ Fr h₀ L h' m ∧ News h₀ L h' nx
/-- what a turn leaves: the ledger stands, and the names as told -/
def Again (s : Shared) (h₀ : Heap) (L : Addr) (J : (Str → Option Value) → Prop) (nx : List (Addr × Obj)) (f : Flow) (s₃ : Shared) : Prop :=
  f = .next ∧ ∃ h' tk' m', s₃ = { s with heap := h', toks := tk' } ∧ J m' ∧ Fr h₀ L h' m' ∧ News h₀ L h' nx
/-- a loop over a list of ints whose body changes nothing but its own name -/
theorem for_items {l : Addr} {vs : List Value} {ns : List Int} {k : Nat} {x : Str} {px : Pos} {iter : Expr} {body : List Stmt} {pos : Pos} {m : Str → Option Value} {news : List (Addr × Obj)} (hh : A.handled = none)
    (hev : wpAny (model prog w) A (eval iter env) (fun v s₁ => ∃ h₁ tk₁, v = .ref l ∧ s₁ = { s with heap := h₁, toks := tk₁ } ∧ Fr h₀ env.locals h₁ m ∧ News h₀ env.locals h₁ news) E s)
    (hl : (l, ({ cls := .type "list", data := .seq vs.toArray k } : Obj)) ∈ news) (hi : IntsAre vs ns)
    (turn : ∀ n t h tk io, Fr h₀ env.locals h (fun y => if y = x then some (.int n t) else m y) → News h₀ env.locals h (io :: news) →
      wpAny (model prog w) A (execs body env) (Same s h₀ env.locals (fun y => if y = x then some (.int n t) else m y) (io :: news)) E { s with heap := h, toks := tk })
    (done : ∀ m₁ h tk, (∀ y, y ≠ x → m₁ y = m y) → Fr h₀ env.locals h m₁ → News h₀ env.locals h news → Q .next { s with heap := h, toks := tk })
    (hx : env.kindOf x = some .local) (hp : (env.scope.kind == .class || (env.scope.kind == .module && env.locals != env.globals)) = false)
    (hE : PassesOwn (model prog w) A env E) (hs : ∀ x, foldedSetIterable iter env x = pure x) :
    wpAny (model prog w) A (exec (.For (.Name x px) iter body [] pos) env) Q E s := by
  refine wpAny_For (wpAny_mono hev (fun v s₁ hv => ?_) fun _ _ e => e) hs
  obtain ⟨h₁, tk₁, rfl, rfl, F, N⟩ := hv
  have hls : h₁.IsList l vs.toArray := ⟨_, (N _ hl).1, rfl, k, rfl⟩
  refine wpAny_pyIter_list hls ?_
  have hlt : ∀ p ∈ news, p.1 < h₁.objs.size := fun p hp => Heap.lt_size (N p hp).1
  have hL : env.locals < h₁.objs.size := F.ns.lt
  refine codeAny_forLoop (fun k s' => ∃ h tk m₁ i, s' = { s with heap := h, toks := tk } ∧ h.IsListIter h₁.objs.size l i ∧ Fr h₀ env.locals h m₁ ∧ News h₀ env.locals h news ∧ (∀ y, y ≠ x → m₁ y = m y) ∧ i ≤ vs.length ∧ k = vs.length - i)
    ?_ vs.length ⟨_, tk₁, m, 0, rfl, ⟨_, Heap.get?_push_size _ rfl, rfl, rfl⟩, F.push _, fun p hp => ⟨Heap.get?_push_of_some _ (N p hp).1, (N p hp).2⟩, fun _ _ => rfl, Nat.zero_le _, rfl⟩
  rintro k s' ⟨h, tk, m₁, i, rfl, hit, F₁, N₁, hm, hi', rfl⟩
  have hI : ∀ {h' : Heap} {o : Obj} {news₂ : List (Addr × Obj)}, h'.get? h₁.objs.size = some o → News h₀ env.locals h' news₂ → News h₀ env.locals h' ((h₁.objs.size, o) :: news₂) := by
    intro h' o news₂ ho N₂ p hp
    rcases List.mem_cons.mp hp with rfl | hp
    · refine ⟨ho, Nat.ne_of_gt hL, ?_⟩
      cases hq : h₀.get? h₁.objs.size with
      | none => rfl
      | some o' => exact absurd (Heap.lt_size (F.keep _ _ hq)) (Nat.lt_irrefl _)
    · exact N₂ p hp
  have hls' : h.IsList l vs.toArray := ⟨_, (N₁ _ hl).1, rfl, _, rfl⟩
  by_cases hlt' : i < vs.length
  · have hv : vs.toArray[i]? = some vs[i] := by simp [hlt']
    have hv' : vs[i]? = some vs[i] := by simp [hlt']
    have hni : i < ns.length := by rw [← hi.length]; exact hlt'
    obtain ⟨t, ht⟩ := hi.get i _ (List.getElem?_eq_getElem hni)
    have hvi : vs[i] = .int ns[i] t := by rw [hv'] at ht; exact Option.some.inj ht
    refine wpAny_pyNext_list_item hit hls' hv fun h₂ hit₂ hs₂ => ?_
    dsimp only
    have F₂ : Fr h₀ env.locals h₂ m₁ := by
      obtain ⟨oL, es, ep, hLg, hLr⟩ := F₁.ns
      refine ⟨⟨oL, es, ep, (hs₂.2 _ (Nat.ne_of_lt hL)).trans hLg, hLr⟩, fun b o' e => (hs₂.2 b fun q => ?_).trans (F₁.keep b o' e), F₁.above⟩
      subst q
      exact absurd (Heap.lt_size (F.keep _ _ e)) (Nat.lt_irrefl _)
    have N₂ : News h₀ env.locals h₂ news := fun p hp => ⟨(hs₂.2 _ (Nat.ne_of_lt (hlt p hp))).trans (N₁ p hp).1, (N₁ p hp).2⟩
    obtain ⟨oI, hoI, hoc, hod⟩ := id hit₂
    rw [hvi]
    refine wpAny_mono (wpAny_assign_Name (wpAny_storeName_local hx F₂.ns (fun h₃ hns hsb => ?_) hp)) (Q := fun _ s₂ => wpAny (model prog w) A (execs body env) (Same s h₀ env.locals (fun y => if y = x then some (.int ns[i] t) else m y) ((h₁.objs.size, oI) :: news)) E s₂) (fun _ s₂ h₂ => ?_) fun e s'' he => hE e s'' he
    · have e9 : (fun y => if y = x then some (Value.int ns[i] t) else m y) = (fun y => if y = x then some (Value.int ns[i] t) else m₁ y) := by
        funext y
        by_cases q : y = x
        · rw [if_pos q, if_pos q]
        · rw [if_neg q, if_neg q, hm y q]
      refine turn ns[i] t h₃ _ (h₁.objs.size, oI) ?_ ((hI hoI N₂).set hsb)
      rw [e9]
      exact F₂.set hns hsb
    · refine wpAny_mono h₂ (fun f s₃ h₃ => ?_) fun e s'' he => hE e s'' he
      obtain ⟨rfl, h', tk', rfl, F', N'⟩ := h₃
      exact ⟨_, by omega, h', tk', _, i + 1, rfl, ⟨oI, (N' _ (.head _)).1, hoc, hod⟩, F', fun p hp => N' p (.tail _ hp), fun y hy => if_neg hy, hlt', rfl⟩
  · have hi9 : i = vs.length := by omega
    subst hi9
    refine wpAny_pyNext_list_end hh hit hls' (by simp) fun h₂ hs₂ => ?_
    dsimp only
    have F₂ : Fr h₀ env.locals h₂ m₁ := by
      obtain ⟨oL, es, ep, hLg, hLr⟩ := F₁.ns
      refine ⟨⟨oL, es, ep, hs₂ _ _ (Nat.ne_of_lt hL) hLg, hLr⟩, fun b o' e => hs₂ b o' (fun q => ?_) (F₁.keep b o' e), F₁.above⟩
      subst q
      exact absurd (Heap.lt_size (F.keep _ _ e)) (Nat.lt_irrefl _)
    have N₂ : News h₀ env.locals h₂ news := fun p hp => ⟨hs₂ _ _ (Nat.ne_of_lt (hlt p hp)) (N₁ p hp).1, (N₁ p hp).2⟩
    exact wpAny_execs_nil (done m₁ h₂ tk hm F₂ N₂)
/-- a loop over a fresh tuple of ints whose body keeps the ledger -/
theorem for_tup {x : Str} {px : Pos} {iter : Expr} {body : List Stmt} {pos : Pos} {m : Str → Option Value} {news : List (Addr × Obj)} (J : (Str → Option Value) → Prop) (hh : A.handled = none)
    (hev : wpAny (model prog w) A (eval iter env) (fun v s₁ => ∃ r h₁ tk₁ k items ns, v = .ref r ∧ s₁ = { s with heap := h₁, toks := tk₁ } ∧ IntsAre items ns ∧ Fr h₀ env.locals h₁ m ∧ News h₀ env.locals h₁ ((r, ({ cls := .type "tuple", data := .seq items.toArray k } : Obj)) :: news)) E s)
    (hj : J m)
    (turn : ∀ n t m₁ h tk io ro, J m₁ → Fr h₀ env.locals h (fun y => if y = x then some (.int n t) else m₁ y) → News h₀ env.locals h (io :: ro :: news) →
      wpAny (model prog w) A (execs body env) (Again s h₀ env.locals J (io :: ro :: news)) E { s with heap := h, toks := tk })
    (done : ∀ m₁ h tk, J m₁ → Fr h₀ env.locals h m₁ → News h₀ env.locals h news → Q .next { s with heap := h, toks := tk })
    (hx : env.kindOf x = some .local) (hp : (env.scope.kind == .class || (env.scope.kind == .module && env.locals != env.globals)) = false)
    (hE : PassesOwn (model prog w) A env E) (hs : ∀ x, foldedSetIterable iter env x = pure x) :
    wpAny (model prog w) A (exec (.For (.Name x px) iter body [] pos) env) Q E s := by
  refine wpAny_For (wpAny_mono hev (fun v s₁ hv => ?_) fun _ _ e => e) hs
  obtain ⟨r, h₁, tk₁, k₁, vs, ns, rfl, rfl, hi, F, N⟩ := hv
  have hls : h₁.IsTuple r vs.toArray := ⟨_, (N _ (.head _)).1, rfl, k₁, rfl⟩
  refine wpAny_pyIter_tuple hls ?_
  have hlt : ∀ p ∈ ((r, ({ cls := .type "tuple", data := .seq vs.toArray k₁ } : Obj)) :: news), p.1 < h₁.objs.size := fun p hp => Heap.lt_size (N p hp).1
  have hL : env.locals < h₁.objs.size := F.ns.lt
  generalize hro : (r, ({ cls := .type "tuple", data := .seq vs.toArray k₁ } : Obj)) = ro at N hlt
  refine codeAny_forLoop (fun k s' => ∃ h tk m₁ i, s' = { s with heap := h, toks := tk } ∧ h.IsTupleIter h₁.objs.size r i ∧ Fr h₀ env.locals h m₁ ∧ News h₀ env.locals h (ro :: news) ∧ J m₁ ∧ i ≤ vs.length ∧ k = vs.length - i)
    ?_ vs.length ⟨_, tk₁, m, 0, rfl, ⟨_, Heap.get?_push_size _ rfl, rfl, rfl⟩, F.push _, fun p hp => ⟨Heap.get?_push_of_some _ (N p hp).1, (N p hp).2⟩, hj, Nat.zero_le _, rfl⟩
  rintro k s' ⟨h, tk, m₁, i, rfl, hit, F₁, N₁, hm, hi', rfl⟩
  have hI : ∀ {h' : Heap} {o : Obj} {news₂ : List (Addr × Obj)}, h'.get? h₁.objs.size = some o → News h₀ env.locals h' news₂ → News h₀ env.locals h' ((h₁.objs.size, o) :: news₂) := by
    intro h' o news₂ ho N₂ p hp
    rcases List.mem_cons.mp hp with rfl | hp
    · refine ⟨ho, Nat.ne_of_gt hL, ?_⟩
      cases hq : h₀.get? h₁.objs.size with
      | none => rfl
      | some o' => exact absurd (Heap.lt_size (F.keep _ _ hq)) (Nat.lt_irrefl _)
    · exact N₂ p hp
  have hls' : h.IsTuple r vs.toArray := by
    have q := (N₁ ro (.head _)).1
    rw [← hro] at q
    exact ⟨_, q, rfl, _, rfl⟩
  by_cases hlt' : i < vs.length
  · have hv : vs.toArray[i]? = some vs[i] := by simp [hlt']
    have hv' : vs[i]? = some vs[i] := by simp [hlt']
    have hni : i < ns.length := by rw [← hi.length]; exact hlt'
    obtain ⟨t, ht⟩ := hi.get i _ (List.getElem?_eq_getElem hni)
    have hvi : vs[i] = .int ns[i] t := by rw [hv'] at ht; exact Option.some.inj ht
    refine wpAny_pyNext_tuple_item hit hls' hv fun h₂ hit₂ hs₂ => ?_
    dsimp only
    have F₂ : Fr h₀ env.locals h₂ m₁ := by
      obtain ⟨oL, es, ep, hLg, hLr⟩ := F₁.ns
      refine ⟨⟨oL, es, ep, (hs₂.2 _ (Nat.ne_of_lt hL)).trans hLg, hLr⟩, fun b o' e => (hs₂.2 b fun q => ?_).trans (F₁.keep b o' e), F₁.above⟩
      subst q
      exact absurd (Heap.lt_size (F.keep _ _ e)) (Nat.lt_irrefl _)
    have N₂ : News h₀ env.locals h₂ (ro :: news) := fun p hp => ⟨(hs₂.2 _ (Nat.ne_of_lt (hlt p hp))).trans (N₁ p hp).1, (N₁ p hp).2⟩
    obtain ⟨oI, hoI, hoc, hod⟩ := id hit₂
    rw [hvi]
    refine wpAny_mono (wpAny_assign_Name (wpAny_storeName_local hx F₂.ns (fun h₃ hns hsb => ?_) hp)) (Q := fun _ s₂ => wpAny (model prog w) A (execs body env) (Again s h₀ env.locals J ((h₁.objs.size, oI) :: ro :: news)) E s₂) (fun _ s₂ h₂ => ?_) fun e s'' he => hE e s'' he
    · exact turn ns[i] t m₁ h₃ _ (h₁.objs.size, oI) ro hm (F₂.set hns hsb) ((hI hoI N₂).set hsb)
    · refine wpAny_mono h₂ (fun f s₃ h₃ => ?_) fun e s'' he => hE e s'' he
      obtain ⟨rfl, h', tk', m', rfl, hJ', F', N'⟩ := h₃
      exact ⟨_, by omega, h', tk', _, i + 1, rfl, ⟨oI, (N' _ (.head _)).1, hoc, hod⟩, F', fun p hp => N' p (.tail _ hp), hJ', hlt', rfl⟩
  · have hi9 : i = vs.length := by omega
    subst hi9
    refine wpAny_pyNext_tuple_end hh hit hls' (by simp) fun h₂ hs₂ => ?_
    dsimp only
    have F₂ : Fr h₀ env.locals h₂ m₁ := by
      obtain ⟨oL, es, ep, hLg, hLr⟩ := F₁.ns
      refine ⟨⟨oL, es, ep, hs₂ _ _ (Nat.ne_of_lt hL) hLg, hLr⟩, fun b o' e => hs₂ b o' (fun q => ?_) (F₁.keep b o' e), F₁.above⟩
      subst q
      exact absurd (Heap.lt_size (F.keep _ _ e)) (Nat.lt_irrefl _)
    have N₂ : News h₀ env.locals h₂ news := fun p hp => ⟨hs₂ _ _ (Nat.ne_of_lt (hlt p (.tail _ hp))) (N₁ p (.tail _ hp)).1, (N₁ p (.tail _ hp)).2⟩
    exact wpAny_execs_nil (done m₁ h₂ tk hm F₂ N₂)
end
end Mine

set_option Elab.async false
namespace Mine
open PySem PyProof.Rows

section
variable {prog : Program} {w : World} {A : Around} {E : Value → Shared → Prop} {s : Shared} {h₀ : Heap} {m : Str → Option Value} {name : Str} {scope : Scope} {L a : Addr} {cd : Value}

theorem execs_one {M : Model} {env : Env} {st : Stmt} {Q : Flow → Shared → Prop} (h : wpAny M A (exec st env) Q E s) : wpAny M A (execs [st] env) Q E s := by
  refine wpAny_execs_cons (wpAny_mono h (fun f s' q => ?_) fun _ _ x => x)
  cases f with
  | next => exact wpAny_execs_nil q
  | _ => exact q

/-- `x == 'lit'` of a local text -/
theorem test_str {x lit y : Str} {t : Tok} {p1 p2 p3 : Pos} {k : Nat} {whole : Sem Value} {Q : Bool → Shared → Prop} (F : Fr h₀ L s.heap m) (hv : m x = some (.str y t)) (h : Q (y == lit) { s with toks := s.toks + 1 })
    (hk : scope.kind = .function) (hl : (envOf name scope L a cd).kindOf x = some .local) (hd : (x == ("__debug__" : Str)) = false) :
    wpAny (model prog w) A (isTrue (.Compare (.Name x p1) [.Eq] [.Constant (.str lit) k p2] p3) (envOf name scope L a cd) whole) Q E s :=
  wpAny_isTrue_Compare1 (ld F hv (wpAny_Constant_str (eq_str (wpAny_truthy_bool h))) hk hl hd) rfl

theorem if_str {x lit y : Str} {t : Tok} {p1 p2 p3 p4 : Pos} {k : Nat} {body orelse : List Stmt} {Q : Flow → Shared → Prop} (F : Fr h₀ L s.heap m) (hv : m x = some (.str y t)) (c : Bool) (hc : (y == lit) = c)
    (h : wpAny (model prog w) A (execs (bif c then body else orelse) (envOf name scope L a cd)) Q E { s with toks := s.toks + 1 })
    (hk : scope.kind = .function) (hl : (envOf name scope L a cd).kindOf x = some .local) (hd : (x == ("__debug__" : Str)) = false) :
    wpAny (model prog w) A (exec (.If (.Compare (.Name x p1) [.Eq] [.Constant (.str lit) k p2] p3) body orelse p4) (envOf name scope L a cd)) Q E s := by
  refine wpAny_If (test_str F hv ?_ hk hl hd)
  rw [hc]
  cases c <;> exact h

theorem chain_str {x lit y : Str} {t : Tok} {p1 p2 p3 p4 : Pos} {k : Nat} {body orelse : List Stmt} {Q : Flow → Shared → Prop} (F : Fr h₀ L s.heap m) (hv : m x = some (.str y t)) (c : Bool) (hc : (y == lit) = c)
    (h : wpAny (model prog w) A (execs (bif c then body else orelse) (envOf name scope L a cd)) Q E { s with toks := s.toks + 1 })
    (hk : scope.kind = .function) (hl : (envOf name scope L a cd).kindOf x = some .local) (hd : (x == ("__debug__" : Str)) = false) :
    wpAny (model prog w) A (execs [.If (.Compare (.Name x p1) [.Eq] [.Constant (.str lit) k p2] p3) body orelse p4] (envOf name scope L a cd)) Q E s :=
  execs_one (if_str F hv c hc h hk hl hd)
end
end Mine

set_option Elab.async false
namespace Mine
open PySem

theorem gather (f : (Option (Sem Value) × Sem Value) → (Option Addr × List (Sem Value × Sem Value)) → Sem (ForInStep (Option Addr × List (Sem Value × Sem Value))))
    (hf : ∀ (p : Sem Value × Sem Value) (run : List (Sem Value × Sem Value)), run.length + 1 < 17 → f (some p.1, p.2) (none, run) = pure (.yield (none, run ++ [p]))) (tail : List (Option (Sem Value) × Sem Value)) :
    ∀ (items run : List (Sem Value × Sem Value)), run.length + items.length < 17 → forIn ((items.map fun p => (some p.1, p.2)) ++ tail) ((none : Option Addr), run) f = forIn tail ((none : Option Addr), run ++ items) f
  | [], run, _ => by simp
  | p :: rest, run, h => by
    rw [List.map_cons, List.cons_append, List.forIn_cons, hf p run (by simp at h; omega), pure_bind]
    have := gather f hf tail rest (run ++ [p]) (by simp at h ⊢; omega)
    simpa using this

theorem dictDisplay_17 (init : List (Sem Value × Sem Value)) (last : Sem Value × Sem Value) (hlen : init.length = 16) :
    dictDisplay ((init ++ [last]).map fun p => (some p.1, p.2)) = (do let d ← subDict (init ++ [last]); pure (.ref d)) := by
  unfold dictDisplay
  dsimp only
  rw [List.map_append, gather _ (fun p run h => by
    have hne : ((run ++ [(p.1, p.2)]).length == 17) = false := by simp; omega
    simp only [hne, Bool.false_eq_true, if_false]) _ init [] (by simp; omega)]
  have h17 : ((init ++ [last]).length == 17) = true := by simp [hlen]
  rw [List.nil_append, List.map_cons, List.map_nil, List.forIn_cons]
  simp [hlen]

/-- trees of written texts and ints -/
inductive Trees (M : Model) (A : Around) : List (Sem Value × Sem Value) → List (Str × Int) → Prop
  | nil : Trees M A [] []
  | cons {k v : Sem Value} {x : Str} {n : Int} {r l} (hk : ∀ E (s : Shared) (Q : Value → Shared → Prop), Q (.str x s.toks) { s with toks := s.toks + 1 } → wpAny M A k Q E s)
      (hv : ∀ E (s : Shared) (Q : Value → Shared → Prop), Q (.int n s.toks) { s with toks := s.toks + 1 } → wpAny M A v Q E s) (h : Trees M A r l) : Trees M A ((k, v) :: r) ((x, n) :: l)

/-- the pairs as the dict holds them -/
inductive Held : List (Str × Int) → List (Str × Value) → Prop
  | nil : Held [] []
  | cons (x : Str) (n : Int) (t : Tok) {l r} (h : Held l r) : Held ((x, n) :: l) ((x, .int n t) :: r)
theorem Held.append {l r l' r'} (h : Held l r) (h' : Held l' r') : Held (l ++ l') (r ++ r') := by
  induction h with
  | nil => exact h'
  | cons x n t _ ih => exact .cons x n t ih
theorem Held.keys {l r} (h : Held l r) : r.map (·.1) = l.map (·.1) := by
  induction h with
  | nil => rfl
  | cons x n t _ ih => simp [ih]
theorem Held.look {l r} (h : Held l r) (x : Str) : ∀ n, (l.find? fun p => p.1 = x).map (·.2) = some n → ∃ t, valueAt r x = some (.int n t) := by
  induction h with
  | nil => intro n e; cases e
  | cons y k t _ ih =>
    intro n e
    unfold valueAt
    simp only [List.find?_cons] at e ⊢
    by_cases hy : y = x
    · simp only [hy, decide_true, Option.map_some] at e ⊢
      cases e
      exact ⟨t, rfl⟩
    · simp only [hy, decide_false] at e ⊢
      exact ih n e
theorem Held.miss {l r} (h : Held l r) (x : Str) (hx : (l.find? fun p => p.1 = x) = none) : valueAt r x = none := by
  induction h with
  | nil => rfl
  | cons y k t _ ih =>
    unfold valueAt
    simp only [List.find?_cons] at hx ⊢
    by_cases hy : y = x
    · simp [hy] at hx
    · simp only [hy, decide_false] at hx ⊢
      exact ih hx

theorem stored_new {kvs : List (Str × Value)} {k : Str} {v : Value} (h : k ∉ kvs.map (·.1)) : stored kvs k v = kvs ++ [(k, v)] := by
  unfold stored
  rw [if_neg]
  intro q
  obtain ⟨p, hp, e⟩ := List.any_eq_true.mp q
  exact h (List.mem_map.mpr ⟨p, hp, of_decide_eq_true e⟩)

section
variable {prog : Program} {w : World} {A : Around} {E : Value → Shared → Prop} {s : Shared}

theorem subDict_long {pairs : List (Sem Value × Sem Value)} {l : List (Str × Int)} {Q : Addr → Shared → Prop} (hT : Trees (model prog w) A pairs l) (hlen : 15 < pairs.length) (hnd : (l.map (·.1)).Nodup) (hl : l.length ≤ 100)
    (h : ∀ h' tk kvs, Held l kvs → h'.DictOf (strKind prog w) s.heap.objs.size kvs → Heap.SameBut s.heap.objs.size (s.heap.push { cls := .type "dict", data := .dict #[] }) h' → Q s.heap.objs.size { s with heap := h', toks := tk }) :
    wpAny (model prog w) A (subDict pairs) Q E s := by
  unfold subDict
  refine wpAny_bind (wpAny_alloc ?_)
  refine wpAny_bind (wpAny_holding ?_)
  rw [if_neg (by omega)]
  refine wpAny_bind (wpAny_rule ?_)
  refine wpAny_bind (wpAny_forIn_list _ (fun rest _ s' => ∃ done todo kvs h' tk, l = done ++ todo ∧ Trees (model prog w) A rest todo ∧ s' = { s with heap := h', toks := tk } ∧ Held done kvs ∧ h'.DictOf (strKind prog w) s.heap.objs.size kvs ∧ Heap.SameBut s.heap.objs.size (s.heap.push { cls := .type "dict", data := .dict #[] }) h') _ ?_ ?_ pairs _
    ⟨[], l, [], _, s.toks, rfl, hT, rfl, .nil, Heap.DictOf.new s.heap, Heap.SameBut.refl ..⟩)
  · rintro ⟨k, v⟩ rest _ s' ⟨done, todo, kvs, h', tk, e, T, rfl, H, hD, hS⟩
    cases T with
    | @cons _ _ x n _ todo' hk hv T =>
      refine wpAny_bind (hk _ _ _ (wpAny_bind (wpAny_holding (hv _ _ _ (wpAny_bind (wpAny_holding ?_))))))
      have hkeys := H.keys
      have hx : x ∉ kvs.map (·.1) := by
        rw [hkeys]
        rw [e, List.map_append, List.map_cons, List.nodup_append] at hnd
        intro q
        exact hnd.2.2 _ q _ (.head _) rfl
      have hle : kvs.length ≤ sizeLine := by
        have e1 : kvs.length = done.length := by
          have := congrArg List.length hkeys
          simpa using this
        have e2 : done.length ≤ l.length := by rw [e]; simp
        rw [sizeLine_eq]; omega
      refine wpAny_dictSet_pairs (knd := strKind prog w) (hsz := hle) (strKind_is prog w x _) hD fun h₁ hD₁ hS₁ => wpAny_pure ?_
      rw [stored_new hx] at hD₁
      exact ⟨done ++ [(x, n)], todo', kvs ++ [(x, .int n _)], h₁, _, by rw [e]; simp, T, rfl, H.append (.cons x n _ .nil), hD₁, hS.trans hS₁⟩
  · rintro _ s' ⟨done, todo, kvs, h', tk, e, T, rfl, H, hD, hS⟩
    cases T
    rw [List.append_nil] at e
    subst e
    exact wpAny_pure (wpAny_pure (h h' tk kvs H hD hS))

theorem dict_17 {env : Env} {keys : List (Option Expr)} {values : List Expr} {pos : Pos} {l : List (Str × Int)} {Q : Value → Shared → Prop} (hT : Trees (model prog w) A (pairTrees keys values env pos) l)
    (hall : keys.all (·.isSome) = true) (hl : keys.length = values.length) (h17 : keys.length = 17) (hnd : (l.map (·.1)).Nodup) (hl' : l.length ≤ 100)
    (h : ∀ h' tk kvs, Held l kvs → h'.DictOf (strKind prog w) s.heap.objs.size kvs → Heap.SameBut s.heap.objs.size (s.heap.push { cls := .type "dict", data := .dict #[] }) h' → Q (.ref s.heap.objs.size) { s with heap := h', toks := tk }) :
    wpAny (model prog w) A (eval (.Dict keys values pos) env) Q E s := by
  have hn := pairTrees_length keys values env pos hall hl
  rw [arm_eval_Dict, zip_pairTrees keys values env pos hall hl]
  refine wpAny_bind (wpAny_standAt ?_)
  generalize pairTrees keys values env pos = pairs at hT hn
  have hne : pairs ≠ [] := by
    intro q
    rw [q] at hn
    simp at hn
    omega
  rw [← List.dropLast_concat_getLast hne, dictDisplay_17 _ _ (by rw [List.length_dropLast]; omega), List.dropLast_concat_getLast hne]
  refine wpAny_bind (subDict_long hT (by omega) hnd hl' fun h' tk kvs a b c => wpAny_pure (h h' tk kvs a b c))
end
end Mine

open PySem PySem.W PyProof.Rows
set_option Elab.async false
set_option maxRecDepth 100000
set_option maxHeartbeats 8000000
namespace Mine
open_top hd for PySem.Challenge.rw_pd_asmalltoolchain_2_02
end Mine

open PySem PySem.W PyProof.Rows
open PySem.Builtin.Int (intBits)
set_option Elab.async false
set_option maxRecDepth 100000
set_option maxHeartbeats 8000000
namespace Mine
local macro_rules | `(tactic| walk_at $s:str) => `(tactic| k_extra $s)

theorem apply_ok (w : World) (loose : List Str) (mean : ExcName → Option Value) (mg mb : Str → Option Value) (b : Bop) (x y : Int) (t0 t1 t2 : Tok) (hx : intBits x ≤ 2 ^ 20) (hy : intBits y ≤ 2 ^ 20)
    (dp un : Nat) (gd : Option (List Code)) (cn : Str) (cs : Scope) (a : Addr) (ccd : Value) (outer : List Env) (A₀ : Around) (base h₀ : Heap) (L : Addr) (m : Str → Option Value) (news : List (Addr × Obj)) (s : Shared) (Q E : Value → Shared → Prop)
    (B : Below A₀ base outer h₀) (F : Fr h₀ L s.heap m) (X : (Mine.hd.heap_39 w.params).In h₀) (N : News h₀ L s.heap news) (T : Top Mine.hd.view_39 loose mean mg mb h₀) (hk : cs.kind = .function) (hd : dp + 200 < recursionLimit) (hu : un + 8 < cLine)
    (hret : ∀ v t h' tk', b.val x y = some v → Fr h₀ L h' m → News h₀ L h' news → Q (.int v t) { s with heap := h', toks := tk' })
    (hraise : ∀ e t vs g h' tk', b.val x y = none → Fr h₀ L g m → RaisedS base g (envOf cn cs L a ccd :: outer) e (.ref 24) t vs news h' → g.UpToSlots h' → E (.ref e) { s with heap := h', toks := tk' }) :
    wpAny (model Challenge.rw_pd_asmalltoolchain_2_02.row.prog w) (ktrTop dp un gd cn cs L a ccd [] outer) (call (.ref 49) [.str b.str t0, .int x t1, .int y t2]) Q E s := by
  k_with_none
  k_with "binaryOp Mult int int" => (refine mul_int ?_ (IntMulOk.of_bits (by assumption) (by assumption)))
  k_with "binaryOp FloorDiv int int" => (refine floordiv_int ?kzW ?_ (Or.inr (PySem.PylongRoom.of (PySem.Heap.NoLimit.keeps (Top.nolimit (by assumption)) (Fr.keep (by assumption))) ?kdW)); (case kzW => first | assumption | omega); (case kdW => ((simp only [depth_deeper]); (try dsimp only [ktrTop]); (simp only [Builtin.pylongFrames, recursionLimit] at *); omega)))
  w_top off; revert X; k_fill; intro X
  have kdD : KtsDicts [] h₀ := ktsDicts_nil
  refine wpAny_call ?_
  cases b
  all_goals (
    dsimp only [Bop.str]
    k_dflt cell_enter
    k_steps)
  all_goals (try clear qk ek)
  all_goals (first
    | (refine hret _ _ _ _ ?_ (by assumption) (by assumption); first
      | exact lim_in (by assumption) (by assumption)
      | exact (if_neg (by assumption)).trans (lim_in (by assumption) (by assumption))
      | exact bit_one (by omega)
      | exact bit_zero (by omega))
    | (refine hraise _ _ _ _ _ _ ?_ (by assumption) (by assumption) (by assumption); first
      | exact lim_over (by assumption)
      | exact lim_under (by assumption)
      | exact (if_neg (by assumption)).trans (lim_over (by assumption))
      | exact (if_neg (by assumption)).trans (lim_under (by assumption))
      | exact if_pos (by assumption)))
end Mine

open PySem PySem.W PyProof.Rows
open PySem.Builtin.Int (intBits)
set_option Elab.async false
set_option maxRecDepth 100000
set_option maxHeartbeats 8000000
namespace Mine

def needsL : List (Str × Int) := [(Str.ofString "push", 0), (Str.ofString "load", 0), (Str.ofString "store", 1), (Str.ofString "out", 1), (Str.ofString "neg", 1), (Str.ofString "not", 1), (Str.ofString "+", 2), (Str.ofString "-", 2), (Str.ofString "*", 2), (Str.ofString "//", 2), (Str.ofString "%", 2), (Str.ofString "<", 2), (Str.ofString "<=", 2), (Str.ofString "==", 2), (Str.ofString "!=", 2), (Str.ofString ">", 2), (Str.ofString ">=", 2)]

theorem needs_nodup : (needsL.map (·.1)).Nodup := by decide +kernel
theorem needs_len : needsL.length ≤ 100 := by decide
theorem needs_ok (w : World) (loose : List Str) (mean : ExcName → Option Value) (mg mb : Str → Option Value)
    (dp un : Nat) (gd : Option (List Code)) (cn : Str) (cs : Scope) (a : Addr) (ccd : Value) (outer : List Env) (A₀ : Around) (base h₀ : Heap) (L : Addr) (m : Str → Option Value) (news : List (Addr × Obj)) (s : Shared) (Q E : Value → Shared → Prop)
    (B : Below A₀ base outer h₀) (F : Fr h₀ L s.heap m) (X : (Mine.hd.heap_39 w.params).In h₀) (N : News h₀ L s.heap news) (T : Top Mine.hd.view_39 loose mean mg mb h₀) (hk : cs.kind = .function) (hd : dp + 200 < recursionLimit) (hu : un + 80 < cLine)
    (hret : ∀ d o kvs h' tk', Held needsL kvs → o.IsDictOf (strKind Challenge.rw_pd_asmalltoolchain_2_02.row.prog w) kvs → (d == sysModules) = false → (∀ p ∈ news, p.1 < d) → Fr h₀ L h' m → News h₀ L h' ((d, o) :: news) → Q (.ref d) { s with heap := h', toks := tk' }) :
    wpAny (model Challenge.rw_pd_asmalltoolchain_2_02.row.prog w) (ktrTop dp un gd cn cs L a ccd [] outer) (call (.ref 81) []) Q E s := by
  k_with_none
  w_top off; revert X; k_fill; intro X
  refine wpAny_call ?_
  k_dflt cell_enter
  rename_i g' L' h' FG' F' N' B' X' T'
  with_reducible refine execs_one ?_
  with_reducible refine wpAny_Return_some ?_
  refine dict_17 (l := needsL) ?kT ?ka ?kb ?kc ?kd ?ke ?_
  case ka => exact rfl
  case kb => exact rfl
  case kc => exact rfl
  case kd => exact needs_nodup
  case ke => exact needs_len
  case kT =>
    repeat (refine Trees.cons (fun _ _ _ h => wpAny_Constant_str h) (fun _ _ _ h => wpAny_bind (wpAny_Constant_int (wpAny_bind (wpAny_standAt (wpAny_pure h))))) ?_)
    exact Trees.nil
  · intro h'' tk kvs hH hD hS
    have hkp : ∀ b o, h'.get? b = some o → h''.get? b = some o := fun b o e => (hS.2 b (Nat.ne_of_lt (Heap.lt_size e))).trans (Heap.get?_push_of_some _ e)
    obtain ⟨o, ho, hod⟩ := Heap.dictOf_iff.mp hD
    refine leaveK_ (F'.keeps hkp) (news_pushed (s := { s with heap := h', toks := s.toks }) F' N' hkp ho rfl) fun kF kN => ?_
    exact hret _ o kvs h'' tk hH hod (F'.notModules (modules_low T'.nolimit)) (fun p hp => Heap.lt_size (N' p hp).1) kF kN
end Mine

open PySem PySem.W PyProof.Rows
open PySem.Builtin.Int (intBits)
set_option Elab.async false
set_option maxRecDepth 100000
set_option maxHeartbeats 8000000
namespace Mine
local macro_rules | `(tactic| walk_at $s:str) => `(tactic| k_extra $s)
/-- what the table of relations says -/
structure HoldsAt (kvs : List (Str × Value)) (tl : List (Addr × Obj)) : Prop where
  miss : ∀ b : Bop, b.holds = none → valueAt kvs b.str = none
  hit : ∀ (b : Bop) ys, b.holds = some ys → ∃ t vs n, valueAt kvs b.str = some (.ref t) ∧ (t, ({ cls := .type "tuple", data := .seq vs.toArray n } : Obj)) ∈ tl ∧ StrsAre vs ys
theorem holds_ok (w : World) (loose : List Str) (mean : ExcName → Option Value) (mg mb : Str → Option Value)
    (dp un : Nat) (gd : Option (List Code)) (cn : Str) (cs : Scope) (a : Addr) (ccd : Value) (outer : List Env) (A₀ : Around) (base h₀ : Heap) (L : Addr) (m : Str → Option Value) (news : List (Addr × Obj)) (s : Shared) (Q E : Value → Shared → Prop)
    (B : Below A₀ base outer h₀) (F : Fr h₀ L s.heap m) (X : (Mine.hd.heap_39 w.params).In h₀) (N : News h₀ L s.heap news) (T : Top Mine.hd.view_39 loose mean mg mb h₀) (hk : cs.kind = .function) (hd : dp + 200 < recursionLimit) (hu : un + 80 < cLine)
    (hret : ∀ (d : Addr) o kvs tl h' tk', HoldsAt kvs tl → o.IsDictOf (strKind Challenge.rw_pd_asmalltoolchain_2_02.row.prog w) kvs → (d, o) ∈ tl → (d == sysModules) = false → Fr h₀ L h' m → News h₀ L h' (tl ++ news) → Q (.ref d) { s with heap := h', toks := tk' }) :
    wpAny (model Challenge.rw_pd_asmalltoolchain_2_02.row.prog w) (ktrTop dp un gd cn cs L a ccd [] outer) (call (.ref 88) []) Q E s := by
  k_with_none
  k_with "newTuple" => (k_dflt (refine' kup_newTuple ?FW ?NW ?_ ?zW; (case FW => k_asm); (case NW => k_asm); (case zW => kmk_size)); intro D' h' F' N' l1; (try k_lt l1))
  w_top off; revert X; k_fill; intro X
  refine wpAny_call ?_
  k_dflt cell_enter
  with_reducible refine execs_one ?_
  with_reducible refine wpAny_Return_some ?_
  refine' kdn_str ?q ?F ?N ?b ?a ?l ?e ?n ?_
  case q => rfl
  case F => k_asm
  case N => k_asm
  case b => exact Top.nolimit (by k_asm)
  case a => rfl
  case l => rfl
  case e => exact List.cons_ne_nil _ _
  case n => exact Nat.le_of_ble_eq_true rfl
  intro d' h' o' F' N' hnews lo' hd'
  k_steps
  refine' hret d' _ _ [_, _, _, _, _, _, _] _ _ ?kH ?kD ?kM lo' ?kF ?kN
  case kF => assumption
  case kN => assumption
  case kD => assumption
  case kM => exact .tail _ (.tail _ (.tail _ (.tail _ (.tail _ (.tail _ (.head _))))))
  case kH =>
    refine ⟨fun b hb => ?_, fun b ys hb => ?_⟩
    · cases b <;> first | (exfalso; cases hb; done) | rfl
    · cases b <;> first | (exfalso; cases hb; done) | skip
      · cases hb; exact ⟨_, [_], 0, rfl, .tail _ (.tail _ (.tail _ (.tail _ (.tail _ (.head _))))), .cons _ _ .nil⟩
      · cases hb; exact ⟨_, [_, _], 0, rfl, .tail _ (.tail _ (.tail _ (.tail _ (.head _)))), .cons _ _ (.cons _ _ .nil)⟩
      · cases hb; exact ⟨_, [_], 0, rfl, .tail _ (.tail _ (.tail _ (.head _))), .cons _ _ .nil⟩
      · cases hb; exact ⟨_, [_, _], 0, rfl, .tail _ (.tail _ (.head _)), .cons _ _ (.cons _ _ .nil)⟩
      · cases hb; exact ⟨_, [_], 0, rfl, .tail _ (.head _), .cons _ _ .nil⟩
      · cases hb; exact ⟨_, [_, _], 0, rfl, .head _, .cons _ _ (.cons _ _ .nil)⟩
end Mine

open PySem PySem.W PyProof.Rows
open PySem.Builtin.Int (intBits)
set_option Elab.async false
set_option maxRecDepth 100000
set_option maxHeartbeats 8000000
namespace Mine
local macro_rules | `(tactic| walk_at $s:str) => `(tactic| k_extra $s)
section
variable {prog : Program} {w : World} {A : Around} {E : Value → Shared → Prop} {s : Shared} {h₀ : Heap} {L d : Addr} {news : List (Addr × Obj)} {o : Obj} {kvs : List (Str × Value)} {x : Str} {t : Tok} {Q : Value → Shared → Prop}
theorem dict_map (N : News h₀ L s.heap news) (hm : (d, o) ∈ news) (hD : o.IsDictOf (strKind prog w) kvs) : s.heap.MapOf (strKind prog w) d (valueAt kvs) := Heap.DictOf.mapOf (Heap.dictOf_iff.mpr ⟨o, (N _ hm).1, hD⟩)
theorem in_dict (N : News h₀ L s.heap news) (hm : (d, o) ∈ news) (hD : o.IsDictOf (strKind prog w) kvs) (hlo : (d == sysModules) = false) {r : Option Value} (hv : valueAt kvs x = r)
    (h : Q (.bool r.isSome) { s with toks := s.toks + 1 }) : wpAny (model prog w) A (compareOp .In (.str x t) (.ref d)) Q E s := by
  subst hv
  exact wpAny_in_of (strKind_is prog w x t) hlo (dict_map N hm hD) h
theorem notIn_dict (N : News h₀ L s.heap news) (hm : (d, o) ∈ news) (hD : o.IsDictOf (strKind prog w) kvs) (hlo : (d == sysModules) = false) {r : Option Value} (hv : valueAt kvs x = r)
    (h : Q (.bool (!r.isSome)) { s with toks := s.toks + 1 }) : wpAny (model prog w) A (compareOp .NotIn (.str x t) (.ref d)) Q E s := by
  subst hv
  exact wpAny_notIn_of (strKind_is prog w x t) hlo (dict_map N hm hD) h
theorem item_dict {value slice : Expr} {v : Value} (N : News h₀ L s.heap news) (hm : (d, o) ∈ news) (hD : o.IsDictOf (strKind prog w) kvs) (hv : valueAt kvs x = some v)
    (h : Q v { s with toks := s.toks + 1 })
    (hs : subscripted slice false (.ref d) (.str x t) = operate [.ref d, .str x t] (getItem (.ref d) (.str x t)) := by with_unfolding_all rfl) :
    wpAny (model prog w) A (subscriptTail value slice (.ref d) (.str x t)) Q E s :=
  have hM := dict_map N hm hD
  tail_any hM.typeIs slot_dict_getitem.lookup (wpAny_getItem_of (strKind_is prog w x t) hM hv h) hs
end
local macro_rules | `(tactic| k_room) => `(tactic| ktr_room)

theorem lawbin_ok (b : Bop) (x y : Int) (t0 t1 t2 : Tok) (hx : intBits x ≤ 2 ^ 20) (hy : intBits y ≤ 2 ^ 20) (w : World) (loose : List Str) (mean : ExcName → Option Value) (mg mb : Str → Option Value)
    (dp un : Nat) (gd : Option (List Code)) (cn : Str) (cs : Scope) (a : Addr) (ccd : Value) (outer : List Env) (A₀ : Around) (base h₀ : Heap) (L : Addr) (m : Str → Option Value) (news : List (Addr × Obj)) (s : Shared) (Q E : Value → Shared → Prop)
    (B : Below A₀ base outer h₀) (F : Fr h₀ L s.heap m) (X : (Mine.hd.heap_39 w.params).In h₀) (N : News h₀ L s.heap news) (T : Top Mine.hd.view_39 loose mean mg mb h₀) (hk : cs.kind = .function) (hd : dp + 210 < recursionLimit) (hu : un + 90 < cLine)
    (hsome : ∀ v t h' tk', b.val x y = some v → Fr h₀ L h' m → News h₀ L h' news → Q (.int v t) { s with heap := h', toks := tk' })
    (hnone : ∀ h' tk', b.val x y = none → Fr h₀ L h' m → News h₀ L h' news → Q .none { s with heap := h', toks := tk' }) :
    wpAny (model Challenge.rw_pd_asmalltoolchain_2_02.row.prog w) (ktrTop dp un gd cn cs L a ccd [] outer) (call (.ref 116) [.str b.str t0, .int x t1, .int y t2]) Q E s := by
  k_with_none
  k_with "call ref" => ((with_reducible show wpAny _ _ (call (Value.ref 88) _) _ _ _); k_dflt (refine' holds_ok _ _ _ _ _ _ _ _ _ _ _ _ _ _ _ _ _ _ _ _ _ _ ?BW ?FW ?XW ?NW ?TW ?kW ?dW ?uW ?_; (case BW => k_asm); (case FW => k_asm); (case XW => k_asm); (case NW => k_asm); (case TW => k_asm); (case kW => exact rfl); (case dW => ktr_room); (case uW => ktr_units)); intro d' o' kvs' tl' h' tk' hH' hD' hM' hlo' F' N')
  k_with "binaryOp Mult int int" => (refine mul_int ?_ (IntMulOk.of_bits (by assumption) (by assumption)))
  k_with "binaryOp FloorDiv int int" => (refine floordiv_int ?kzW ?_ (Or.inr (PySem.PylongRoom.of (PySem.Heap.NoLimit.keeps (Top.nolimit (by assumption)) (Fr.keep (by assumption))) ?kdW)); (case kzW => first | assumption | omega); (case kdW => ((simp only [depth_deeper]); (try dsimp only [ktrTop]); (simp only [Builtin.pylongFrames, recursionLimit] at *); omega)))
  w_top off; revert X; k_fill; intro X
  refine wpAny_call ?_
  k_dflt cell_enter
  k_steps
  rename HoldsAt _ _ => hH
  rename Obj.IsDictOf _ _ _ => hD
  rename (_ == sysModules) = false => hlo
  rename _ ∈ _ => hM
  rename News _ _ _ _ => N9
  rcases hb : b.holds with _ | ys
  · refine in_dict N9 (List.mem_append_left _ hM) hD hlo (hH.miss b hb) ?_
    have N0 := cb_drop N9 (fun p hp => List.mem_append_right _ hp)
    clear hH hD hM hlo N9
    cases b <;> first | (exfalso; cases hb; done) | skip
    all_goals (clear hb; simp only [Bop.str] at *; k_steps)
    all_goals (first
      | (refine hsome _ _ _ _ ?_ (by assumption) (by assumption); first
        | exact lim_abs_in (by assumption)
        | exact (if_neg (by assumption)).trans (lim_abs_in (by assumption)))
      | (refine hnone _ _ ?_ (by assumption) (by assumption); first
        | exact lim_abs_out (by assumption)
        | exact (if_neg (by assumption)).trans (lim_abs_out (by assumption))
        | exact if_pos (by assumption)))
  · obtain ⟨tb, vs, n, hv, hm, hs⟩ := hH.hit b ys hb
    refine in_dict N9 (List.mem_append_left _ hM) hD hlo hv ?_
    have N0 := cb_drop N9 (fun p hp => List.mem_append_right _ hp)
    clear hH hD hM hlo N9 hv hm hs
    simp only [Option.isSome_some]
    k_steps
    all_goals (
      (rename HoldsAt _ _ => hH)
      (rename Obj.IsDictOf _ _ _ => hD)
      (rename (_ == sysModules) = false => hlo)
      (rename _ ∈ _ => hM)
      (rename News _ _ _ _ => N9)
      obtain ⟨tb, vs, n, hv, hm, hs⟩ := hH.hit b ys hb
      refine item_dict N9 (List.mem_append_left _ hM) hD hv ?_
      clear hH hD hM hlo hv
      refine in_tuple_strs (items := vs.toArray) (News.isTup N9 (List.mem_append_left _ hm)) hs ?_
      have N0 := cb_drop N9 (fun p hp => List.mem_append_right _ hp)
      clear N9 hm hs
      k_steps)
    all_goals (first | (exfalso; omega) | skip)
    all_goals (refine hsome _ _ _ _ ?_ (by assumption) (by assumption); first
      | exact Bop.val_one hb (relOf_less (by omega)) (by assumption)
      | exact Bop.val_one hb (relOf_same (by omega)) (by assumption)
      | exact Bop.val_one hb (relOf_more (by omega) (by omega)) (by assumption)
      | exact Bop.val_zero hb (relOf_less (by omega)) (by assumption)
      | exact Bop.val_zero hb (relOf_same (by omega)) (by assumption)
      | exact Bop.val_zero hb (relOf_more (by omega) (by omega)) (by assumption))
end Mine

open PySem PySem.W PyProof.Rows
open PySem.Builtin.Int (intBits)
set_option Elab.async false
set_option maxRecDepth 100000
set_option maxHeartbeats 8000000
namespace Mine
def datOf (p : Op × Int) : Dat := .tuple [.str p.1.str, .int p.2]
/-- the answer, as the ledger bears it -/
def ResIn (tl : List (Addr × Obj)) (r : Value) : Res → Prop
  | .stuck => ∃ t, r = .str (Str.ofString "stuck") t
  | .error out => DatIn tl r (.tuple [.str (Str.ofString "error"), .list (out.map .int)])
  | .done out => DatIn tl r (.tuple [.str (Str.ofString "done"), .list (out.map .int)])

theorem pair_of {news : List (Addr × Obj)} {v : Value} {p : Op × Int} (h : DatIn news v (datOf p)) : ∃ a t t' n, v = .ref a ∧ (a, ({ cls := .type "tuple", data := .seq #[.str p.1.str t, .int p.2 t'] n } : Obj)) ∈ news := by
  cases h with
  | tuple hm r =>
    cases r with
    | cons h1 r =>
      cases h1
      cases r with
      | cons h2 r =>
        cases h2
        cases r
        exact ⟨_, _, _, _, rfl, hm⟩
theorem datAll_ints {news : List (Addr × Obj)} {us : List Value} {st : List Int} (h : IntsAre us st) : DatAll news us (st.map .int) := by
  induction h with
  | nil => exact .nil
  | cons i t _ ih => exact .cons (.int i t) ih
theorem refs_of {news : List (Addr × Obj)} : ∀ {vs : List Value} {code : List (Op × Int)}, DatAll news vs (code.map datOf) → ∀ v ∈ vs, ∃ a, v = .ref a
  | _, [], .nil, _, h => nomatch h
  | _, p :: _, .cons h r, v, hv => by
    rcases List.mem_cons.mp hv with rfl | hv
    · obtain ⟨a, _, _, _, e, _⟩ := pair_of h
      exact ⟨a, e⟩
    · exact refs_of r v hv

/-- what holds between two turns of the law's own pass -/
def EJ (news : List (Addr × Obj)) (n : Int) (t0 : Tok) (S W O : Addr) (code : List (Op × Int)) (i : Nat) (m : Str → Option Value) (nx : List (Addr × Obj)) : Prop :=
  ∃ us ws os st sl out n1 n2 n3, nx = (S, listOf us.toArray n1) :: (W, listOf ws.toArray n2) :: (O, listOf os.toArray n3) :: news ∧ IntsAre us st ∧ IntsAre ws sl ∧ IntsAre os out ∧ Ok n i st sl out ∧
    m (Str.ofString "nslots") = some (.int n t0) ∧ m (Str.ofString "stack") = some (.ref S) ∧ m (Str.ofString "slots") = some (.ref W) ∧ m (Str.ofString "out") = some (.ref O) ∧
    runs n code [] (List.replicate n.toNat 0) [] = runs n (code.drop i) st sl out
theorem needs_bin (b : Bop) : (needsL.find? fun p => p.1 = b.str).map (·.2) = some 2 := by cases b <;> decide +kernel
theorem needs_unk (u : Unk) : (needsL.find? fun p => p.1 = u.str) = none := by cases u <;> decide +kernel

section
variable {prog : Program} {w : World} {A : Around} {E : Value → Shared → Prop} {s : Shared} {h₀ : Heap} {L d : Addr} {news : List (Addr × Obj)} {o : Obj} {kvs : List (Str × Value)} {x : Str} {t : Tok} {Q : Value → Shared → Prop}
theorem notIn_held {k : Int} (N : News h₀ L s.heap news) (hm : (d, o) ∈ news) (hD : o.IsDictOf (strKind prog w) kvs) (hlo : (d == sysModules) = false) (hH : Held needsL kvs) (hx : (needsL.find? fun p => p.1 = x).map (·.2) = some k)
    (h : Q (.bool false) { s with toks := s.toks + 1 }) : wpAny (model prog w) A (compareOp .NotIn (.str x t) (.ref d)) Q E s := by
  obtain ⟨t', hv⟩ := hH.look x k hx
  exact notIn_dict N hm hD hlo hv h
theorem notIn_miss (N : News h₀ L s.heap news) (hm : (d, o) ∈ news) (hD : o.IsDictOf (strKind prog w) kvs) (hlo : (d == sysModules) = false) (hH : Held needsL kvs) (hx : (needsL.find? fun p => p.1 = x) = none)
    (h : Q (.bool true) { s with toks := s.toks + 1 }) : wpAny (model prog w) A (compareOp .NotIn (.str x t) (.ref d)) Q E s :=
  notIn_dict N hm hD hlo (hH.miss x hx) h
theorem item_held {value slice : Expr} {k : Int} (N : News h₀ L s.heap news) (hm : (d, o) ∈ news) (hD : o.IsDictOf (strKind prog w) kvs) (hH : Held needsL kvs) (hx : (needsL.find? fun p => p.1 = x).map (·.2) = some k)
    (h : ∀ t', Q (.int k t') { s with toks := s.toks + 1 })
    (hs : subscripted slice false (.ref d) (.str x t) = operate [.ref d, .str x t] (getItem (.ref d) (.str x t)) := by with_unfolding_all rfl) :
    wpAny (model prog w) A (subscriptTail value slice (.ref d) (.str x t)) Q E s := by
  obtain ⟨t', hv⟩ := hH.look x k hx
  exact item_dict N hm hD hv (h t') hs
theorem get_held {k : Int} (N : News h₀ L s.heap news) (hm : (d, o) ∈ news) (hD : o.IsDictOf (strKind prog w) kvs) (hH : Held needsL kvs) (hx : (needsL.find? fun p => p.1 = x).map (·.2) = some k)
    (h : ∀ t', Q (.int k t') { s with toks := s.toks + 1 }) : wpAny (model prog w) A (getItem (.ref d) (.str x t)) Q E s := by
  obtain ⟨t', hv⟩ := hH.look x k hx
  exact wpAny_getItem_of (strKind_is prog w x t) (dict_map N hm hD) hv (h t')
end

theorem fr_names {g h : Heap} {L : Addr} {m : Str → Option Value} (F : Fr g L h m) {a b c d : Str} {va vb vc vd : Value} (ha : m a = some va) (hb : m b = some vb) (hc : m c = some vc) (hd : m d = some vd) :
    Fr g L h (fun y => if y = a then some va else if y = b then some vb else if y = c then some vc else if y = d then some vd else m y) := by
  have e : (fun y => if y = a then some va else if y = b then some vb else if y = c then some vc else if y = d then some vd else m y) = m := by
    funext y
    split
    · rename_i q; rw [q, ha]
    · split
      · rename_i q; rw [q, hb]
      · split
        · rename_i q; rw [q, hc]
        · split
          · rename_i q; rw [q, hd]
          · rfl
  rw [e]; exact F

theorem ints_snoc {us : List Value} {st : List Int} {x : Int} {t : Tok} (h : IntsAre us st) : IntsAre (us ++ [.int x t]) (st ++ [x]) := by
  induction h with
  | nil => exact .cons x t .nil
  | cons i u _ ih => exact .cons i u ih
theorem turned_next {s : Shared} {g h' : Heap} {L I S W O : Addr} {o : Obj} {Q : Flow → Shared → Prop} {m' : Str → Option Value} {x1 x2 : Addr × Obj} {us ws os : List Value} {k1 k2 k3 i tk' : Nat} {news : List (Addr × Obj)} {n arg : Int} {t0 : Tok} {op : Op} {code : List (Op × Int)}
    {st sl out st' sl' out' : List Int} (F : Fr g L h' m') (N : News g L h' (x1 :: x2 :: (I, o) :: (S, listOf us.toArray k1) :: (W, listOf ws.toArray k2) :: (O, listOf os.toArray k3) :: news))
    (iS : IntsAre us st') (iW : IntsAre ws sl') (iO : IntsAre os out') (ok : Ok n i st sl out) (hft : Fit (op, arg)) (e : stp n op arg st sl out = .next st' sl' out')
    (hr : runs n code [] (List.replicate n.toNat 0) [] = runs n ((op, arg) :: code.drop (i + 1)) st sl out)
    (q1 : m' (Str.ofString "nslots") = some (.int n t0)) (q2 : m' (Str.ofString "stack") = some (.ref S)) (q3 : m' (Str.ofString "slots") = some (.ref W)) (q4 : m' (Str.ofString "out") = some (.ref O)) :
    Turned s g L (I, o) (EJ news n t0 S W O code (i + 1)) Q .next { s with heap := h', toks := tk' } :=
  ⟨h', tk', m', _, rfl, F, fun p hp => N p (.tail _ (.tail _ hp)), us, ws, os, st', sl', out', k1, k2, k3, rfl, iS, iW, iO, ok_step ok hft e, q1, q2, q3, q4, hr.trans (runs_next e)⟩
theorem res_stuck {t : Tok} {R R' : Res} (hr : R = R') (h : R' = .stuck) : ResIn [] (.str (Str.ofString "stuck") t) R := by
  rw [hr, h]
  exact ⟨t, rfl⟩
theorem res_tuple {word : Str} {D O : Addr} {t : Tok} {os : List Value} {out : List Int} {k j : Nat} (iO : IntsAre os out) :
    DatIn [(D, ({ cls := .type "tuple", data := .seq [Value.str word t, .ref O].toArray j } : Obj)), (O, listOf os.toArray k)] (.ref D) (.tuple [.str word, .list (out.map .int)]) :=
  .tuple (.head _) (.cons (.str _ _) (.cons (.list (.tail _ (.head _)) (datAll_ints iO)) .nil))

theorem stp_push {n a : Int} {st sl out : List Int} : stp n .push a st sl out = .next (st ++ [a]) sl out := by rw [stp]
theorem stp_unk {n a : Int} {u : Unk} {st sl out : List Int} : stp n (.unk u) a st sl out = .stuck := by rw [stp]
theorem stp_store0 {n a : Int} {st sl out : List Int} (h : st.length = 0) : stp n .store a st sl out = .stuck := by
  rw [stp, if_pos h]
  exact ite_self _
theorem res_error {word : Str} {D O : Addr} {t : Tok} {os : List Value} {out : List Int} {k j : Nat} {R R' : Res} (iO : IntsAre os out) (hr : R = R') (h : R' = .error out) (hw : word = Str.ofString "error") :
    ResIn [(D, ({ cls := .type "tuple", data := .seq [Value.str word t, .ref O].toArray j } : Obj)), (O, listOf os.toArray k)] (.ref D) R := by
  rw [hr, h, hw]
  exact res_tuple iO
theorem res_done {word : Str} {D O : Addr} {t : Tok} {os : List Value} {out : List Int} {k j : Nat} {R R' : Res} (iO : IntsAre os out) (hr : R = R') (h : R' = .done out) (hw : word = Str.ofString "done") :
    ResIn [(D, ({ cls := .type "tuple", data := .seq [Value.str word t, .ref O].toArray j } : Obj)), (O, listOf os.toArray k)] (.ref D) R := by
  rw [hr, h, hw]
  exact res_tuple iO

end Mine

open PySem PySem.W PyProof.Rows
open PySem.Builtin.Int (intBits)
set_option Elab.async false
set_option maxRecDepth 100000
set_option maxHeartbeats 8000000
namespace Mine
local macro_rules | `(tactic| walk_at $s:str) => `(tactic| k_extra $s)
local macro_rules | `(tactic| k_room) => `(tactic| ktr_room)

theorem expect_ok (code : List (Op × Int)) (hfit : ∀ p ∈ code, Fit p) (hlen : code.length ≤ 8) (n : Int) (hn : 0 ≤ n) (hn3 : n ≤ 3) (c : Addr) (vs : List Value) (k : Nat) (t0 : Tok) (w : World) (loose : List Str) (mean : ExcName → Option Value) (mg mb : Str → Option Value)
    (dp un : Nat) (gd : Option (List Code)) (cn : Str) (cs : Scope) (a : Addr) (ccd : Value) (outer : List Env) (A₀ : Around) (base h₀ : Heap) (L : Addr) (m : Str → Option Value) (news : List (Addr × Obj)) (s : Shared) (Q E : Value → Shared → Prop)
    (B : Below A₀ base outer h₀) (F : Fr h₀ L s.heap m) (X : (Mine.hd.heap_39 w.params).In h₀) (N : News h₀ L s.heap news) (T : Top Mine.hd.view_39 loose mean mg mb h₀) (hk : cs.kind = .function) (hd : dp + 220 < recursionLimit) (hu : un + 100 < cLine)
    (hc : (c, listOf vs.toArray k) ∈ news) (hv : DatAll news vs (code.map datOf))
    (hret : ∀ r tl h' tk', ResIn tl r (runs n code [] (List.replicate n.toNat 0) []) → Fr h₀ L h' m → News h₀ L h' (tl ++ news) → Q r { s with heap := h', toks := tk' }) :
    wpAny (model Challenge.rw_pd_asmalltoolchain_2_02.row.prog w) (ktrTop dp un gd cn cs L a ccd [] outer) (call (.ref 123) [.ref c, .int n t0]) Q E s := by
  k_with_none
  k_with "call ref" => ((with_reducible show wpAny _ _ (call (Value.ref 81) _) _ _ _); k_dflt (refine' needs_ok _ _ _ _ _ _ _ _ _ _ _ _ _ _ _ _ _ _ _ _ _ _ ?BW ?FW ?XW ?NW ?TW ?kW ?dW ?uW ?_; (case BW => k_asm); (case FW => k_asm); (case XW => k_asm); (case NW => k_asm); (case TW => k_asm); (case kW => exact rfl); (case dW => ktr_room); (case uW => ktr_units)); intro d' o' kvs' h' tk' hH' hD' hlo' l1 F' N'; (try k_lt l1); (try k_sweep))
  k_with "call ref" => ((with_reducible show wpAny _ _ (call (Value.ref 116) _) _ _ _); k_dflt (refine' lawbin_ok _ _ _ _ _ _ ?hxW ?hyW _ _ _ _ _ _ _ _ _ _ _ _ _ _ _ _ _ _ _ _ _ _ ?BW ?FW ?XW ?NW ?TW ?kW ?dW ?uW ?hsW ?hnW; (case BW => k_asm); (case FW => k_asm); (case XW => k_asm); (case NW => k_asm); (case TW => k_asm); (case kW => exact rfl); (case dW => ktr_room); (case uW => ktr_units); (case hxW => assumption); (case hyW => assumption)); (case' hsW => intro v' t' h' tk' hval' F' N'); (case' hnW => intro h' tk' hval' F' N'))
  k_with "compareOp NotIn str ref" => ((rename Held _ _ => hH9); (rename Obj.IsDictOf _ _ _ => hD9); (rename (_ == sysModules) = false => hlo9); first
  | (refine' notIn_held ?NW ?mW hD9 hlo9 hH9 ?xW ?_; (case NW => k_asm); (case mW => exact .head _); (case xW => first | exact rfl | exact needs_bin _))
  | (refine' notIn_miss ?NW ?mW hD9 hlo9 hH9 ?xW ?_; (case NW => k_asm); (case mW => exact .head _); (case xW => exact needs_unk _)))
  k_with "getItem ref str" => ((rename Held _ _ => hH9); (rename Obj.IsDictOf _ _ _ => hD9); first
  | (refine' get_held (k := 0) ?NW ?mW hD9 hH9 ?xW ?_; (case xW => exact rfl); (case NW => k_asm); (case mW => exact .head _); intro tN9)
  | (refine' get_held (k := 1) ?NW ?mW hD9 hH9 ?xW ?_; (case xW => exact rfl); (case NW => k_asm); (case mW => exact .head _); intro tN9)
  | (refine' get_held (k := 2) ?NW ?mW hD9 hH9 ?xW ?_; (case xW => exact needs_bin _); (case NW => k_asm); (case mW => exact .head _); intro tN9))
  k_with "compareOp Eq str str" => ((with_reducible show wpAny _ _ (compareOp CmpOp.Eq (Value.str (Bop.str _) _) (Value.str _ _)) _ _ _); refine eq_str ?_; first | rw [bin_push] | rw [bin_load] | rw [bin_store] | rw [bin_out] | rw [bin_neg] | rw [bin_not])
  w_top off; revert X; k_fill; intro X
  refine wpAny_call ?_
  k_dflt cell_enter
  k_steps
  rename News _ _ _ _ => N9
  rename Fr _ _ _ _ => F9
  rename IntsAre _ _ => hI9
  rename_i g' L' hx0 FG' B' X' T' tkq S hx1 hSn hx2 tkz Z hx3 hSZ W hx4 nn e1 e2 e3 e4 hW hx5 O hx6 hO h9
  have hlt9 : ∀ p ∈ news, p.1 < h9.objs.size := fun p hp => Heap.lt_size (N9 p (.tail _ (.tail _ (.tail _ (.tail _ hp))))).1
  have hSs : S < h9.objs.size := Heap.lt_size (N9 _ (.tail _ (.tail _ (.tail _ (.head _))))).1
  have hWs : W < h9.objs.size := Heap.lt_size (N9 _ (.tail _ (.head _))).1
  have hOs : O < h9.objs.size := Heap.lt_size (N9 _ (.head _)).1
  have hSW : S < W := hW.2.1
  have hWO : W < O := hO.1
  have hnO : ∀ p ∈ news, p.1 < S := hSn
  have hoff : OwnOff news [S, W, O] := by
    intro p hp b hb
    have := hnO p hp
    simp only [List.mem_cons, List.not_mem_nil, or_false] at hb
    rcases hb with rfl | rfl | rfl
    · exact Nat.ne_of_lt this
    · exact Nat.ne_of_lt (Nat.lt_trans this hSW)
    · exact Nat.ne_of_lt (Nat.lt_trans this (Nat.lt_trans hSW hWO))
  have hflat : (List.replicate n.toNat [(0 : Int)]).flatten = List.replicate n.toNat 0 := by simp
  rw [hflat] at hI9
  have N8 : News g' L' h9 ((S, listOf ([] : List Value).toArray 0) :: (W, listOf (List.replicate n.toNat [Value.int 0 tkz]).flatten.toArray 0) :: (O, listOf ([] : List Value).toArray 0) :: news) := by
    intro p hp
    rcases List.mem_cons.mp hp with rfl | hp
    · exact N9 _ (.tail _ (.tail _ (.tail _ (.head _))))
    rcases List.mem_cons.mp hp with rfl | hp
    · exact N9 _ (.tail _ (.head _))
    rcases List.mem_cons.mp hp with rfl | hp
    · exact N9 _ (.head _)
    · exact N9 _ (.tail _ (.tail _ (.tail _ (.tail _ hp))))
  clear N9 e1 e2 e3 e4 hW hO hSZ
  refine' for_list (h₀ := g') (l := c) (vs := vs) (EJ news n t0 S W O code) ?hh ?hev ?hl ?hlk F9 N8 ?hj ?turn ?done ?hJ ?hrf ?ht ?hE ?hs
  case hh => exact rfl
  case hev => intro Q' h; exact ld F9 rfl h
  case hl => exact ⟨_, (N8 _ (.tail _ (.tail _ (.tail _ hc)))).1, rfl, k, rfl⟩
  case hlk =>
    rintro m₁ nx h I o F N ⟨i, us, ws, os, st, sl, out, n1, n2, n3, rfl, _⟩
    exact ⟨_, (N _ (.tail _ (.tail _ (.tail _ (.tail _ hc))))).1, rfl, k, rfl⟩
  case hj =>
    refine ⟨[], _, [], [], List.replicate n.toNat 0, [], 0, 0, 0, rfl, .nil, hI9, .nil, ⟨?_, ?_, ?_, ?_, ?_⟩, rfl, rfl, rfl, rfl, rfl⟩
    · intro v hv; cases hv
    · intro v hv; rw [(List.mem_replicate.mp hv).2]; decide
    · rw [List.length_replicate]; omega
    · exact Nat.le_refl _
    · exact Nat.le_refl _
  case hJ =>
    rintro i m₁ nx ⟨us, ws, os, st, sl, out, n1, n2, n3, rfl, _⟩ q hq
    rcases List.mem_cons.mp hq with rfl | hq
    · exact Nat.ne_of_lt hSs
    rcases List.mem_cons.mp hq with rfl | hq
    · exact Nat.ne_of_lt hWs
    rcases List.mem_cons.mp hq with rfl | hq
    · exact Nat.ne_of_lt hOs
    · exact Nat.ne_of_lt (hlt9 q hq)
  case hrf => exact refs_of hv
  case ht => exact ⟨_, _, _, rfl⟩
  case hE => exact PassesOwn.leaving
  case hs => intro _; rfl
  case done =>
    rintro m₁ nx h tk ⟨us, ws, os, st, sl, out, n1, n2, n3, rfl, iS, iW, iO, ok, q1, q2, q3, q4, hr⟩ F N
    have F2 := fr_names F q1 q2 q3 q4
    have hli : code.drop vs.length = [] := by
      have e := hv.length
      rw [List.length_map] at e
      rw [e]
      exact List.drop_length
    rw [hli] at hr
    have hq : ∀ r tl h' tk' (m' : Str → Option Value), ResIn tl r (runs n code [] (List.replicate n.toNat 0) []) → Fr g' L' h' m' → News g' L' h' (tl ++ news) → qk (.ret r) { s with heap := h', toks := tk' } := fun r tl h' tk' m' hR F' N' => leaveK_ F' N' fun kF kN => hret r tl h' tk' hR kF kN
    clear hv F q1 q2 q3 q4 hret
    clear_value qk ek
    k_steps
    refine' hq _ [(_, _), (_, listOf os.toArray n3)] _ _ _ (res_done iO hr ?e rfl) ?F ?N
    case e => exact rfl
    case F => assumption
    case N => exact cb_drop (by assumption) (by kcj_all)
  case turn =>
    intro i v m₁ nx h tk I o hvi hJ F N hcls hI
    obtain ⟨us, ws, os, st, sl, out, n1, n2, n3, rfl, iS, iW, iO, ok, q1, q2, q3, q4, hr⟩ := hJ
    have F2 := fr_names F q1 q2 q3 q4
    have hli : i < code.length := by
      have e := hv.length
      rw [List.length_map] at e
      rw [← e]
      exact (List.getElem?_eq_some_iff.mp hvi).1
    obtain ⟨v', hv', hD⟩ := hv.get (k := i) (by simpa using hli)
    rw [hvi] at hv'
    obtain rfl := Option.some.inj hv'
    rw [List.getElem_map] at hD
    have hdrop : code.drop i = code[i] :: code.drop (i + 1) := List.drop_eq_getElem_cons hli
    have hft := hfit _ (List.getElem_mem hli)
    generalize code[i] = p at hD hdrop hft
    obtain ⟨op, arg⟩ := p
    obtain ⟨pa, tp1, tp2, pn, rfl, hpm⟩ := pair_of hD
    dsimp only at hpm
    rw [hdrop] at hr
    have htup : IsTup h pa #[.str op.str tp1, .int arg tp2] := ⟨_, (N _ (.tail _ (.tail _ (.tail _ (.tail _ hpm))))).1, rfl, _, rfl⟩
    have hlS := iS.length
    have hlW := iW.length
    have hlO := iO.length
    have g1 := ok.lst
    have g2 := ok.lout
    have g3 := ok.lsl
    have hSWn : @LT.lt Nat _ S W := hSW
    have hWOn : @LT.lt Nat _ W O := hWO
    have hOIn : @LT.lt Nat _ O I := by rw [hI]; exact hOs
    have hbl := bits_last ok.bst
    have hdu : us.dropLast.length = us.length - 1 := List.length_dropLast
    have hds : st.dropLast.length = st.length - 1 := List.length_dropLast
    have hduu : us.dropLast.dropLast.length = us.dropLast.length - 1 := List.length_dropLast
    have hdss : st.dropLast.dropLast.length = st.dropLast.length - 1 := List.length_dropLast
    have hbd := bits_last (bits_drop ok.bst)
    have hq : ∀ r tl h' tk' (m' : Str → Option Value), ResIn tl r (runs n code [] (List.replicate n.toNat 0) []) → Fr g' L' h' m' → News g' L' h' (tl ++ news) → qk (.ret r) { s with heap := h', toks := tk' } := fun r tl h' tk' m' hR F' N' => leaveK_ F' N' fun kF kN => hret r tl h' tk' hR kF kN
    clear hv hvi hD hpm F q1 q2 q3 q4 hret
    clear_value qk ek
    cases op
    case push =>
      all_goals (simp only [Op.str] at htup; k_steps)
      all_goals (first
        | ((with_reducible show Turned _ _ _ _ _ _ Flow.next _); (rename News _ _ _ _ => N1); (try simp only [List.push_toArray] at N1); refine' turned_next ?F N1 ?iS ?iW ?iO ok hft ?e hr ?q1 ?q2 ?q3 ?q4; (case F => assumption); (case iS => first | with_reducible assumption | exact ints_snoc (by with_reducible assumption)); (case iW => first | with_reducible assumption | exact ints_snoc (by with_reducible assumption)); (case iO => first | with_reducible assumption | exact ints_snoc (by with_reducible assumption)); (case q1 => rfl); (case q2 => rfl); (case q3 => rfl); (case q4 => rfl); (case e => first
          | exact stp_push
          | exact stp_not1 (by omega) (by assumption)
          | exact stp_not0 (by omega) (by assumption)
          | exact stp_bin (by omega) (by assumption)
          | (simp only [stp]; first | rfl | exact if_neg (by omega) | exact (if_neg (by omega)).trans (if_neg (by omega)))))
        | ((dsimp only [Turned]); refine' hq _ [] _ _ _ (res_stuck hr (runs_stuck ?e)) ?F ?N; (case F => assumption); (case N => exact cb_drop (by assumption) (by kcj_all)); (case e => first | exact stp_unk | exact stp_store0 (by omega) | (simp only [stp]; first | exact if_pos (by omega) | exact (if_neg (by omega)).trans (if_pos (by omega)))))
        | ((dsimp only [Turned]); refine' hq _ [(_, _), (_, listOf os.toArray n3)] _ _ _ (res_error iO hr (runs_error ?e) rfl) ?F ?N; (case e => exact stp_binE (by omega) (by assumption)); (case F => assumption); (case N => exact cb_drop (by assumption) (by kcj_all)))
        | skip)
    case load =>
      all_goals (simp only [Op.str] at htup; k_steps)
      all_goals (first
        | ((with_reducible show Turned _ _ _ _ _ _ Flow.next _); (rename News _ _ _ _ => N1); (try simp only [List.push_toArray] at N1); refine' turned_next ?F N1 ?iS ?iW ?iO ok hft ?e hr ?q1 ?q2 ?q3 ?q4; (case F => assumption); (case iS => first | with_reducible assumption | exact ints_snoc (by with_reducible assumption)); (case iW => first | with_reducible assumption | exact ints_snoc (by with_reducible assumption)); (case iO => first | with_reducible assumption | exact ints_snoc (by with_reducible assumption)); (case q1 => rfl); (case q2 => rfl); (case q3 => rfl); (case q4 => rfl); (case e => first
          | exact stp_push
          | exact stp_not1 (by omega) (by assumption)
          | exact stp_not0 (by omega) (by assumption)
          | exact stp_bin (by omega) (by assumption)
          | (simp only [stp]; first | rfl | exact if_neg (by omega) | exact (if_neg (by omega)).trans (if_neg (by omega)))))
        | ((dsimp only [Turned]); refine' hq _ [] _ _ _ (res_stuck hr (runs_stuck ?e)) ?F ?N; (case F => assumption); (case N => exact cb_drop (by assumption) (by kcj_all)); (case e => first | exact stp_unk | exact stp_store0 (by omega) | (simp only [stp]; first | exact if_pos (by omega) | exact (if_neg (by omega)).trans (if_pos (by omega)))))
        | ((dsimp only [Turned]); refine' hq _ [(_, _), (_, listOf os.toArray n3)] _ _ _ (res_error iO hr (runs_error ?e) rfl) ?F ?N; (case e => exact stp_binE (by omega) (by assumption)); (case F => assumption); (case N => exact cb_drop (by assumption) (by kcj_all)))
        | skip)
    case store =>
      all_goals (simp only [Op.str] at htup; k_steps)
      all_goals (first
        | ((with_reducible show Turned _ _ _ _ _ _ Flow.next _); (rename News _ _ _ _ => N1); (try simp only [List.push_toArray] at N1); refine' turned_next ?F N1 ?iS ?iW ?iO ok hft ?e hr ?q1 ?q2 ?q3 ?q4; (case F => assumption); (case iS => first | with_reducible assumption | exact ints_snoc (by with_reducible assumption)); (case iW => first | with_reducible assumption | exact ints_snoc (by with_reducible assumption)); (case iO => first | with_reducible assumption | exact ints_snoc (by with_reducible assumption)); (case q1 => rfl); (case q2 => rfl); (case q3 => rfl); (case q4 => rfl); (case e => first
          | exact stp_push
          | exact stp_not1 (by omega) (by assumption)
          | exact stp_not0 (by omega) (by assumption)
          | exact stp_bin (by omega) (by assumption)
          | (simp only [stp]; first | rfl | exact if_neg (by omega) | exact (if_neg (by omega)).trans (if_neg (by omega)))))
        | ((dsimp only [Turned]); refine' hq _ [] _ _ _ (res_stuck hr (runs_stuck ?e)) ?F ?N; (case F => assumption); (case N => exact cb_drop (by assumption) (by kcj_all)); (case e => first | exact stp_unk | exact stp_store0 (by omega) | (simp only [stp]; first | exact if_pos (by omega) | exact (if_neg (by omega)).trans (if_pos (by omega)))))
        | ((dsimp only [Turned]); refine' hq _ [(_, _), (_, listOf os.toArray n3)] _ _ _ (res_error iO hr (runs_error ?e) rfl) ?F ?N; (case e => exact stp_binE (by omega) (by assumption)); (case F => assumption); (case N => exact cb_drop (by assumption) (by kcj_all)))
        | skip)
    case out =>
      all_goals (simp only [Op.str] at htup; k_steps)
      all_goals (first
        | ((with_reducible show Turned _ _ _ _ _ _ Flow.next _); (rename News _ _ _ _ => N1); (try simp only [List.push_toArray] at N1); refine' turned_next ?F N1 ?iS ?iW ?iO ok hft ?e hr ?q1 ?q2 ?q3 ?q4; (case F => assumption); (case iS => first | with_reducible assumption | exact ints_snoc (by with_reducible assumption)); (case iW => first | with_reducible assumption | exact ints_snoc (by with_reducible assumption)); (case iO => first | with_reducible assumption | exact ints_snoc (by with_reducible assumption)); (case q1 => rfl); (case q2 => rfl); (case q3 => rfl); (case q4 => rfl); (case e => first
          | exact stp_push
          | exact stp_not1 (by omega) (by assumption)
          | exact stp_not0 (by omega) (by assumption)
          | exact stp_bin (by omega) (by assumption)
          | (simp only [stp]; first | rfl | exact if_neg (by omega) | exact (if_neg (by omega)).trans (if_neg (by omega)))))
        | ((dsimp only [Turned]); refine' hq _ [] _ _ _ (res_stuck hr (runs_stuck ?e)) ?F ?N; (case F => assumption); (case N => exact cb_drop (by assumption) (by kcj_all)); (case e => first | exact stp_unk | exact stp_store0 (by omega) | (simp only [stp]; first | exact if_pos (by omega) | exact (if_neg (by omega)).trans (if_pos (by omega)))))
        | ((dsimp only [Turned]); refine' hq _ [(_, _), (_, listOf os.toArray n3)] _ _ _ (res_error iO hr (runs_error ?e) rfl) ?F ?N; (case e => exact stp_binE (by omega) (by assumption)); (case F => assumption); (case N => exact cb_drop (by assumption) (by kcj_all)))
        | skip)
    case neg =>
      all_goals (simp only [Op.str] at htup; k_steps)
      all_goals (first
        | ((with_reducible show Turned _ _ _ _ _ _ Flow.next _); (rename News _ _ _ _ => N1); (try simp only [List.push_toArray] at N1); refine' turned_next ?F N1 ?iS ?iW ?iO ok hft ?e hr ?q1 ?q2 ?q3 ?q4; (case F => assumption); (case iS => first | with_reducible assumption | exact ints_snoc (by with_reducible assumption)); (case iW => first | with_reducible assumption | exact ints_snoc (by with_reducible assumption)); (case iO => first | with_reducible assumption | exact ints_snoc (by with_reducible assumption)); (case q1 => rfl); (case q2 => rfl); (case q3 => rfl); (case q4 => rfl); (case e => first
          | exact stp_push
          | exact stp_not1 (by omega) (by assumption)
          | exact stp_not0 (by omega) (by assumption)
          | exact stp_bin (by omega) (by assumption)
          | (simp only [stp]; first | rfl | exact if_neg (by omega) | exact (if_neg (by omega)).trans (if_neg (by omega)))))
        | ((dsimp only [Turned]); refine' hq _ [] _ _ _ (res_stuck hr (runs_stuck ?e)) ?F ?N; (case F => assumption); (case N => exact cb_drop (by assumption) (by kcj_all)); (case e => first | exact stp_unk | exact stp_store0 (by omega) | (simp only [stp]; first | exact if_pos (by omega) | exact (if_neg (by omega)).trans (if_pos (by omega)))))
        | ((dsimp only [Turned]); refine' hq _ [(_, _), (_, listOf os.toArray n3)] _ _ _ (res_error iO hr (runs_error ?e) rfl) ?F ?N; (case e => exact stp_binE (by omega) (by assumption)); (case F => assumption); (case N => exact cb_drop (by assumption) (by kcj_all)))
        | skip)
    case not =>
      all_goals (simp only [Op.str] at htup; k_steps)
      all_goals (first
        | ((with_reducible show Turned _ _ _ _ _ _ Flow.next _); (rename News _ _ _ _ => N1); (try simp only [List.push_toArray] at N1); refine' turned_next ?F N1 ?iS ?iW ?iO ok hft ?e hr ?q1 ?q2 ?q3 ?q4; (case F => assumption); (case iS => first | with_reducible assumption | exact ints_snoc (by with_reducible assumption)); (case iW => first | with_reducible assumption | exact ints_snoc (by with_reducible assumption)); (case iO => first | with_reducible assumption | exact ints_snoc (by with_reducible assumption)); (case q1 => rfl); (case q2 => rfl); (case q3 => rfl); (case q4 => rfl); (case e => first
          | exact stp_push
          | exact stp_not1 (by omega) (by assumption)
          | exact stp_not0 (by omega) (by assumption)
          | exact stp_bin (by omega) (by assumption)
          | (simp only [stp]; first | rfl | exact if_neg (by omega) | exact (if_neg (by omega)).trans (if_neg (by omega)))))
        | ((dsimp only [Turned]); refine' hq _ [] _ _ _ (res_stuck hr (runs_stuck ?e)) ?F ?N; (case F => assumption); (case N => exact cb_drop (by assumption) (by kcj_all)); (case e => first | exact stp_unk | exact stp_store0 (by omega) | (simp only [stp]; first | exact if_pos (by omega) | exact (if_neg (by omega)).trans (if_pos (by omega)))))
        | ((dsimp only [Turned]); refine' hq _ [(_, _), (_, listOf os.toArray n3)] _ _ _ (res_error iO hr (runs_error ?e) rfl) ?F ?N; (case e => exact stp_binE (by omega) (by assumption)); (case F => assumption); (case N => exact cb_drop (by assumption) (by kcj_all)))
        | skip)
    case bin b =>
      all_goals (simp only [Op.str] at htup; k_steps)
      all_goals (first
        | ((with_reducible show Turned _ _ _ _ _ _ Flow.next _); (rename News _ _ _ _ => N1); (try simp only [List.push_toArray] at N1); refine' turned_next ?F N1 ?iS ?iW ?iO ok hft ?e hr ?q1 ?q2 ?q3 ?q4; (case F => assumption); (case iS => first | with_reducible assumption | exact ints_snoc (by with_reducible assumption)); (case iW => first | with_reducible assumption | exact ints_snoc (by with_reducible assumption)); (case iO => first | with_reducible assumption | exact ints_snoc (by with_reducible assumption)); (case q1 => rfl); (case q2 => rfl); (case q3 => rfl); (case q4 => rfl); (case e => first
          | exact stp_push
          | exact stp_not1 (by omega) (by assumption)
          | exact stp_not0 (by omega) (by assumption)
          | exact stp_bin (by omega) (by assumption)
          | (simp only [stp]; first | rfl | exact if_neg (by omega) | exact (if_neg (by omega)).trans (if_neg (by omega)))))
        | ((dsimp only [Turned]); refine' hq _ [] _ _ _ (res_stuck hr (runs_stuck ?e)) ?F ?N; (case F => assumption); (case N => exact cb_drop (by assumption) (by kcj_all)); (case e => first | exact stp_unk | exact stp_store0 (by omega) | (simp only [stp]; first | exact if_pos (by omega) | exact (if_neg (by omega)).trans (if_pos (by omega)))))
        | ((dsimp only [Turned]); refine' hq _ [(_, _), (_, listOf os.toArray n3)] _ _ _ (res_error iO hr (runs_error ?e) rfl) ?F ?N; (case e => exact stp_binE (by omega) (by assumption)); (case F => assumption); (case N => exact cb_drop (by assumption) (by kcj_all)))
        | skip)
    case unk u =>
      all_goals (simp only [Op.str] at htup; k_steps)
      all_goals (first
        | ((with_reducible show Turned _ _ _ _ _ _ Flow.next _); (rename News _ _ _ _ => N1); (try simp only [List.push_toArray] at N1); refine' turned_next ?F N1 ?iS ?iW ?iO ok hft ?e hr ?q1 ?q2 ?q3 ?q4; (case F => assumption); (case iS => first | with_reducible assumption | exact ints_snoc (by with_reducible assumption)); (case iW => first | with_reducible assumption | exact ints_snoc (by with_reducible assumption)); (case iO => first | with_reducible assumption | exact ints_snoc (by with_reducible assumption)); (case q1 => rfl); (case q2 => rfl); (case q3 => rfl); (case q4 => rfl); (case e => first
          | exact stp_push
          | exact stp_not1 (by omega) (by assumption)
          | exact stp_not0 (by omega) (by assumption)
          | exact stp_bin (by omega) (by assumption)
          | (simp only [stp]; first | rfl | exact if_neg (by omega) | exact (if_neg (by omega)).trans (if_neg (by omega)))))
        | ((dsimp only [Turned]); refine' hq _ [] _ _ _ (res_stuck hr (runs_stuck ?e)) ?F ?N; (case F => assumption); (case N => exact cb_drop (by assumption) (by kcj_all)); (case e => first | exact stp_unk | exact stp_store0 (by omega) | (simp only [stp]; first | exact if_pos (by omega) | exact (if_neg (by omega)).trans (if_pos (by omega)))))
        | ((dsimp only [Turned]); refine' hq _ [(_, _), (_, listOf os.toArray n3)] _ _ _ (res_error iO hr (runs_error ?e) rfl) ?F ?N; (case e => exact stp_binE (by omega) (by assumption)); (case F => assumption); (case N => exact cb_drop (by assumption) (by kcj_all)))
        | skip)
end Mine

open PySem PySem.W PyProof.Rows
open PySem.Builtin.Int (intBits)
set_option Elab.async false
set_option maxRecDepth 100000
set_option maxHeartbeats 8000000
namespace Mine
local macro_rules | `(tactic| walk_at $s:str) => `(tactic| k_extra $s)

/-- the code, in the ledger -/
structure CodeIn (news : List (Addr × Obj)) (c : Addr) (vs : List Value) (k : Nat) (l : Nat) : Prop where
  mem : (c, listOf vs.toArray k) ∈ news
  len : vs.length = l
  few : l ≤ 8
theorem code_len {prog : Program} {w : World} {A : Around} {E : Value → Shared → Prop} {s : Shared} {g : Heap} {L : Addr} {nx news : List (Addr × Obj)} {c : Addr} {vs : List Value} {k l : Nat} {Q : Value → Shared → Prop} (hC : CodeIn news c vs k l) (N : News g L s.heap nx)
    (hm : (c, listOf vs.toArray k) ∈ nx) (h : Q (.int l (s.toks + 1)) { s with toks := s.toks + 1 + 1 }) : wpAny (model prog w) A (call (.builtin "len") [.ref c]) Q E s := by
  have hl : s.heap.IsList c vs.toArray := ⟨_, (N _ hm).1, rfl, k, rfl⟩
  have h1 := hC.len
  have h2 := hC.few
  exact kun_lenL hl (by simp; omega) (by omega) h
theorem code_item {prog : Program} {w : World} {A : Around} {E : Value → Shared → Prop} {s : Shared} {g : Heap} {L : Addr} {nx news : List (Addr × Obj)} {c : Addr} {vs : List Value} {k l i : Nat} {value slice : Expr} {u : Tok} {v : Value} {Q : Value → Shared → Prop} (hC : CodeIn news c vs k l) (N : News g L s.heap nx)
    (hm : (c, listOf vs.toArray k) ∈ nx) (hx : vs[i]? = some v) (h : Q v s)
    (hs : subscripted slice false (.ref c) (.int i u) = operate [.ref c, .int i u] (getItem (.ref c) (.int i u)) := by with_unfolding_all rfl) (hg : ∀ r, letTemporaryGo value (.ref c) r = pure () := by intro _; with_unfolding_all rfl) :
    wpAny (model prog w) A (subscriptTail value slice (.ref c) (.int i u)) Q E s := by
  have hl : s.heap.IsList c vs.toArray := ⟨_, (N _ hm).1, rfl, k, rfl⟩
  have h1 := hC.len
  have h2 := hC.few
  have h3 := (List.getElem?_eq_some_iff.mp hx).1
  exact item_listL hl (by omega) (by omega) (by simpa using hx) h hs hg
theorem in_ops {prog : Program} {w : World} {A : Around} {E : Value → Shared → Prop} {s : Shared} {t : Addr} {items : Array Value} {ys : List Str} {x : Str} {u : Tok} {r : Bool} {Q : Value → Shared → Prop} (ht : IsTup s.heap t items) (hi : StrsAre items.toList ys) (e : ys.any (· == x) = r)
    (h : Q (.bool r) s) : wpAny (model prog w) A (compareOp .In (.str x u) (.ref t)) Q E s := in_tuple_strs ht hi (e ▸ h)
def unL : List Str := [Str.ofString "neg", Str.ofString "not"]
def binL : List Str := [Str.ofString "+", Str.ofString "-", Str.ofString "*", Str.ofString "//", Str.ofString "%", Str.ofString "<", Str.ofString "<=", Str.ofString "==", Str.ofString "!=", Str.ofString ">", Str.ofString ">="]
theorem bin_un (b : Bop) : unL.any (· == b.str) = false := by cases b <;> decide +kernel
theorem bin_bin (b : Bop) : binL.any (· == b.str) = true := by cases b <;> decide +kernel
theorem unk_un (u : Unk) : unL.any (· == u.str) = false := by cases u <;> decide +kernel
theorem unk_bin (u : Unk) : binL.any (· == u.str) = false := by cases u <;> decide +kernel
theorem fr_name {g h : Heap} {L : Addr} {m m' : Str → Option Value} {a : Str} {va : Value} (F : Fr g L h m' ∧ ∀ y, m' y = m y) (ha : m a = some va) : Fr g L h (fun y => if y = a then some va else m' y) ∧ ∀ y, (fun y => if y = a then some va else m' y) y = m y := by
  have q : ∀ y, (fun y => if y = a then some va else m' y) y = m y := by
    intro y
    dsimp only
    split
    · rename_i q; rw [q, ha]
    · exact F.2 y
  refine ⟨?_, q⟩
  rw [show (fun y => if y = a then some va else m' y) = m' from funext fun y => (q y).trans (F.2 y).symm]
  exact F.1
/-- what holds between two turns of the machine -/
def RJ (news : List (Addr × Obj)) (n : Int) (t0 : Tok) (c S W O : Addr) (code : List (Op × Int)) (j : Nat) (m : Str → Option Value) (nx : List (Addr × Obj)) : Prop :=
  ∃ i us ws os st sl out n1 n2 n3 tn tp, i ≤ code.length ∧ j = code.length - i ∧ nx = (S, listOf us.toArray n1) :: (W, listOf ws.toArray n2) :: (O, listOf os.toArray n3) :: news ∧ IntsAre us st ∧ IntsAre ws sl ∧ IntsAre os out ∧ Ok n i st sl out ∧
    m (Str.ofString "nslots") = some (.int n t0) ∧ m (Str.ofString "stack") = some (.ref S) ∧ m (Str.ofString "slots") = some (.ref W) ∧ m (Str.ofString "out") = some (.ref O) ∧
    m (Str.ofString "code") = some (.ref c) ∧ m (Str.ofString "n") = some (.int code.length tn) ∧ m (Str.ofString "pc") = some (.int i tp) ∧
    runs n code [] (List.replicate n.toNat 0) [] = runs n (code.drop i) st sl out
def Sh (x : Str) (k : Nat) : Prop := x.length ≤ 40 * k
theorem sh_empty {k : Nat} : Sh Str.empty k := Nat.zero_le _
theorem sh_app {a b : Str} {k : Nat} (ha : Sh a k) (hb : Sh b 1) : Sh (a ++ b) (k + 1) := by
  unfold Sh at *
  rw [PySem.Str.length_append]
  omega
theorem sh_size {a : Str} {k : Nat} (h : Sh a k) (hk : k ≤ 100) : a.length ≤ sizeLine := by
  unfold Sh at h
  rw [sizeLine_eq]
  omega
theorem sh_bin (b : Bop) : Sh b.str 1 := by cases b <;> (unfold Sh; decide +kernel)
theorem sh_unk (u : Unk) : Sh u.str 1 := by cases u <;> (unfold Sh; decide +kernel)
theorem sh_nat {i : Nat} (h : i < 8) : Sh (Str.ofString (toString (i : Int))) 1 := by
  have : ∀ j : Fin 8, Sh (Str.ofString (toString ((j.1 : Nat) : Int))) 1 := by unfold Sh; decide +kernel
  exact this ⟨i, h⟩
theorem sh_arg {a : Int} (h : -3 ≤ a ∧ a ≤ 3) : Sh (Str.ofString (toString a)) 1 := by
  have : ∀ j : Fin 7, Sh (Str.ofString (toString (((j.1 : Nat) : Int) - 3))) 1 := by unfold Sh; decide +kernel
  have h9 := this ⟨(a + 3).toNat, by omega⟩
  rw [show (((a + 3).toNat : Nat) : Int) - 3 = a by omega] at h9
  exact h9
theorem run_next {s : Shared} {g h' : Heap} {L S W O c : Addr} {Q : Flow → Shared → Prop} {m' : Str → Option Value} {us ws os : List Value} {k1 k2 k3 i tk' : Nat} {news : List (Addr × Obj)} {n arg : Int} {t0 tn tp : Tok} {op : Op} {code : List (Op × Int)}
    {st sl out st' sl' out' : List Int} (F : Fr g L h' m') (N : News g L h' ((S, listOf us.toArray k1) :: (W, listOf ws.toArray k2) :: (O, listOf os.toArray k3) :: news))
    (iS : IntsAre us st') (iW : IntsAre ws sl') (iO : IntsAre os out') (ok : Ok n i st sl out) (hft : Fit (op, arg)) (e : stp n op arg st sl out = .next st' sl' out')
    (hr : runs n code [] (List.replicate n.toNat 0) [] = runs n ((op, arg) :: code.drop (i + 1)) st sl out) (hli : i < code.length)
    (q1 : m' (Str.ofString "nslots") = some (.int n t0)) (q2 : m' (Str.ofString "stack") = some (.ref S)) (q3 : m' (Str.ofString "slots") = some (.ref W)) (q4 : m' (Str.ofString "out") = some (.ref O))
    (q5 : m' (Str.ofString "code") = some (.ref c)) (q6 : m' (Str.ofString "n") = some (.int code.length tn)) (q7 : m' (Str.ofString "pc") = some (.int ((i : Int) + 1) tp)) :
    WhileStep2 g L s (RJ news n t0 c S W O code) Q (code.length - i) .next { s with heap := h', toks := tk' } :=
  ⟨h', tk', m', _, code.length - (i + 1), rfl, F, N, by omega, i + 1, us, ws, os, st', sl', out', k1, k2, k3, tn, tp, hli, rfl, rfl, iS, iW, iO, ok_step ok hft e, q1, q2, q3, q4, q5, q6, q7.trans (by rw [Int.natCast_succ]), hr.trans (runs_next e)⟩
theorem raisedS_sub {base G h : Heap} {l : List Env} {e t : Addr} {cls : Value} {vs : List Value} {nx news : List (Addr × Obj)} (R : RaisedS base G l e cls t vs nx h) (hs : ∀ p ∈ news, p ∈ nx) : RaisedS base G l e cls t vs news h := by
  obtain ⟨⟨B, hB, hG, hl, hfl, hnew⟩, htup⟩ := R
  exact ⟨⟨B, hB, hG, fun q hq => hl q (hs q hq), hfl, hnew⟩, htup⟩
def Wait (P : Prop) : Prop := P
theorem stop_here {P : Prop} (h : Wait P) : P := h
local macro_rules | `(tactic| k_room) => `(tactic| ktr_room)
theorem run_ok (code : List (Op × Int)) (hfit : ∀ p ∈ code, Fit p) (hlen : code.length ≤ 8) (n : Int) (hn : 0 ≤ n) (hn3 : n ≤ 3) (c : Addr) (vs : List Value) (k : Nat) (fuel : Int) (t0 t1 : Tok) (w : World) (loose : List Str) (mean : ExcName → Option Value) (mg mb : Str → Option Value)
    (dp un : Nat) (gd : Option (List Code)) (cn : Str) (cs : Scope) (a : Addr) (ccd : Value) (outer : List Env) (A₀ : Around) (base h₀ : Heap) (L : Addr) (m : Str → Option Value) (news : List (Addr × Obj)) (s : Shared) (Q E : Value → Shared → Prop)
    (B : Below A₀ base outer h₀) (F : Fr h₀ L s.heap m) (X : (Mine.hd.heap_39 w.params).In h₀) (N : News h₀ L s.heap news) (T : Top Mine.hd.view_39 loose mean mg mb h₀) (hk : cs.kind = .function) (hd : dp + 220 < recursionLimit) (hu : un + 100 < cLine)
    (XB : (Mine.hd.heap_39 w.params).In base) (TB : Top Mine.hd.view_39 loose mean mg mb base) (D : KtsDicts (outer.filterMap (·.frame)) h₀)
    (hc : (c, listOf vs.toArray k) ∈ news) (hv : DatAll news vs (code.map datOf))
    (hret : ∀ r tl h' tk' h₁, ResIn tl r (runs n code [] (List.replicate n.toNat 0) []) → KtsTurn (outer.filterMap (·.frame)) h₀ h₁ → Fr h₁ L h' m → News h₁ L h' (tl ++ news) → Below A₀ base outer h₁ → (Mine.hd.heap_39 w.params).In h₁ → Top Mine.hd.view_39 loose mean mg mb h₁ → KtsDicts (outer.filterMap (·.frame)) h₁ → Q r { s with heap := h', toks := tk' })
    (hraise : ∀ e t us g h' tk', runs n code [] (List.replicate n.toNat 0) [] = .stuck → Fr h₀ L g m → RaisedS base g (envOf cn cs L a ccd :: outer) e (.ref 37) t us news h' → g.UpToSlots h' → E (.ref e) { s with heap := h', toks := tk' }) :
    wpAny (model Challenge.rw_pd_asmalltoolchain_2_02.row.prog w) (ktrTop dp un gd cn cs L a ccd [] outer) (call (.ref 63) [.ref c, .int n t0, .int fuel t1]) Q E s := by
  k_with_none
  k_with "exec While Compare" => (refine stop_here ?_)
  k_with "call builtin:len" => ((rename CodeIn _ _ _ _ _ => hC9); refine' code_len hC9 ?NW ?mW ?_; (case NW => k_asm); (case mW => (repeat first | exact CodeIn.mem hC9 | apply List.Mem.tail)))
  k_with "subscriptTail Name Name ref int" => ((rename CodeIn _ _ _ _ _ => hC9); (rename (_[_]? = some (Value.ref _)) => hx9); (with_reducible refine' code_item hC9 ?NW ?mW hx9 ?_); (case NW => k_asm); (case mW => (repeat first | exact CodeIn.mem hC9 | apply List.Mem.tail)))
  k_with "compareOp In str ref" => ((with_reducible show wpAny _ _ (compareOp CmpOp.In (Value.str (Bop.str _) _) _) _ _ _); first
  | ((with_reducible show wpAny _ _ (compareOp CmpOp.In _ (Value.ref 42)) _ _ _); k_dflt (refine' in_ops (ys := unL) ?k1W ?k2W (bin_un _) ?_; (case k1W => exact kun_topT (by k_asm) (by k_asm) (by k_is)); (case k2W => exact .cons _ _ (.cons _ _ .nil))))
  | ((with_reducible show wpAny _ _ (compareOp CmpOp.In _ (Value.ref 41)) _ _ _); k_dflt (refine' in_ops (ys := binL) ?k1W ?k2W (bin_bin _) ?_; (case k1W => exact kun_topT (by k_asm) (by k_asm) (by k_is)); (case k2W => exact .cons _ _ (.cons _ _ (.cons _ _ (.cons _ _ (.cons _ _ (.cons _ _ (.cons _ _ (.cons _ _ (.cons _ _ (.cons _ _ (.cons _ _ .nil))))))))))))))
  k_with "compareOp In str ref" => ((with_reducible show wpAny _ _ (compareOp CmpOp.In (Value.str (Unk.str _) _) _) _ _ _); first
  | ((with_reducible show wpAny _ _ (compareOp CmpOp.In _ (Value.ref 42)) _ _ _); k_dflt (refine' in_ops (ys := unL) ?k1W ?k2W (unk_un _) ?_; (case k1W => exact kun_topT (by k_asm) (by k_asm) (by k_is)); (case k2W => exact .cons _ _ (.cons _ _ .nil))))
  | ((with_reducible show wpAny _ _ (compareOp CmpOp.In _ (Value.ref 41)) _ _ _); k_dflt (refine' in_ops (ys := binL) ?k1W ?k2W (unk_bin _) ?_; (case k1W => exact kun_topT (by k_asm) (by k_asm) (by k_is)); (case k2W => exact .cons _ _ (.cons _ _ (.cons _ _ (.cons _ _ (.cons _ _ (.cons _ _ (.cons _ _ (.cons _ _ (.cons _ _ (.cons _ _ (.cons _ _ .nil))))))))))))))
  k_with "compareOp In str ref" => ((with_reducible show wpAny _ _ (compareOp CmpOp.In (Value.str (Str.ofString _) _) (Value.ref 42)) _ _ _); k_dflt (refine' in_ops (ys := unL) (r := true) ?k1W ?k2W ?k3W ?_; (case k3W => decide +kernel); (case k1W => exact kun_topT (by k_asm) (by k_asm) (by k_is)); (case k2W => exact .cons _ _ (.cons _ _ .nil))))
  k_with "And" => ((with_reducible show PySem.Str.length (_ ++ _) ≤ sizeLine ∧ wpAny _ _ (joinParts _ _) _ _ _); refine' ⟨sh_size (k := 12) ?aW ?bW, ?_⟩; (case aW => repeat' first | with_reducible assumption | with_reducible exact sh_empty | with_reducible refine sh_app ?_ ?_ | (unfold Sh; decide +kernel)); (case bW => decide))
  k_with "joinParts" => ((with_reducible show wpAny _ _ (joinParts _ (evalEach [] _)) _ _ _); refine joinParts_nilE ?_; refine' joinParts_nil ?_ ?zW; (case zW => refine' sh_size (k := 12) ?aW ?bW; (case aW => repeat' first | with_reducible assumption | with_reducible exact sh_empty | with_reducible refine sh_app ?_ ?_ | (unfold Sh; decide +kernel)); (case bW => decide)))
  k_with "formatField str" => ((with_reducible show wpAny _ _ (formatField (Value.str _ _) _) _ _ _); refine' formatField_str ?_ ?zW; (case zW => refine' sh_size (k := 1) ?aW ?bW; (case aW => first | with_reducible assumption | (unfold Sh; decide +kernel)); (case bW => decide)); intro _ _)
  k_with "compareOp Eq str str" => ((with_reducible show wpAny _ _ (compareOp CmpOp.Eq (Value.str (Bop.str _) _) (Value.str _ _)) _ _ _); refine eq_str ?_; first | rw [bin_push] | rw [bin_load] | rw [bin_store] | rw [bin_out] | rw [bin_neg] | rw [bin_not] | rw [bin_jz] | rw [bin_jmp] | rw [bin_back])
  k_with "compareOp Eq str str" => ((with_reducible show wpAny _ _ (compareOp CmpOp.Eq (Value.str (Unk.str _) _) (Value.str _ _)) _ _ _); refine eq_str ?_; first | rw [unk_push] | rw [unk_load] | rw [unk_store] | rw [unk_out] | rw [unk_neg] | rw [unk_not] | rw [unk_jz] | rw [unk_jmp] | rw [unk_back])
  k_with "call ref" => ((with_reducible show wpAny _ _ (call (Value.ref 49) _) _ _ _); k_dflt (refine' apply_ok _ _ _ _ _ _ _ _ _ _ _ ?hxW ?hyW _ _ _ _ _ _ _ _ _ _ _ _ _ _ _ _ _ ?BW ?FW ?XW ?NW ?TW ?kW ?dW ?uW ?hsW ?hnW; (case BW => k_asm); (case FW => k_asm); (case XW => k_asm); (case NW => k_asm); (case TW => k_asm); (case kW => exact rfl); (case dW => ktr_room); (case uW => ktr_units); (case hxW => assumption); (case hyW => assumption)); (case' hsW => intro v' t' h' tk' hval' F' N'); (case' hnW => intro e' t' us' g9 h' tk' hval' F' R' U'))
  w_top off; revert X; k_fill; intro X
  have hC : CodeIn news c vs k code.length := ⟨hc, by simpa using hv.length, hlen⟩
  refine wpAny_call ?_
  k_dflt (refine' code_defS ?k1 ?k2 ?k3 ?k4 ?k5 ?XB ?TB ?D ?T0 ?kA ?k6 ?k7 ?k8 ?k9 ?kB ?_ ?cK ?c2 ?c3 ?c4 ?c5; (case kA => exact rfl); (case k2 => k_asm); (case k1 => k_asm); (case XB => assumption); (case TB => assumption); (case D => assumption); (case T0 => exact KtsTurn.refl); (case k3 => k_asm); (case k4 => k_asm); (case k5 => k_asm); (case k6 => k_is); (case k7 => k_is); (case k8 => k_room); (case k9 => first | exact binds_K (by k_in) rfl (by k_is) rfl rfl rfl | exact BindsTo.of_eq rfl); (case kB => exact locs rfl); (case cK => exact hk); (case c2 => exact rfl); (case c3 => exact rfl); (case c4 => exact rfl); (case c5 => decide); k_whole; intro g' L' h' FG' F' N' B' X' T' D'; (try dsimp only); (try k_lift B'); (try k_fold))
  k_steps
  rename News _ _ _ _ => N9
  rename Fr _ _ _ _ => F9
  rename IntsAre _ _ => hI9
  rename CodeIn _ _ _ _ _ => hC
  rename_i tq4 hx0 tq3 S hx1 hSn hx2 tkz Z hx3 hSZ hx4 tq1 W hx5 nn e1 e2 e3 e4 hW hx6 tq0 O hx7 hO hx8 hx9 h9
  clear e1 e2 e3 e4
  have hmax : (if 0 > n then 0 else n) = n := if_neg (by omega)
  rw [hmax] at hI9 N9
  have hlt9 : ∀ p ∈ news, p.1 < h9.objs.size := fun p hp => Heap.lt_size (N9 p (.tail _ (.tail _ (.tail _ (.tail _ hp))))).1
  have hSW : S < W := hW.2.1
  have hWO : W < O := hO.1
  have hnO : ∀ p ∈ news, p.1 < S := hSn
  have hoff : OwnOff news [S, W, O] := by
    intro p hp b hb
    have := hnO p hp
    simp only [List.mem_cons, List.not_mem_nil, or_false] at hb
    rcases hb with rfl | rfl | rfl
    · exact Nat.ne_of_lt this
    · exact Nat.ne_of_lt (Nat.lt_trans this hSW)
    · exact Nat.ne_of_lt (Nat.lt_trans this (Nat.lt_trans hSW hWO))
  have hflat : (List.replicate n.toNat [(0 : Int)]).flatten = List.replicate n.toNat 0 := by simp
  rw [hflat] at hI9
  have N8 : News g' L' h9 ((S, listOf ([] : List Value).toArray 0) :: (W, listOf (List.replicate n.toNat [Value.int 0 tkz]).flatten.toArray 0) :: (O, listOf ([] : List Value).toArray 0) :: news) := by
    intro p hp
    rcases List.mem_cons.mp hp with rfl | hp
    · exact N9 _ (.tail _ (.tail _ (.tail _ (.head _))))
    rcases List.mem_cons.mp hp with rfl | hp
    · exact N9 _ (.tail _ (.head _))
    rcases List.mem_cons.mp hp with rfl | hp
    · exact N9 _ (.head _)
    · exact N9 _ (.tail _ (.tail _ (.tail _ (.tail _ hp))))
  clear N9 hW hO hSZ
  unfold Wait
  refine' While_inv2 (h₀ := g') (L := L') (n₀ := code.length) (RJ news n t0 c S W O code) F9 N8 ?hj ?turn ?hE
  case hj =>
    refine ⟨0, [], _, [], [], List.replicate n.toNat 0, [], 0, 0, 0, _, _, Nat.zero_le _, rfl, rfl, .nil, hI9, .nil, ⟨?_, ?_, ?_, ?_, ?_⟩, rfl, rfl, rfl, rfl, rfl, rfl, rfl, rfl⟩
    · intro v hv; cases hv
    · intro v hv; rw [(List.mem_replicate.mp hv).2]; decide
    · rw [List.length_replicate]; omega
    · exact Nat.le_refl _
    · exact Nat.le_refl _
  case hE => passes_own
  case turn =>
    rintro j m₁ nx h tk F N ⟨i, us, ws, os, st, sl, out, n1, n2, n3, tn, tp, hij, rfl, rfl, iS, iW, iO, ok, q1, q2, q3, q4, q5, q6, q7, hr⟩
    have F2 := (fr_name (fr_name (fr_name (fr_name (fr_name (fr_name (fr_name ⟨F, fun _ => rfl⟩ q1) q2) q3) q4) q5) q6) q7).1
    have hlS := iS.length
    have hlW := iW.length
    have hlO := iO.length
    have g1 := ok.lst
    have g2 := ok.lout
    have g3 := ok.lsl
    have hSWn : @LT.lt Nat _ S W := hSW
    have hWOn : @LT.lt Nat _ W O := hWO
    have hbl := bits_last ok.bst
    have hdu : us.dropLast.length = us.length - 1 := List.length_dropLast
    have hds : st.dropLast.length = st.length - 1 := List.length_dropLast
    have hduu : us.dropLast.dropLast.length = us.dropLast.length - 1 := List.length_dropLast
    have hdss : st.dropLast.dropLast.length = st.dropLast.length - 1 := List.length_dropLast
    have hbd := bits_last (bits_drop ok.bst)
    have hq : ∀ r tl h' tk' (m' : Str → Option Value) g₂, ResIn tl r (runs n code [] (List.replicate n.toNat 0) []) → KtsTurn (List.filterMap (fun x => x.frame) (envOf cn cs L a ccd :: outer)) g' g₂ → Fr g₂ L' h' m' → News g₂ L' h' (tl ++ news) → qk (.ret r) { s with heap := h', toks := tk' } :=
      fun r tl h' tk' m' g₂ hR hT F' N' => leaveS_r F' N' hT fun h₁ kT kF kN kB kX kP kD => hret r tl h' tk' h₁ hR kT kF kN kB kX kP kD
    by_cases hli : i < code.length
    case neg =>
      have hli' : code.drop i = [] := List.drop_eq_nil_of_le (by omega)
      rw [hli'] at hr
      clear hv F q1 q2 q3 q4 q5 q6 q7 hret
      clear_value qk
      k_steps
      refine' hq _ [(_, _), (_, listOf os.toArray n3)] _ _ _ _ (res_done iO hr ?e rfl) ?T ?F ?N
      case e => exact rfl
      case T => exact KtsTurn.refl
      case F => assumption
      case N => exact cb_drop (by assumption) (by kcj_all)
    case pos =>
      have hl8 : i < 8 := by omega
      obtain ⟨v, hvi, hD⟩ := hv.get (k := i) (by simpa using hli)
      rw [List.getElem_map] at hD
      have hdrop : code.drop i = code[i] :: code.drop (i + 1) := List.drop_eq_getElem_cons hli
      have hft := hfit _ (List.getElem_mem hli)
      generalize code[i] = p at hD hdrop hft
      obtain ⟨op, arg⟩ := p
      obtain ⟨pa, tp1, tp2, pn, rfl, hpm⟩ := pair_of hD
      dsimp only at hpm
      rw [hdrop] at hr
      have htup : IsTup h pa #[.str op.str tp1, .int arg tp2] := ⟨_, (N _ (.tail _ (.tail _ (.tail _ hpm)))).1, rfl, _, rfl⟩
      clear hv hD hpm F q1 q2 q3 q4 q5 q6 q7 hret
      clear_value qk
      have sh1 := sh_nat hl8
      have sh2 : (op = .load ∨ op = .store) → Sh (Str.ofString (toString arg)) 1 := fun q => sh_arg (hft.2 q)
      have sh3 := sh_bin
      have sh4 := sh_unk
      cases op
      case push =>
        all_goals (simp only [Op.str] at htup; k_steps)
        all_goals (first
          | ((with_reducible show WhileStep2 _ _ _ _ _ _ Flow.next _); (rename News _ _ _ _ => N1); (try simp only [List.push_toArray] at N1); refine' run_next ?F N1 ?iS ?iW ?iO ok hft ?e hr hli ?q1 ?q2 ?q3 ?q4 ?q5 ?q6 ?q7; (case F => assumption); (case iS => first | with_reducible assumption | exact ints_snoc (by with_reducible assumption)); (case iW => first | with_reducible assumption | exact ints_snoc (by with_reducible assumption)); (case iO => first | with_reducible assumption | exact ints_snoc (by with_reducible assumption)); (case q1 => rfl); (case q2 => rfl); (case q3 => rfl); (case q4 => rfl); (case q5 => rfl); (case q6 => rfl); (case q7 => rfl); (case e => first
            | exact stp_push
            | exact stp_not1 (by omega) (by assumption)
            | exact stp_not0 (by omega) (by assumption)
            | exact stp_bin (by omega) (by assumption)
            | (simp only [stp]; first | rfl | exact if_neg (by omega) | exact (if_neg (by omega)).trans (if_neg (by omega)))))
          | ((with_reducible show E _ _); refine' hraise _ _ _ _ _ _ (hr.trans (runs_stuck ?e)) ?F (raisedS_sub ?R ?hsub9) ?U; (case F => assumption); (case R => assumption); (case U => assumption); (case hsub9 => intro p hp; exact .tail _ (.tail _ (.tail _ hp))); (case e => first | exact stp_unk | exact stp_store0 (by omega) | (simp only [stp]; first | exact if_pos (by omega) | exact (if_neg (by omega)).trans (if_pos (by omega)))))
          | ((dsimp only [WhileStep2]); refine' hq _ [(_, _), (_, listOf os.toArray n3)] _ _ _ _ (res_error iO hr (runs_error ?e) rfl) ?T ?F ?N; (case e => exact stp_binE (by omega) (by assumption)); (case T => assumption); (case F => assumption); (case N => exact cb_drop (by assumption) (by kcj_all)))
          | skip)
      case load =>
        have sh5 := sh2 (.inl rfl)
        have rg := hft.2 (.inl rfl)
        dsimp only at rg
        all_goals (simp only [Op.str] at htup; k_steps)
        all_goals (first
          | ((with_reducible show WhileStep2 _ _ _ _ _ _ Flow.next _); (rename News _ _ _ _ => N1); (try simp only [List.push_toArray] at N1); refine' run_next ?F N1 ?iS ?iW ?iO ok hft ?e hr hli ?q1 ?q2 ?q3 ?q4 ?q5 ?q6 ?q7; (case F => assumption); (case iS => first | with_reducible assumption | exact ints_snoc (by with_reducible assumption)); (case iW => first | with_reducible assumption | exact ints_snoc (by with_reducible assumption)); (case iO => first | with_reducible assumption | exact ints_snoc (by with_reducible assumption)); (case q1 => rfl); (case q2 => rfl); (case q3 => rfl); (case q4 => rfl); (case q5 => rfl); (case q6 => rfl); (case q7 => rfl); (case e => first
            | exact stp_push
            | exact stp_not1 (by omega) (by assumption)
            | exact stp_not0 (by omega) (by assumption)
            | exact stp_bin (by omega) (by assumption)
            | (simp only [stp]; first | rfl | exact if_neg (by omega) | exact (if_neg (by omega)).trans (if_neg (by omega)))))
          | ((with_reducible show E _ _); refine' hraise _ _ _ _ _ _ (hr.trans (runs_stuck ?e)) ?F (raisedS_sub ?R ?hsub9) ?U; (case F => assumption); (case R => assumption); (case U => assumption); (case hsub9 => intro p hp; exact .tail _ (.tail _ (.tail _ hp))); (case e => first | exact stp_unk | exact stp_store0 (by omega) | (simp only [stp]; first | exact if_pos (by omega) | exact (if_neg (by omega)).trans (if_pos (by omega)))))
          | ((dsimp only [WhileStep2]); refine' hq _ [(_, _), (_, listOf os.toArray n3)] _ _ _ _ (res_error iO hr (runs_error ?e) rfl) ?T ?F ?N; (case e => exact stp_binE (by omega) (by assumption)); (case T => assumption); (case F => assumption); (case N => exact cb_drop (by assumption) (by kcj_all)))
          | skip)
      case store =>
        have sh5 := sh2 (.inr rfl)
        have rg := hft.2 (.inr rfl)
        dsimp only at rg
        all_goals (simp only [Op.str] at htup; k_steps)
        all_goals (first
          | ((with_reducible show WhileStep2 _ _ _ _ _ _ Flow.next _); (rename News _ _ _ _ => N1); (try simp only [List.push_toArray] at N1); refine' run_next ?F N1 ?iS ?iW ?iO ok hft ?e hr hli ?q1 ?q2 ?q3 ?q4 ?q5 ?q6 ?q7; (case F => assumption); (case iS => first | with_reducible assumption | exact ints_snoc (by with_reducible assumption)); (case iW => first | with_reducible assumption | exact ints_snoc (by with_reducible assumption)); (case iO => first | with_reducible assumption | exact ints_snoc (by with_reducible assumption)); (case q1 => rfl); (case q2 => rfl); (case q3 => rfl); (case q4 => rfl); (case q5 => rfl); (case q6 => rfl); (case q7 => rfl); (case e => first
            | exact stp_push
            | exact stp_not1 (by omega) (by assumption)
            | exact stp_not0 (by omega) (by assumption)
            | exact stp_bin (by omega) (by assumption)
            | (simp only [stp]; first | rfl | exact if_neg (by omega) | exact (if_neg (by omega)).trans (if_neg (by omega)))))
          | ((with_reducible show E _ _); refine' hraise _ _ _ _ _ _ (hr.trans (runs_stuck ?e)) ?F (raisedS_sub ?R ?hsub9) ?U; (case F => assumption); (case R => assumption); (case U => assumption); (case hsub9 => intro p hp; exact .tail _ (.tail _ (.tail _ hp))); (case e => first | exact stp_unk | exact stp_store0 (by omega) | (simp only [stp]; first | exact if_pos (by omega) | exact (if_neg (by omega)).trans (if_pos (by omega)))))
          | ((dsimp only [WhileStep2]); refine' hq _ [(_, _), (_, listOf os.toArray n3)] _ _ _ _ (res_error iO hr (runs_error ?e) rfl) ?T ?F ?N; (case e => exact stp_binE (by omega) (by assumption)); (case T => assumption); (case F => assumption); (case N => exact cb_drop (by assumption) (by kcj_all)))
          | skip)
      case out =>
        all_goals (simp only [Op.str] at htup; k_steps)
        all_goals (first
          | ((with_reducible show WhileStep2 _ _ _ _ _ _ Flow.next _); (rename News _ _ _ _ => N1); (try simp only [List.push_toArray] at N1); refine' run_next ?F N1 ?iS ?iW ?iO ok hft ?e hr hli ?q1 ?q2 ?q3 ?q4 ?q5 ?q6 ?q7; (case F => assumption); (case iS => first | with_reducible assumption | exact ints_snoc (by with_reducible assumption)); (case iW => first | with_reducible assumption | exact ints_snoc (by with_reducible assumption)); (case iO => first | with_reducible assumption | exact ints_snoc (by with_reducible assumption)); (case q1 => rfl); (case q2 => rfl); (case q3 => rfl); (case q4 => rfl); (case q5 => rfl); (case q6 => rfl); (case q7 => rfl); (case e => first
            | exact stp_push
            | exact stp_not1 (by omega) (by assumption)
            | exact stp_not0 (by omega) (by assumption)
            | exact stp_bin (by omega) (by assumption)
            | (simp only [stp]; first | rfl | exact if_neg (by omega) | exact (if_neg (by omega)).trans (if_neg (by omega)))))
          | ((with_reducible show E _ _); refine' hraise _ _ _ _ _ _ (hr.trans (runs_stuck ?e)) ?F (raisedS_sub ?R ?hsub9) ?U; (case F => assumption); (case R => assumption); (case U => assumption); (case hsub9 => intro p hp; exact .tail _ (.tail _ (.tail _ hp))); (case e => first | exact stp_unk | exact stp_store0 (by omega) | (simp only [stp]; first | exact if_pos (by omega) | exact (if_neg (by omega)).trans (if_pos (by omega)))))
          | ((dsimp only [WhileStep2]); refine' hq _ [(_, _), (_, listOf os.toArray n3)] _ _ _ _ (res_error iO hr (runs_error ?e) rfl) ?T ?F ?N; (case e => exact stp_binE (by omega) (by assumption)); (case T => assumption); (case F => assumption); (case N => exact cb_drop (by assumption) (by kcj_all)))
          | skip)
      case neg =>
        all_goals (simp only [Op.str] at htup; k_steps)
        all_goals (first
          | ((with_reducible show WhileStep2 _ _ _ _ _ _ Flow.next _); (rename News _ _ _ _ => N1); (try simp only [List.push_toArray] at N1); refine' run_next ?F N1 ?iS ?iW ?iO ok hft ?e hr hli ?q1 ?q2 ?q3 ?q4 ?q5 ?q6 ?q7; (case F => assumption); (case iS => first | with_reducible assumption | exact ints_snoc (by with_reducible assumption)); (case iW => first | with_reducible assumption | exact ints_snoc (by with_reducible assumption)); (case iO => first | with_reducible assumption | exact ints_snoc (by with_reducible assumption)); (case q1 => rfl); (case q2 => rfl); (case q3 => rfl); (case q4 => rfl); (case q5 => rfl); (case q6 => rfl); (case q7 => rfl); (case e => first
            | exact stp_push
            | exact stp_not1 (by omega) (by assumption)
            | exact stp_not0 (by omega) (by assumption)
            | exact stp_bin (by omega) (by assumption)
            | (simp only [stp]; first | rfl | exact if_neg (by omega) | exact (if_neg (by omega)).trans (if_neg (by omega)))))
          | ((with_reducible show E _ _); refine' hraise _ _ _ _ _ _ (hr.trans (runs_stuck ?e)) ?F (raisedS_sub ?R ?hsub9) ?U; (case F => assumption); (case R => assumption); (case U => assumption); (case hsub9 => intro p hp; exact .tail _ (.tail _ (.tail _ hp))); (case e => first | exact stp_unk | exact stp_store0 (by omega) | (simp only [stp]; first | exact if_pos (by omega) | exact (if_neg (by omega)).trans (if_pos (by omega)))))
          | ((dsimp only [WhileStep2]); refine' hq _ [(_, _), (_, listOf os.toArray n3)] _ _ _ _ (res_error iO hr (runs_error ?e) rfl) ?T ?F ?N; (case e => exact stp_binE (by omega) (by assumption)); (case T => assumption); (case F => assumption); (case N => exact cb_drop (by assumption) (by kcj_all)))
          | skip)
      case not =>
        all_goals (simp only [Op.str] at htup; k_steps)
        all_goals (first
          | ((with_reducible show WhileStep2 _ _ _ _ _ _ Flow.next _); (rename News _ _ _ _ => N1); (try simp only [List.push_toArray] at N1); refine' run_next ?F N1 ?iS ?iW ?iO ok hft ?e hr hli ?q1 ?q2 ?q3 ?q4 ?q5 ?q6 ?q7; (case F => assumption); (case iS => first | with_reducible assumption | exact ints_snoc (by with_reducible assumption)); (case iW => first | with_reducible assumption | exact ints_snoc (by with_reducible assumption)); (case iO => first | with_reducible assumption | exact ints_snoc (by with_reducible assumption)); (case q1 => rfl); (case q2 => rfl); (case q3 => rfl); (case q4 => rfl); (case q5 => rfl); (case q6 => rfl); (case q7 => rfl); (case e => first
            | exact stp_push
            | exact stp_not1 (by omega) (by assumption)
            | exact stp_not0 (by omega) (by assumption)
            | exact stp_bin (by omega) (by assumption)
            | (simp only [stp]; first | rfl | exact if_neg (by omega) | exact (if_neg (by omega)).trans (if_neg (by omega)))))
          | ((with_reducible show E _ _); refine' hraise _ _ _ _ _ _ (hr.trans (runs_stuck ?e)) ?F (raisedS_sub ?R ?hsub9) ?U; (case F => assumption); (case R => assumption); (case U => assumption); (case hsub9 => intro p hp; exact .tail _ (.tail _ (.tail _ hp))); (case e => first | exact stp_unk | exact stp_store0 (by omega) | (simp only [stp]; first | exact if_pos (by omega) | exact (if_neg (by omega)).trans (if_pos (by omega)))))
          | ((dsimp only [WhileStep2]); refine' hq _ [(_, _), (_, listOf os.toArray n3)] _ _ _ _ (res_error iO hr (runs_error ?e) rfl) ?T ?F ?N; (case e => exact stp_binE (by omega) (by assumption)); (case T => assumption); (case F => assumption); (case N => exact cb_drop (by assumption) (by kcj_all)))
          | skip)
      case bin b =>
        have sh5 := sh3 b
        all_goals (simp only [Op.str] at htup; k_steps)
        all_goals (first
          | ((with_reducible show WhileStep2 _ _ _ _ _ _ Flow.next _); (rename News _ _ _ _ => N1); (try simp only [List.push_toArray] at N1); refine' run_next ?F N1 ?iS ?iW ?iO ok hft ?e hr hli ?q1 ?q2 ?q3 ?q4 ?q5 ?q6 ?q7; (case F => assumption); (case iS => first | with_reducible assumption | exact ints_snoc (by with_reducible assumption)); (case iW => first | with_reducible assumption | exact ints_snoc (by with_reducible assumption)); (case iO => first | with_reducible assumption | exact ints_snoc (by with_reducible assumption)); (case q1 => rfl); (case q2 => rfl); (case q3 => rfl); (case q4 => rfl); (case q5 => rfl); (case q6 => rfl); (case q7 => rfl); (case e => first
            | exact stp_push
            | exact stp_not1 (by omega) (by assumption)
            | exact stp_not0 (by omega) (by assumption)
            | exact stp_bin (by omega) (by assumption)
            | (simp only [stp]; first | rfl | exact if_neg (by omega) | exact (if_neg (by omega)).trans (if_neg (by omega)))))
          | ((with_reducible show E _ _); refine' hraise _ _ _ _ _ _ (hr.trans (runs_stuck ?e)) ?F (raisedS_sub ?R ?hsub9) ?U; (case F => assumption); (case R => assumption); (case U => assumption); (case hsub9 => intro p hp; exact .tail _ (.tail _ (.tail _ hp))); (case e => first | exact stp_unk | exact stp_store0 (by omega) | (simp only [stp]; first | exact if_pos (by omega) | exact (if_neg (by omega)).trans (if_pos (by omega)))))
          | ((dsimp only [WhileStep2]); refine' hq _ [(_, _), (_, listOf os.toArray n3)] _ _ _ _ (res_error iO hr (runs_error ?e) rfl) ?T ?F ?N; (case e => exact stp_binE (by omega) (by assumption)); (case T => assumption); (case F => assumption); (case N => exact cb_drop (by assumption) (by kcj_all)))
          | skip)
      case unk u =>
        have sh5 := sh4 u
        all_goals (simp only [Op.str] at htup; k_steps)
        all_goals (first
          | ((with_reducible show WhileStep2 _ _ _ _ _ _ Flow.next _); (rename News _ _ _ _ => N1); (try simp only [List.push_toArray] at N1); refine' run_next ?F N1 ?iS ?iW ?iO ok hft ?e hr hli ?q1 ?q2 ?q3 ?q4 ?q5 ?q6 ?q7; (case F => assumption); (case iS => first | with_reducible assumption | exact ints_snoc (by with_reducible assumption)); (case iW => first | with_reducible assumption | exact ints_snoc (by with_reducible assumption)); (case iO => first | with_reducible assumption | exact ints_snoc (by with_reducible assumption)); (case q1 => rfl); (case q2 => rfl); (case q3 => rfl); (case q4 => rfl); (case q5 => rfl); (case q6 => rfl); (case q7 => rfl); (case e => first
            | exact stp_push
            | exact stp_not1 (by omega) (by assumption)
            | exact stp_not0 (by omega) (by assumption)
            | exact stp_bin (by omega) (by assumption)
            | (simp only [stp]; first | rfl | exact if_neg (by omega) | exact (if_neg (by omega)).trans (if_neg (by omega)))))
          | ((with_reducible show E _ _); refine' hraise _ _ _ _ _ _ (hr.trans (runs_stuck ?e)) ?F (raisedS_sub ?R ?hsub9) ?U; (case F => assumption); (case R => assumption); (case U => assumption); (case hsub9 => intro p hp; exact .tail _ (.tail _ (.tail _ hp))); (case e => first | exact stp_unk | exact stp_store0 (by omega) | (simp only [stp]; first | exact if_pos (by omega) | exact (if_neg (by omega)).trans (if_pos (by omega)))))
          | ((dsimp only [WhileStep2]); refine' hq _ [(_, _), (_, listOf os.toArray n3)] _ _ _ _ (res_error iO hr (runs_error ?e) rfl) ?T ?F ?N; (case e => exact stp_binE (by omega) (by assumption)); (case T => assumption); (case F => assumption); (case N => exact cb_drop (by assumption) (by kcj_all)))
          | skip)
end Mine

open PySem PySem.W PyProof.Rows
open PySem.Builtin.Int (intBits)
set_option Elab.async false
set_option maxRecDepth 100000
set_option maxHeartbeats 8000000
namespace Mine
local macro_rules | `(tactic| walk_at $s:str) => `(tactic| k_extra $s)

local macro_rules | `(tactic| k_room) => `(tactic| ktr_room)

theorem outcome_ok (code : List (Op × Int)) (hfit : ∀ p ∈ code, Fit p) (hlen : code.length ≤ 8) (n : Int) (hn : 0 ≤ n) (hn3 : n ≤ 3) (c : Addr) (vs : List Value) (k : Nat) (fuel : Int) (t0 t1 : Tok) (w : World) (loose : List Str) (mean : ExcName → Option Value) (mg mb : Str → Option Value)
    (dp un : Nat) (gd : Option (List Code)) (cn : Str) (cs : Scope) (a : Addr) (ccd : Value) (A₀ : Around) (base h₀ : Heap) (L : Addr) (m : Str → Option Value) (news : List (Addr × Obj)) (s : Shared) (Q E : Value → Shared → Prop)
    (B : Below A₀ base [] h₀) (F : Fr h₀ L s.heap m) (X : (Mine.hd.heap_39 w.params).In h₀) (N : News h₀ L s.heap news) (T : Top Mine.hd.view_39 loose mean mg mb h₀) (hk : cs.kind = .function) (hd : dp + 230 < recursionLimit) (hu : un + 110 < cLine)
    (XB : (Mine.hd.heap_39 w.params).In base) (TB : Top Mine.hd.view_39 loose mean mg mb base)
    (hc : (c, listOf vs.toArray k) ∈ news) (hv : DatAll news vs (code.map datOf))
    (hret : ∀ r tl h' tk', ResIn tl r (runs n code [] (List.replicate n.toNat 0) []) → Fr h₀ L h' m → News h₀ L h' (tl ++ news) → Q r { s with heap := h', toks := tk' }) :
    wpAny (model Challenge.rw_pd_asmalltoolchain_2_02.row.prog w) (ktrTop dp un gd cn cs L a ccd [] []) (call (.ref 130) [.ref c, .int n t0, .int fuel t1]) Q E s := by
  k_with_none
  k_with "call ref" => ((with_reducible show wpAny _ _ (call (Value.ref 63) _) _ _ _); (rename DatAll _ _ _ => hv9); k_dflt (refine' run_ok _ ?hfW ?hlW _ ?h0W ?h3W _ _ _ _ _ _ _ _ _ _ _ _ _ _ _ _ _ _ _ _ _ _ _ _ _ _ _ _ ?BW ?FW ?XW ?NW ?TW ?kW ?dW ?uW ?XBW ?TBW ?DW ?hcW hv9 ?hsW ?hnW; (case hfW => assumption); (case hlW => assumption); (case h0W => assumption); (case h3W => assumption); (case BW => k_asm); (case FW => k_asm); (case XW => k_asm); (case NW => k_asm); (case TW => k_asm); (case kW => exact rfl); (case dW => ktr_room); (case uW => ktr_units); (case XBW => assumption); (case TBW => assumption); (case DW => assumption); (case hcW => assumption)); (case' hsW => intro r' tl' h' tk' g9 hR' T' F' N' B' X' P' D'); (case' hnW => intro e' t' us' g9 h' tk' hst' F' R' U'))
  w_top off; revert X; k_fill; intro X
  refine wpAny_call ?_
  k_dflt (refine' code_defS0 ?k1 ?k2 ?k3 ?k4 ?k5 ?kA ?k6 ?k7 ?k8 ?k9 ?kB ?_ ?cK ?c2 ?c3 ?c4 ?c5; (case kA => exact rfl); (case k2 => k_asm); (case k1 => k_asm); (case k3 => k_asm); (case k4 => k_asm); (case k5 => k_asm); (case k6 => k_is); (case k7 => k_is); (case k8 => k_room); (case k9 => first | exact binds_K (by k_in) rfl (by k_is) rfl rfl rfl | exact BindsTo.of_eq rfl); (case kB => exact locs rfl); (case cK => exact hk); (case c2 => exact rfl); (case c3 => exact rfl); (case c4 => exact rfl); (case c5 => decide); k_whole; intro g' L' h' FG' F' N' B' X' T' D'; (try dsimp only); (try k_lift B'); (try k_fold))
  k_steps
  all_goals (first
    | exact hret _ [] _ _ (res_stuck (by assumption) rfl) (by assumption) (by assumption)
    | exact hret _ _ _ _ (by assumption) (by assumption) (by assumption))
end Mine

open PySem PySem.W PyProof.Rows
open PySem.Builtin.Int (intBits)
set_option Elab.async false
set_option maxRecDepth 100000
set_option maxHeartbeats 8000000
namespace Mine

inductive Kd where
  | push | raw | load | store | unary | binary | unknown | out
def Kd.str : Kd → Str
  | .push => Str.ofString "push" | .raw => Str.ofString "raw" | .load => Str.ofString "load" | .store => Str.ofString "store" | .unary => Str.ofString "unary" | .binary => Str.ofString "binary" | .unknown => Str.ofString "unknown" | .out => Str.ofString "out"
theorem fit_plain {op : Op} {a : Int} (hb : intBits a ≤ 2 ^ 20) (h1 : op ≠ .load) (h2 : op ≠ .store) : Fit (op, a) := ⟨hb, fun q => (q.elim h1 h2).elim⟩
theorem fit_slot {op : Op} {sl : List Int} {i : Nat} (h : ∀ v ∈ (0 : Int) :: sl, (-3 ≤ v ∧ v ≤ 3) ∧ intBits v ≤ 2 ^ 20) : Fit (op, sl.getD i 0) := by
  have q : sl.getD i 0 ∈ (0 : Int) :: sl := by
    rw [List.getD_eq_getElem?_getD]
    cases e : sl[i]? with
    | none => exact .head _
    | some v => exact .tail _ (List.mem_of_getElem? e)
  exact ⟨(h _ q).2, fun _ => (h _ q).1⟩
theorem bits_small (cell : Int) : intBits (cell.fmod 12 - 3) ≤ 2 ^ 20 := by
  have h1 := Int.fmod_nonneg_of_pos cell (b := 12) (by decide)
  have h2 := Int.fmod_lt_of_pos cell (b := 12) (by decide)
  have := intBits_le_64 (k := cell.fmod 12 - 3) (by omega) (by omega)
  omega
theorem bin_at (cell : Int) : ∃ b : Bop, [Str.ofString "+", Str.ofString "-", Str.ofString "*", Str.ofString "//", Str.ofString "%", Str.ofString "<", Str.ofString "<=", Str.ofString "==", Str.ofString "!=", Str.ofString ">", Str.ofString ">="].getD (cell.fmod 11).toNat Str.empty = b.str := by
  have h1 := Int.fmod_nonneg_of_pos cell (b := 11) (by decide)
  have h2 := Int.fmod_lt_of_pos cell (b := 11) (by decide)
  have h3 : (cell.fmod 11).toNat < 11 := by omega
  generalize (cell.fmod 11).toNat = i at h3
  match i, h3 with
  | 0, _ => exact ⟨.add, rfl⟩
  | 1, _ => exact ⟨.sub, rfl⟩
  | 2, _ => exact ⟨.mul, rfl⟩
  | 3, _ => exact ⟨.div, rfl⟩
  | 4, _ => exact ⟨.mod, rfl⟩
  | 5, _ => exact ⟨.lt, rfl⟩
  | 6, _ => exact ⟨.le, rfl⟩
  | 7, _ => exact ⟨.eq, rfl⟩
  | 8, _ => exact ⟨.ne, rfl⟩
  | 9, _ => exact ⟨.gt, rfl⟩
  | 10, _ => exact ⟨.ge, rfl⟩
local macro_rules | `(tactic| k_room) => `(tactic| ktr_room)
theorem pair_ok (kd : Kd) (cell : Int) (hb : intBits cell ≤ 2 ^ 20) (t0 t1 : Tok) (w : World) (loose : List Str) (mean : ExcName → Option Value) (mg mb : Str → Option Value)
    (dp un : Nat) (gd : Option (List Code)) (cn : Str) (cs : Scope) (a : Addr) (ccd : Value) (outer : List Env) (A₀ : Around) (base h₀ : Heap) (L : Addr) (m : Str → Option Value) (news : List (Addr × Obj)) (s : Shared) (Q E : Value → Shared → Prop)
    (B : Below A₀ base outer h₀) (F : Fr h₀ L s.heap m) (X : (Mine.hd.heap_39 w.params).In h₀) (N : News h₀ L s.heap news) (T : Top Mine.hd.view_39 loose mean mg mb h₀) (hk : cs.kind = .function) (hd : dp + 200 < recursionLimit) (hu : un + 80 < cLine)
    (hret : ∀ p D t t' j h' tk', Fit p → Fr h₀ L h' m → News h₀ L h' ((D, ({ cls := .type "tuple", data := .seq #[.str p.1.str t, .int p.2 t'] j } : Obj)) :: news) → (∀ q ∈ news, q.1 < D) → Q (.ref D) { s with heap := h', toks := tk' }) :
    wpAny (model Challenge.rw_pd_asmalltoolchain_2_02.row.prog w) (ktrTop dp un gd cn cs L a ccd [] outer) (call (.ref 102) [.str kd.str t0, .int cell t1]) Q E s := by
  k_with_none
  w_top off; revert X; k_fill; intro X
  refine wpAny_call ?_
  cases kd
  case push =>
    dsimp only [Kd.str]
    k_dflt cell_enter
    k_steps
    all_goals (try clear qk ek)
    all_goals (refine' hret (.push, _) _ _ _ _ _ _ ?f ?F ?N ?l; (case F => assumption); (case N => assumption); (case l => assumption); (case f => exact fit_plain (bits_getD (by decide +kernel)) nofun nofun))
  case raw =>
    dsimp only [Kd.str]
    k_dflt cell_enter
    k_steps
    all_goals (try clear qk ek)
    all_goals (refine' hret (.push, _) _ _ _ _ _ _ ?f ?F ?N ?l; (case F => assumption); (case N => assumption); (case l => assumption); (case f => exact fit_plain hb nofun nofun))
  case load =>
    dsimp only [Kd.str]
    k_dflt cell_enter
    k_steps
    all_goals (try clear qk ek)
    all_goals (refine' hret (.load, _) _ _ _ _ _ _ ?f ?F ?N ?l; (case F => assumption); (case N => assumption); (case l => assumption); (case f => exact fit_slot (by decide +kernel)))
  case store =>
    dsimp only [Kd.str]
    k_dflt cell_enter
    k_steps
    all_goals (try clear qk ek)
    all_goals (refine' hret (.store, _) _ _ _ _ _ _ ?f ?F ?N ?l; (case F => assumption); (case N => assumption); (case l => assumption); (case f => exact fit_slot (by decide +kernel)))
  case unary =>
    dsimp only [Kd.str]
    k_dflt cell_enter
    k_steps
    all_goals (try clear qk ek)
    all_goals (first
      | (refine' hret (.neg, _) _ _ _ _ _ _ ?f ?F ?N ?l; (case N => assumption); (case F => assumption); (case l => assumption); (case f => exact fit_plain (bits_small cell) nofun nofun))
      | (refine' hret (.not, _) _ _ _ _ _ _ ?f ?F ?N ?l; (case N => assumption); (case F => assumption); (case l => assumption); (case f => exact fit_plain (bits_small cell) nofun nofun))
      )
  case binary =>
    dsimp only [Kd.str]
    k_dflt cell_enter
    k_steps
    all_goals (try clear qk ek)
    rename News _ _ _ _ => N1
    obtain ⟨b, hb9⟩ := bin_at cell
    rw [hb9] at N1
    all_goals (first
      | (refine' hret (.bin b, _) _ _ _ _ _ _ ?f ?F ?N ?l; (case N => assumption); (case F => assumption); (case l => assumption); (case f => exact fit_plain (bits_small cell) nofun nofun))
      )
  case unknown =>
    dsimp only [Kd.str]
    k_dflt cell_enter
    k_steps
    all_goals (try clear qk ek)
    all_goals (first
      | (refine' hret (.unk .a, _) _ _ _ _ _ _ ?f ?F ?N ?l; (case N => assumption); (case F => assumption); (case l => assumption); (case f => exact fit_plain (bits_small cell) nofun nofun))
      | (refine' hret (.unk .b, _) _ _ _ _ _ _ ?f ?F ?N ?l; (case N => assumption); (case F => assumption); (case l => assumption); (case f => exact fit_plain (bits_small cell) nofun nofun))
      | (refine' hret (.unk .c, _) _ _ _ _ _ _ ?f ?F ?N ?l; (case N => assumption); (case F => assumption); (case l => assumption); (case f => exact fit_plain (bits_small cell) nofun nofun))
      | (refine' hret (.unk .d, _) _ _ _ _ _ _ ?f ?F ?N ?l; (case N => assumption); (case F => assumption); (case l => assumption); (case f => exact fit_plain (bits_small cell) nofun nofun))
      )
  case out =>
    dsimp only [Kd.str]
    k_dflt cell_enter
    k_steps
    all_goals (try clear qk ek)
    all_goals (first
      | (refine' hret (.out, _) _ _ _ _ _ _ ?f ?F ?N ?l; (case N => assumption); (case F => assumption); (case l => assumption); (case f => exact fit_plain (bits_small cell) nofun nofun))
      )
end Mine

open PySem PySem.W PyProof.Rows
open PySem.Builtin.Int (intBits)
set_option Elab.async false
set_option maxRecDepth 100000
set_option maxHeartbeats 8000000
namespace Mine
local macro_rules | `(tactic| walk_at $s:str) => `(tactic| k_extra $s)

theorem cell_ok (w : World) (loose : List Str) (mean : ExcName → Option Value) (mg mb : Str → Option Value) :
    CellTells Challenge.rw_pd_asmalltoolchain_2_02.row.prog w (Mine.hd.heap_39 w.params) Mine.hd.view_39 loose mean mg mb 95 0 := by
  k_with_none
  w_top off; k_fill
  cell_step
local macro_rules | `(tactic| k_room) => `(tactic| ktr_room)
def kdOf (x : Str) : Option Kd :=
  if x = Str.ofString "push" then some .push else if x = Str.ofString "raw" then some .raw else if x = Str.ofString "load" then some .load else if x = Str.ofString "store" then some .store else
  if x = Str.ofString "unary" then some .unary else if x = Str.ofString "binary" then some .binary else if x = Str.ofString "unknown" then some .unknown else if x = Str.ofString "out" then some .out else none
theorem kdOf_str {x : Str} (h : (kdOf x).isSome = true) : ∃ kd : Kd, x = kd.str := by
  unfold kdOf at h
  repeat' (split at h)
  · exact ⟨.push, by assumption⟩
  · exact ⟨.raw, by assumption⟩
  · exact ⟨.load, by assumption⟩
  · exact ⟨.store, by assumption⟩
  · exact ⟨.unary, by assumption⟩
  · exact ⟨.binary, by assumption⟩
  · exact ⟨.unknown, by assumption⟩
  · exact ⟨.out, by assumption⟩
  · cases h
theorem item_kd {prog : Program} {w : World} {A : Around} {E : Value → Shared → Prop} {s : Shared} {value slice : Expr} {t : Addr} {items : Array Value} {tbl : List Str} {x : Int} {u : Tok} {Q : Value → Shared → Prop} (ht : IsTup s.heap t items) (hi : StrsAre items.toList tbl) (hl : tbl.length = 12)
    (hk : tbl.all (fun x => (kdOf x).isSome || x == Str.ofString "again") = true) (h : ∀ (kd : Kd) u', Q (.str kd.str u') s) (h2 : tbl.any (· == Str.ofString "again") = true → ∀ u', Q (.str (Str.ofString "again") u') s)
    (hs : subscripted slice false (.ref t) (.int (x.fmod 12) u) = operate [.ref t, .int (x.fmod 12) u] (getItem (.ref t) (.int (x.fmod 12) u)) := by with_unfolding_all rfl) :
    wpAny (model prog w) A (subscriptTail value slice (.ref t) (.int (x.fmod 12) u)) Q E s := by
  have h1 := Int.fmod_nonneg_of_pos x (b := 12) (by decide)
  have h3 := Int.fmod_lt_of_pos x (b := 12) (by decide)
  have hlt : (x.fmod 12).toNat < tbl.length := by omega
  have hsz : items.size = 12 := by
    have e := hi.length
    rw [hl] at e
    simpa using e
  obtain ⟨u', hx⟩ := hi.get (x.fmod 12).toNat _ (List.getElem?_eq_getElem hlt)
  have hm : tbl[(x.fmod 12).toNat] ∈ tbl := List.getElem_mem hlt
  have hq := List.all_eq_true.mp hk _ hm
  have ht' : IsTup s.heap t items.toList.toArray := by simpa using ht
  refine item_tupleT (j := (x.fmod 12).toNat) ht' (by omega) (by omega) (seqIndex_of h1 (by simp; omega)) hx ?_ hs
  generalize tbl[(x.fmod 12).toNat] = y at hm hq hx
  rcases (Bool.or_eq_true _ _).mp hq with hq | hq
  · obtain ⟨kd, rfl⟩ := kdOf_str hq
    exact h kd u'
  · have e : y = Str.ofString "again" := by simpa using hq
    subst e
    exact h2 (List.any_eq_true.mpr ⟨_, hm, by simp⟩) u'
theorem kd_again (kd : Kd) : (kd.str == Str.ofString "again") = false := by cases kd <;> decide +kernel
/-- one of the four tables of kinds, at a turn -/
def Tb (g : Heap) (tb : Addr) (i : Nat) : Prop := ∃ (items : Array Value) (tbl : List Str), IsTup g tb items ∧ StrsAre items.toList tbl ∧ tbl.length = 12 ∧ tbl.all (fun x => (kdOf x).isSome || x == Str.ofString "again") = true ∧ (tbl.any (· == Str.ofString "again") = true → 0 < i)
theorem tb_of {K : Frag} {g : Heap} {tb : Addr} {items : Array Value} {n : Nat} {d : Option Addr} {sl : Array (Option Value)} {tbl : List Str} {i : Nat} (X : K.In g) (ho : K.lookup tb = some { cls := .type "tuple", dict := d, data := .seq items n, slots := sl }) (hi : StrsAre items.toList tbl) (hl : tbl.length = 12)
    (hk : tbl.all (fun x => (kdOf x).isSome || x == Str.ofString "again") = true) (hp : tbl.any (· == Str.ofString "again") = true → 0 < i) : Tb g tb i := ⟨items, tbl, ⟨_, X _ _ ho, rfl, _, rfl⟩, hi, hl, hk, hp⟩
theorem kinds_item {prog : Program} {w : World} {A : Around} {E : Value → Shared → Prop} {s : Shared} {value slice : Expr} {g : Heap} {i : Nat} {u : Tok} {Q : Value → Shared → Prop} (hT : IsTup s.heap 74 [Value.ref 70, .ref 71, .ref 72, .ref 73].toArray) (hTbs : ∀ j : Nat, j < 4 → Tb g (70 + j) j) (hi : i < 8)
    (h : ∀ tb, Tb g tb i → Q (.ref tb) s)
    (hs : subscripted slice false (.ref 74) (.int ((i : Int).fmod 4) u) = operate [.ref 74, .int ((i : Int).fmod 4) u] (getItem (.ref 74) (.int ((i : Int).fmod 4) u)) := by with_unfolding_all rfl) :
    wpAny (model prog w) A (subscriptTail value slice (.ref 74) (.int ((i : Int).fmod 4) u)) Q E s := by
  have e : (i : Int).fmod 4 = ((i % 4 : Nat) : Int) := by
    rw [Int.fmod_eq_emod_of_nonneg _ (by decide)]
    omega
  have h4 : i % 4 < 4 := Nat.mod_lt _ (by decide)
  have hle : i % 4 ≤ i := Nat.mod_le _ _
  rw [e] at hs ⊢
  generalize hj : i % 4 = j at h4 hle hs
  have hx : [Value.ref 70, .ref 71, .ref 72, .ref 73][j]? = some (.ref (70 + j)) := by
    match j, h4 with
    | 0, _ => rfl
    | 1, _ => rfl
    | 2, _ => rfl
    | 3, _ => rfl
  refine item_tupleT (j := j) hT (by omega) (by omega) (seqIndex_of (by omega) (by simp; omega)) hx ?_ hs
  refine h _ ?_
  obtain ⟨items, tbl, h1, h2, h3, h5, h6⟩ := hTbs j h4
  exact ⟨items, tbl, h1, h2, h3, h5, fun q => Nat.lt_of_lt_of_le (h6 q) hle⟩
theorem item_tb {prog : Program} {w : World} {A : Around} {E : Value → Shared → Prop} {s : Shared} {value slice : Expr} {g : Heap} {L tb : Addr} {m : Str → Option Value} {i : Nat} {x : Int} {u : Tok} {Q : Value → Shared → Prop} (F : Fr g L s.heap m) (hT : Tb g tb i)
    (h : ∀ (kd : Kd) u', Q (.str kd.str u') s) (h2 : 0 < i → ∀ u', Q (.str (Str.ofString "again") u') s)
    (hs : subscripted slice false (.ref tb) (.int (x.fmod 12) u) = operate [.ref tb, .int (x.fmod 12) u] (getItem (.ref tb) (.int (x.fmod 12) u)) := by with_unfolding_all rfl) :
    wpAny (model prog w) A (subscriptTail value slice (.ref tb) (.int (x.fmod 12) u)) Q E s := by
  obtain ⟨items, tbl, ⟨o, ho, r⟩, h3, h4, h5, h6⟩ := hT
  exact item_kd ⟨o, F.keep _ _ ho, r⟩ h3 h4 h5 h (fun q => h2 (h6 q)) hs
theorem item_again {prog : Program} {w : World} {A : Around} {E : Value → Shared → Prop} {s : Shared} {g : Heap} {L c : Addr} {nx tl : List (Addr × Obj)} {vs : List Value} {k : Nat} {code : List (Op × Int)} {value slice : Expr} {u : Tok} {Q : Value → Shared → Prop} (N : News g L s.heap nx)
    (hm : (c, listOf vs.toArray k) ∈ nx) (hD : DatAll tl vs (code.map datOf)) (hp : 0 < code.length) (hp8 : code.length ≤ 8) (h : ∀ a p, p ∈ code → DatIn tl (.ref a) (datOf p) → Q (.ref a) s)
    (hs : subscripted slice false (.ref c) (.int (-1) u) = operate [.ref c, .int (-1) u] (getItem (.ref c) (.int (-1) u)) := by with_unfolding_all rfl) :
    wpAny (model prog w) A (subscriptTail value slice (.ref c) (.int (-1) u)) Q E s := by
  have hl : s.heap.IsList c vs.toArray := ⟨_, (N _ hm).1, rfl, k, rfl⟩
  have e := hD.length
  rw [List.length_map] at e
  have hk : code.length - 1 < (code.map datOf).length := by rw [List.length_map]; omega
  obtain ⟨v, hv, hd⟩ := hD.get hk
  rw [List.getElem_map] at hd
  obtain ⟨a, _, _, _, rfl, _⟩ := pair_of hd
  have hi : ((-1 : Int) + (vs.toArray.size : Nat)).toNat = code.length - 1 := by simp; omega
  refine tail_any hl.typeIs slot_list_getitem.lookup (wpAny_getItem_list_neg hl (by decide) (by simp; omega) (by decide) (by rw [hi]; simpa using hv) (h a _ (List.getElem_mem (by omega)) hd)) hs
/-- what holds between two turns of the code's writing -/
def CJ (news : List (Addr × Obj)) (script c I : Addr) (i : Nat) (m : Str → Option Value) (nx : List (Addr × Obj)) : Prop :=
  ∃ (code : List (Op × Int)) (vs : List Value) (k : Nat) (tl : List (Addr × Obj)), nx = (c, listOf vs.toArray k) :: (tl ++ news) ∧ DatAll tl vs (code.map datOf) ∧ (∀ p ∈ code, Fit p) ∧ code.length = i ∧ (∀ q ∈ tl, I < q.1) ∧ c < I ∧ m (Str.ofString "code") = some (.ref c) ∧ m (Str.ofString "script") = some (.ref script)
abbrev mapOf {g h : Heap} {L : Addr} {m : Str → Option Value} (_ : Fr g L h m) : Str → Option Value := m
theorem code_next {s : Shared} {g h' : Heap} {L I c script : Addr} {o : Obj} {Q : Flow → Shared → Prop} {m' : Str → Option Value} {nx tl tl' news : List (Addr × Obj)} {vs : List Value} {k' i tk' : Nat} {code : List (Op × Int)} {p : Op × Int} {v : Value}
    (F : Fr g L h' m') (N : News g L h' nx) (hN : ∀ q ∈ (I, o) :: (c, listOf (vs ++ [v]).toArray k') :: (tl' ++ news), q ∈ nx) (hD : DatAll tl vs (code.map datOf)) (hs : ∀ q ∈ tl, q ∈ tl') (hv : DatIn tl' v (datOf p)) (hF : ∀ q ∈ code, Fit q) (hp : Fit p) (hl : code.length = i)
    (htl : ∀ q ∈ tl', I < q.1) (hcI : c < I) (q1 : m' (Str.ofString "code") = some (.ref c)) (q2 : m' (Str.ofString "script") = some (.ref script)) :
    Turned s g L (I, o) (CJ news script c I (i + 1)) Q .next { s with heap := h', toks := tk' } := by
  refine ⟨h', tk', m', _, rfl, F, fun q hq => N q (hN q hq), code ++ [p], vs ++ [v], k', tl', rfl, ?_, ?_, ?_, htl, hcI, q1, q2⟩
  · rw [List.map_append]
    exact (hD.mono hs).append (.one hv)
  · intro q hq
    rcases List.mem_append.mp hq with hq | hq
    · exact hF q hq
    · rw [List.mem_singleton.mp hq]; exact hp
  · simp [hl]
theorem code_again {s : Shared} {g h' : Heap} {L I c script a : Addr} {o : Obj} {Q : Flow → Shared → Prop} {m' : Str → Option Value} {tl news : List (Addr × Obj)} {vs : List Value} {k' i tk' : Nat} {code : List (Op × Int)} {p : Op × Int}
    (F : Fr g L h' m') (N : News g L h' ((I, o) :: (c, listOf (vs.toArray.push (.ref a)) k') :: (tl ++ news))) (hD : DatAll tl vs (code.map datOf)) (hF : ∀ q ∈ code, Fit q) (hp : p ∈ code) (hd : DatIn tl (.ref a) (datOf p)) (hl : code.length = i)
    (htl : ∀ q ∈ tl, I < q.1) (hcI : c < I) (q1 : m' (Str.ofString "code") = some (.ref c)) (q2 : m' (Str.ofString "script") = some (.ref script)) :
    Turned s g L (I, o) (CJ news script c I (i + 1)) Q .next { s with heap := h', toks := tk' } := by
  rw [List.push_toArray] at N
  exact code_next (tl' := tl) F N (fun _ h => h) hD (fun _ h => h) hd hF (hF p hp) hl htl hcI q1 q2
theorem code_pair {s : Shared} {g h' : Heap} {L I c script D : Addr} {o : Obj} {Q : Flow → Shared → Prop} {m' : Str → Option Value} {tl news : List (Addr × Obj)} {vs : List Value} {k' i j tk' : Nat} {t t' : Tok} {code : List (Op × Int)} {p : Op × Int}
    (F : Fr g L h' m') (N : News g L h' ((D, ({ cls := .type "tuple", data := .seq #[.str p.1.str t, .int p.2 t'] j } : Obj)) :: (I, o) :: (c, listOf (vs.toArray.push (.ref D)) k') :: (tl ++ news))) (hD : DatAll tl vs (code.map datOf)) (hF : ∀ q ∈ code, Fit q) (hp : Fit p) (hl : code.length = i)
    (hID : I < D) (htl : ∀ q ∈ tl, I < q.1) (hcI : c < I) (q1 : m' (Str.ofString "code") = some (.ref c)) (q2 : m' (Str.ofString "script") = some (.ref script)) :
    Turned s g L (I, o) (CJ news script c I (i + 1)) Q .next { s with heap := h', toks := tk' } := by
  rw [List.push_toArray] at N
  refine code_next (tl' := (D, ({ cls := .type "tuple", data := .seq #[.str p.1.str t, .int p.2 t'] j } : Obj)) :: tl) (p := p) (v := .ref D) (k' := k') F N ?_ hD (fun _ h => .tail _ h) ?_ hF hp hl ?_ hcI q1 q2
  · intro q hq
    rcases List.mem_cons.mp hq with rfl | hq
    · exact .tail _ (.head _)
    rcases List.mem_cons.mp hq with rfl | hq
    · exact .tail _ (.tail _ (.head _))
    rcases List.mem_cons.mp hq with rfl | hq
    · exact .head _
    · exact .tail _ (.tail _ (.tail _ hq))
  · exact .tuple (vs := [.str p.1.str t, .int p.2 t']) (.head _) (.cons (.str _ _) (.cons (.int _ _) .nil))
  · intro q hq
    rcases List.mem_cons.mp hq with rfl | hq
    · exact hID
    · exact htl q hq
theorem code_ok (script : Addr) (xs : List Value) (ns : List Int) (hI : IntsAre xs ns) (hns : ns.length < 2 ^ 62) (hbits : ∀ i, intBits (cellAt ns i 0) ≤ 2 ^ 20) (w : World) (loose : List Str) (mean : ExcName → Option Value) (mg mb : Str → Option Value)
    (dp un : Nat) (gd : Option (List Code)) (cn : Str) (cs : Scope) (a : Addr) (ccd : Value) (outer : List Env) (A₀ : Around) (base h₀ : Heap) (L : Addr) (m : Str → Option Value) (news : List (Addr × Obj)) (s : Shared) (Q E : Value → Shared → Prop)
    (B : Below A₀ base outer h₀) (F : Fr h₀ L s.heap m) (X : (Mine.hd.heap_39 w.params).In h₀) (N : News h₀ L s.heap news) (T : Top Mine.hd.view_39 loose mean mg mb h₀) (hk : cs.kind = .function) (hd : dp + 230 < recursionLimit) (hu : un + 110 < cLine)
    (hL : base.IsList script xs.toArray)
    (hret : ∀ (code : List (Op × Int)) c (vs : List Value) k tl h' tk', (∀ p ∈ code, Fit p) → code.length ≤ 8 → (c, listOf vs.toArray k) ∈ tl → DatAll tl vs (code.map datOf) → Fr h₀ L h' m → News h₀ L h' (tl ++ news) → Q (.ref c) { s with heap := h', toks := tk' }) :
    wpAny (model Challenge.rw_pd_asmalltoolchain_2_02.row.prog w) (ktrTop dp un gd cn cs L a ccd [] outer) (call (.ref 109) [.ref script]) Q E s := by
  k_with_none
  k_with "exec For Name Call cons nil" => (refine stop_here ?_)
  k_with "subscriptTail" => ((with_reducible show wpAny _ _ (subscriptTail _ _ (Value.ref _) (Value.int (Int.fmod (cellAt _ _ _) 12) _)) _ _ _); (rename Tb _ _ _ => hTb9); k_dflt (refine' item_tb ?F9W hTb9 ?h19W ?h29W; (case F9W => k_asm)); (case' h29W => intro hp9 _); (case' h19W => intro _ _))
  k_with "subscriptTail" => ((with_reducible show wpAny _ _ (subscriptTail _ _ (Value.ref 74) (Value.int _ _)) _ _ _); (rename (∀ j : Nat, j < 4 → Tb _ _ _) => hTb9); k_dflt (refine' kinds_item ?t9W hTb9 ?i9W ?_; (case t9W => exact kun_topT (by k_asm) (by k_asm) (by k_is)); (case i9W => assumption)); intro tb' hTb')
  k_with "compareOp Eq str str" => ((with_reducible show wpAny _ _ (compareOp CmpOp.Eq (Value.str (Kd.str _) _) (Value.str _ _)) _ _ _); refine eq_str ?_; rw [kd_again])
  k_with "call ref" => ((with_reducible show wpAny _ _ (call (Value.ref 102) _) _ _ _); k_dflt (refine' pair_ok _ _ ?hxW _ _ _ _ _ _ _ _ _ _ _ _ _ _ _ _ _ _ _ _ _ _ _ _ ?BW ?FW ?XW ?NW ?TW ?kW ?dW ?uW ?hs9W; (case BW => k_asm); (case FW => k_asm); (case XW => k_asm); (case NW => k_asm); (case TW => k_asm); (case kW => exact rfl); (case dW => ktr_room); (case uW => ktr_units); (case hxW => (rename (∀ i, intBits (cellAt _ i 0) ≤ 2 ^ 20) => hb9; exact hb9 _))); intro p' D' t' t'' j' h' tk' hfit' F' N' l1'; (have hlo' := l1' _ List.mem_cons_self); (try k_lt l1'))
  k_with "subscriptTail" => ((with_reducible show wpAny _ _ (subscriptTail _ _ (Value.ref _) (Value.int (-1) _)) _ _ _); (rename DatAll _ _ _ => hD9); k_dflt (refine' item_again ?N9W ?m9W hD9 ?p9W ?q9W ?_; (case N9W => k_asm); (case m9W => k_mem); (case p9W => omega); (case q9W => omega)); intro a' p' hp' hd')
  k_with "eval Call" => (k_dflt (refine Call_ ?_))
  w_top off; revert X; k_fill; intro X
  have hCt := cell_ok w loose mean mg mb
  refine wpAny_call ?_
  k_dflt cell_enter
  k_steps
  rename News _ _ _ _ => N9
  rename Fr _ _ _ _ => F9
  rename_i g' L' hx0 FG' B' X' T' tq c hx1 hcn h9
  have hnn : ∃ nn : Nat, (if 8 < (cellAt ns 0 0).fmod 12 then 8 else (cellAt ns 0 0).fmod 12) = (nn : Int) ∧ nn ≤ 8 := by
    have h1 := Int.fmod_nonneg_of_pos (cellAt ns 0 0) (b := 12) (by decide)
    refine ⟨(if 8 < (cellAt ns 0 0).fmod 12 then 8 else (cellAt ns 0 0).fmod 12).toNat, ?_, ?_⟩ <;> (split <;> omega)
  obtain ⟨nn, hnn, hn8⟩ := hnn
  have hTb0 : Tb g' 70 0 := by
    refine' tb_of X' ?o ?i ?l ?a ?b
    case o => k_is
    case i => exact .cons _ _ (.cons _ _ (.cons _ _ (.cons _ _ (.cons _ _ (.cons _ _ (.cons _ _ (.cons _ _ (.cons _ _ (.cons _ _ (.cons _ _ (.cons _ _ .nil)))))))))))
    case l => exact rfl
    case a => decide +kernel
    case b => decide +kernel
  have hTb1 : Tb g' 71 1 := by
    refine' tb_of X' ?o ?i ?l ?a ?b
    case o => k_is
    case i => exact .cons _ _ (.cons _ _ (.cons _ _ (.cons _ _ (.cons _ _ (.cons _ _ (.cons _ _ (.cons _ _ (.cons _ _ (.cons _ _ (.cons _ _ (.cons _ _ .nil)))))))))))
    case l => exact rfl
    case a => decide +kernel
    case b => decide +kernel
  have hTb2 : Tb g' 72 2 := by
    refine' tb_of X' ?o ?i ?l ?a ?b
    case o => k_is
    case i => exact .cons _ _ (.cons _ _ (.cons _ _ (.cons _ _ (.cons _ _ (.cons _ _ (.cons _ _ (.cons _ _ (.cons _ _ (.cons _ _ (.cons _ _ (.cons _ _ .nil)))))))))))
    case l => exact rfl
    case a => decide +kernel
    case b => decide +kernel
  have hTb3 : Tb g' 73 3 := by
    refine' tb_of X' ?o ?i ?l ?a ?b
    case o => k_is
    case i => exact .cons _ _ (.cons _ _ (.cons _ _ (.cons _ _ (.cons _ _ (.cons _ _ (.cons _ _ (.cons _ _ (.cons _ _ (.cons _ _ (.cons _ _ (.cons _ _ .nil)))))))))))
    case l => exact rfl
    case a => decide +kernel
    case b => decide +kernel
  have hTbs : ∀ j : Nat, j < 4 → Tb g' (70 + j) j := by
    intro j hj
    match j, hj with
    | 0, _ => exact hTb0
    | 1, _ => exact hTb1
    | 2, _ => exact hTb2
    | 3, _ => exact hTb3
  clear hTb0 hTb1 hTb2 hTb3
  unfold Wait
  refine' for_range (h₀ := g') (n := nn) (m := mapOf F9) (news := (c, listOf ([] : List Value).toArray 0) :: news) (CJ news script c) ?hh ?hev ?hsm ?hsz ?hj ?turn ?done ?hJ ?hx ?hp ?hE ?hs
  case hh => exact rfl
  case hx => exact rfl
  case hp => exact rfl
  case hE => exact PassesOwn.leaving
  case hs => intro _; rfl
  case hsm =>
    have q : ∀ j : Fin 9, Builtin.Range.small 0 ((j.1 : Nat) : Int) 1 = true := by decide +kernel
    exact q ⟨nn, by omega⟩
  case hsz =>
    have q : ∀ j : Fin 9, Builtin.Range.rangeSize 0 ((j.1 : Nat) : Int) 1 = ((j.1 : Nat) : Int) := by decide +kernel
    exact q ⟨nn, by omega⟩
  case hev =>
    k_steps
    · rename IsRange _ _ _ _ _ _ _ _ => hR9
      rw [hnn] at hR9
      exact hR9
    all_goals assumption
  case hj =>
    intro I hI
    have hcI : c < I := hI (c, listOf ([] : List Value).toArray 0) (.head _)
    refine' ⟨[], [], 0, [], ?j1, .nil, ?j2, rfl, ?j3, hcI, ?j4, ?j5⟩
    case j1 => exact rfl
    case j2 => intro p hp; cases hp
    case j3 => intro p hp; cases hp
    case j4 => exact rfl
    case j5 => exact rfl
  case hJ =>
    rintro I i m₁ nx ⟨code, vs, k, tl, rfl, _, _, _, htl, hcI, _⟩ q hq
    rcases List.mem_cons.mp hq with rfl | hq
    · exact Nat.ne_of_lt hcI
    rcases List.mem_append.mp hq with hq | hq
    · exact Nat.ne_of_gt (htl q hq)
    · exact Nat.ne_of_lt (Nat.lt_trans (hcn q hq) hcI)
  case done =>
    rintro I m₁ nx h tk ⟨code, vs, k, tl, rfl, hD, hF, hl, htl, hcI, q1, q2⟩ F N
    have F2 := (fr_name ⟨F, fun _ => rfl⟩ (a := Str.ofString "code") (va := .ref c) q1).1
    clear F q1 q2
    k_steps
    refine hret code c vs k ((c, listOf vs.toArray k) :: tl) _ _ hF (by omega) (.head _) (hD.mono fun p hp => .tail _ hp) (by assumption) (by assumption)
  case turn =>
    rintro I i t m₁ nx h tk o hi hIlt ⟨code, vs, k, tl, rfl, hD, hF, hl, htl, hcI, q1, q2⟩ F N
    have F2 := (fr_name (fr_name ⟨F, fun _ => rfl⟩ (a := Str.ofString "code") (va := .ref c) q1) (a := Str.ofString "script") (va := .ref script) q2).1
    have hlv : vs.length = i := by
      have e := hD.length
      rw [List.length_map, hl] at e
      exact e
    have hoff : OwnOff (tl ++ news) [c, I] := by
      intro p hp b hb
      simp only [List.mem_cons, List.not_mem_nil, or_false] at hb
      rcases List.mem_append.mp hp with hp | hp
      · have := htl p hp
        rcases hb with rfl | rfl
        · exact Nat.ne_of_gt (Nat.lt_trans hcI this)
        · exact Nat.ne_of_gt this
      · have := hcn p hp
        rcases hb with rfl | rfl
        · exact Nat.ne_of_lt this
        · exact Nat.ne_of_lt (Nat.lt_trans this hcI)
    have hi8 : i < 8 := by omega
    have hcIn : @LT.lt Nat _ c I := hcI
    clear F q1 q2
    clear_value qk ek
    k_steps
    · rename News _ _ _ _ => Nz
      rename Fr _ _ _ _ => Fz
      exact code_pair Fz Nz hD hF (by assumption) hl (by assumption) htl hcI rfl rfl
    · rename News _ _ _ _ => Nz
      rename Fr _ _ _ _ => Fz
      exact code_again Fz Nz (by assumption) hF (by assumption) (by assumption) hl htl hcI rfl rfl
end Mine

open PySem PySem.W PyProof.Rows
open PySem.Builtin.Int (intBits)
set_option Elab.async false
set_option maxRecDepth 100000
set_option maxHeartbeats 8000000
namespace Mine
theorem strOk_op (o : Op) : PyData.strOk o.str = true := by
  cases o with
  | bin b => cases b <;> decide +kernel
  | unk u => cases u <;> decide +kernel
  | _ => decide +kernel
theorem kqd_code (code : List (Op × Int)) : kqdOk 8 (.list (code.map datOf)) = true := by
  have q : ∀ d ∈ code.map datOf, kqdOk 7 d = true := by
    intro d hd
    obtain ⟨p, _, rfl⟩ := List.mem_map.mp hd
    have := strOk_op p.1
    simp [datOf, kqdOk, this]
  show (code.map datOf).all (kqdOk 7) = true
  exact List.all_eq_true.mpr q
theorem kqd_res {word : Str} (hw : PyData.strOk word = true) (out : List Int) : kqdOk 8 (.tuple [.str word, .list (out.map .int)]) = true := by
  simp [kqdOk, hw]
theorem res_of {tl : List (Addr × Obj)} {r : Value} {word : Str} {out : List Int} (h : DatIn tl r (.tuple [.str word, .list (out.map .int)])) :
    ∃ a b t j xs k, r = .ref a ∧ (a, ({ cls := .type "tuple", data := .seq [Value.str word t, .ref b].toArray j } : Obj)) ∈ tl ∧ (b, listOf xs.toArray k) ∈ tl ∧ IntsAre xs out := by
  have hin : ∀ {xs : List Value} {out : List Int}, DatAll tl xs (out.map .int) → IntsAre xs out := by
    intro xs
    induction xs with
    | nil =>
      intro out h
      cases out with
      | nil => exact .nil
      | cons _ _ => cases h
    | cons x xs ih =>
      intro out h
      cases out with
      | nil => cases h
      | cons o out =>
        cases h with
        | cons h1 h2 =>
          cases h1
          exact .cons _ _ (ih h2)
  cases h with
  | tuple hm r =>
    cases r with
    | cons h1 r =>
      cases h1
      cases r with
      | cons h2 r =>
        cases r
        cases h2 with
        | list hm2 r2 => exact ⟨_, _, _, _, _, _, rfl, hm, hm2, hin r2⟩
theorem ResIn.mono {tl tl' : List (Addr × Obj)} {r : Value} {R : Res} (hs : ∀ p ∈ tl, p ∈ tl') (h : ResIn tl r R) : ResIn tl' r R := by
  cases R with
  | stuck => exact h
  | error out => exact DatIn.mono hs h
  | done out => exact DatIn.mono hs h
theorem news_dup {h₀ h : Heap} {L : Addr} {p : Addr × Obj} {news : List (Addr × Obj)} (hc : p ∈ news) (N : News h₀ L h news) : News h₀ L h (p :: news) := by
  intro q hq
  rcases List.mem_cons.mp hq with rfl | hq
  · exact N _ hc
  · exact N q hq
theorem sizes_in (x : Int) : 0 ≤ ([2, 3, 1, 0, 3, 1] : List Int).getD (x.fmod 6).toNat 0 ∧ ([2, 3, 1, 0, 3, 1] : List Int).getD (x.fmod 6).toNat 0 ≤ 3 := by
  have h1 := Int.fmod_nonneg_of_pos x (b := 6) (by decide)
  have h2 := Int.fmod_lt_of_pos x (b := 6) (by decide)
  have h3 : (x.fmod 6).toNat < 6 := by omega
  generalize (x.fmod 6).toNat = i at h3
  have q : ∀ j : Fin 6, 0 ≤ ([2, 3, 1, 0, 3, 1] : List Int).getD j.1 0 ∧ ([2, 3, 1, 0, 3, 1] : List Int).getD j.1 0 ≤ 3 := by decide +kernel
  exact q ⟨i, h3⟩
theorem code_room {tl : List (Addr × Obj)} {vs : List Value} {code : List (Op × Int)} (hv : DatAll tl vs (code.map datOf)) (h : code.length ≤ 8) : vs.toArray.toList.length ≤ sizeLine := by
  have e := hv.length
  rw [List.length_map] at e
  rw [sizeLine_eq]
  show vs.length ≤ _
  omega
/-- what the law's names hold between two turns -/
def LJ (c D : Addr) (n : Int) (t0 : Tok) (r : Value) (m : Str → Option Value) : Prop :=
  m (Str.ofString "code") = some (.ref c) ∧ m (Str.ofString "kept") = some (.ref D) ∧ m (Str.ofString "nslots") = some (.int n t0) ∧ m (Str.ofString "want") = some r
def Tells (R : Res) (word : Str) (out : List Int) : Prop := ∀ tl r, ResIn tl r R → DatIn tl r (.tuple [.str word, .list (out.map .int)])
theorem Tells.use {R : Res} {word : Str} {out : List Int} {tl : List (Addr × Obj)} {r : Value} (h : Tells R word out) (hr : ResIn tl r R) : DatIn tl r (.tuple [.str word, .list (out.map .int)]) := h tl r hr
theorem res_two (R : Res) : R = .stuck ∨ ∃ (word : Str) (out : List Int), PyData.strOk word = true ∧ Tells R word out := by
  cases R with
  | stuck => exact .inl rfl
  | error out => exact .inr ⟨Str.ofString "error", out, by decide +kernel, fun _ _ h => h⟩
  | done out => exact .inr ⟨Str.ofString "done", out, by decide +kernel, fun _ _ h => h⟩
section
variable {prog : Program} {w : World} {A : Around} {E : Value → Shared → Prop} {s : Shared} {h₀ : Heap} {L : Addr} {news n₁ n₂ : List (Addr × Obj)} {v v' : Value} {d : Dat} {Q : Value → Shared → Prop}
theorem shaped_of (hk : kqdOk 8 d = true) : SeqAt.shaped (kqdP d) = true := by
  have la := kqd_lay 8 d hk
  unfold SeqAt.shaped
  rw [la.1, Bool.true_and]
  exact decide_eq_true (Nat.le_trans la.2 (by decide))
theorem ne_same (N : News h₀ L s.heap news) (D1 : DatIn n₁ v d) (s1 : ∀ p ∈ n₁, p ∈ news) (D2 : DatIn n₂ v' d) (s2 : ∀ p ∈ n₂, p ∈ news) (hk : kqdOk 8 d = true) (hu : A.units + 64 < cLine) (h : Q (.bool false) s) :
    wpAny (model prog w) A (compareOp .NotEq v v') Q E s := by
  obtain ⟨as, ra⟩ := kqd_in N 8 (D1.mono s1) hk
  obtain ⟨bs, rb⟩ := kqd_in N 8 (D2.mono s2) hk
  have e : PyData.eqv (kqdP d) (kqdP d) = true := (kqd_eqv 8 d d 8 hk hk).mpr rfl
  exact ne_dataH ra rb (shaped_of hk) (shaped_of hk) hu (by rw [e]; exact h)
theorem ne_word {ds : List Dat} {x : Str} {t : Tok} (N : News h₀ L s.heap news) (D1 : DatIn n₁ v (.tuple ds)) (s1 : ∀ p ∈ n₁, p ∈ news) (hk : kqdOk 8 (.tuple ds) = true) (hx : PyData.strOk x = true) (hu : A.units + 64 < cLine) (h : Q (.bool true) s) :
    wpAny (model prog w) A (compareOp .NotEq v (.str x t)) Q E s := by
  obtain ⟨as, ra⟩ := kqd_in N 8 (D1.mono s1) hk
  have hk2 : kqdOk 8 (.str x) = true := hx
  obtain ⟨bs, rb⟩ := kqd_in N 8 (DatIn.str x t) hk2
  have e : PyData.eqv (kqdP (.tuple ds)) (kqdP (.str x)) = false := by
    refine Bool.eq_false_iff.mpr fun q => ?_
    have := (kqd_eqv 8 _ _ 8 hk hk2).mp q
    cases this
  exact ne_dataH ra rb (shaped_of hk) (shaped_of hk2) hu (by rw [e]; exact h)
end
end Mine

open PySem PySem.W PyProof.Rows
open PySem.Builtin.Int (intBits)
set_option Elab.async false
set_option maxRecDepth 100000
set_option maxHeartbeats 8000000
namespace Mine
local macro_rules | `(tactic| walk_at $s:str) => `(tactic| k_extra $s)
local macro_rules | `(tactic| k_room) => `(tactic| ktr_room)
theorem res_st {tl : List (Addr × Obj)} {r : Value} {R : Res} (e : R = .stuck) (h : ResIn tl r R) : ∃ t, r = .str (Str.ofString "stuck") t := by
  subst e
  exact h
abbrev newsOf {g h : Heap} {L : Addr} {news : List (Addr × Obj)} (_ : News g L h news) : List (Addr × Obj) := news
theorem cell_top {w : World} {loose : List Str} {mean : ExcName → Option Value} {mg mb : Str → Option Value} {h : Heap} (_ : Top Mine.hd.view_39 loose mean mg mb h) (_ : (Mine.hd.heap_39 w.params).In h) :
    CellTells Challenge.rw_pd_asmalltoolchain_2_02.row.prog w (Mine.hd.heap_39 w.params) Mine.hd.view_39 loose mean mg mb 95 0 := cell_ok w loose mean mg mb
theorem cw : PySem.Challenge.rw_pd_asmalltoolchain_2_02.Holds := hd (by
  k_with_none
  k_with "exec For Name Tuple cons nil" => (refine stop_here ?_)
  k_with "exec For Name Subscript cons nil" => (refine stop_here ?_)
  k_with "eval Call" => (k_dflt (refine Call_ ?_))
  k_with "call type:list" => ((with_reducible show wpAny _ _ (call (Value.type "list") [Value.ref _]) _ _ _); k_dflt (refine' kup_listOf ?FW ?NW ?bW ?eW ?_ ?zW; (case FW => k_asm); (case NW => k_asm); (case bW => exact .head _); (case eW => exact rfl); (case zW => (rename (_ ≤ 8) => h89; rename DatAll _ _ _ => hv9; exact code_room hv9 h89))); intro D kD hh4 F' N' l1)
  k_with "call ref" => ((with_reducible show wpAny _ _ (call (Value.ref 109) _) _ _ _); k_dflt (refine' code_ok _ _ _ ?hIW ?hnW ?hbW _ _ _ _ _ _ _ _ _ _ _ _ _ _ _ _ _ _ _ _ _ _ ?BW ?FW ?XW ?NW ?TW ?kW ?dW ?uW ?hLW ?_; (case hIW => assumption); (case hnW => assumption); (case hbW => assumption); (case BW => k_asm); (case FW => k_asm); (case XW => k_asm); (case NW => k_asm); (case TW => k_asm); (case kW => exact rfl); (case dW => ktr_room); (case uW => ktr_units); (case hLW => assumption)); intro code c vs k tl1 hh6 tk1 hfit hlen hc' hv' F' N'; (replace N' := news_dup (List.mem_append_left _ hc') N'))
  k_with "call ref" => ((with_reducible show wpAny _ _ (call (Value.ref 123) _) _ _ _); (rename DatAll _ _ _ => hv9); k_dflt (refine' expect_ok _ ?hfW ?hlW _ ?h0W ?h3W _ _ _ _ _ _ _ _ _ _ _ _ _ _ _ _ _ _ _ _ _ _ _ _ _ _ ?BW ?FW ?XW ?NW ?TW ?kW ?dW ?uW ?hcW (DatAll.mono ?sbW hv9) ?_; (case hfW => assumption); (case hlW => assumption); (case h0W => exact (sizes_in _).1); (case h3W => exact (sizes_in _).2); (case BW => k_asm); (case FW => k_asm); (case XW => k_asm); (case NW => k_asm); (case TW => k_asm); (case kW => exact rfl); (case dW => ktr_room); (case uW => ktr_units); (case hcW => exact .head _); (case sbW => (intro p9 hp9; exact .tail _ (.tail _ (List.mem_append_left _ hp9))))); intro r tl2 hh1 tkx hR' F' N')
  k_with "call ref" => ((with_reducible show wpAny _ _ (call (Value.ref 130) _) _ _ _); (rename DatAll _ _ _ => hv9); k_dflt (refine' outcome_ok _ ?hfW ?hlW _ ?h0W ?h3W _ _ _ _ _ _ _ _ _ _ _ _ _ _ _ _ _ _ _ _ _ _ _ _ _ _ _ ?BW ?FW ?XW ?NW ?TW ?kW ?dW ?uW ?XBW ?TBW ?hcW (DatAll.mono ?sbW hv9) ?_; (case hfW => assumption); (case hlW => assumption); (case h0W => assumption); (case h3W => assumption); (case BW => k_asm); (case FW => k_asm); (case XW => k_asm); (case NW => k_asm); (case TW => k_asm); (case kW => exact rfl); (case dW => ktr_room); (case uW => ktr_units); (case XBW => assumption); (case TBW => assumption); (case hcW => (exact .tail _ (.tail _ (by assumption)))); (case sbW => (intro p9 hp9; exact .tail _ (.tail _ hp9)))); intro r' tl' h' tk' hR' F' N'; first
  | ((rename (runs _ _ _ _ _ = Res.stuck) => hRe9); (obtain ⟨t9, e9⟩ := res_st hRe9 hR'); subst e9)
  | ((rename Tells _ _ _ => hT9); (replace hR' := hT9.use hR'); (obtain ⟨a', b', t', j', xs', k', e', hm1', hm2', hi'⟩ := res_of hR'); subst e'; (replace N' := news_dup (List.mem_append_left _ hm2') N'); (replace N' := news_dup (List.mem_cons_of_mem _ (List.mem_append_left _ hm1')) N')))
  k_with "compareOp NotEq ref ref" => (k_dflt (refine' ne_same ?NW ?D1W ?s1W ?D2W ?s2W ?hkW ?uW ?_; (case NW => k_asm); (case D1W => assumption); (case D2W => assumption); (case s1W => (intro p9 hp9; repeat (first | exact hp9 | exact List.mem_append_left _ hp9 | apply List.mem_append_right | apply List.Mem.tail))); (case s2W => (intro p9 hp9; repeat (first | exact hp9 | exact List.mem_append_left _ hp9 | apply List.mem_append_right | apply List.Mem.tail))); (case hkW => first | exact kqd_code _ | exact kqd_res (by assumption) _); (case uW => ktr_units)))
  k_with "compareOp NotEq ref str" => (k_dflt (refine' ne_word ?NW ?D1W ?s1W ?hkW ?hxW ?uW ?_; (case NW => k_asm); (case D1W => assumption); (case s1W => (intro p9 hp9; repeat (first | exact hp9 | exact List.mem_append_left _ hp9 | apply List.mem_append_right | apply List.Mem.tail))); (case hkW => exact kqd_res (by assumption) _); (case hxW => decide +kernel); (case uW => ktr_units)))
  k_with "subscriptTail" => ((with_reducible show wpAny _ _ (subscriptTail _ _ (Value.ref _) (Value.int 1 _)) _ _ _); k_dflt (refine' item_tupleT (j := 1) (x := Value.ref _) ?tW ?aW ?bW ?cW ?dW ?_; (case tW => exact News.isTup (by k_asm) (.head _)); (case aW => decide); (case bW => decide); (case cW => rfl); (case dW => rfl)))
  k_go0
  all_goals (try k_fold)
  rename List Int => ns
  rename IntsAre _ _ => hI
  rename (PyData.layable0 (PyData.list _) = true) => hlay
  rename Top _ _ _ _ _ _ => T
  rename Frag.In _ _ => KX
  have hns := Nat.lt_of_le_of_lt (len_ints_list hlay) (show 2 ^ 20 < 2 ^ 62 by decide)
  have hbits := fun i => kbm_cell (i := i) (d := 0) hlay (by decide)
  have hCt := cell_top T KX
  k_steps
  rename News _ _ _ _ => N9
  rename Fr _ _ _ _ => F9
  rename ResIn _ _ _ => hR
  rename DatAll _ _ _ => hv
  rename ((_, listOf _ _) ∈ _) => hc
  rename_i tn hh2 tkk hx
  unfold Wait
  clear qk ek
  obtain ⟨hn0, hn3⟩ := sizes_in (cellAt ns 1 0)
  generalize ([2, 3, 1, 0, 3, 1] : List Int).getD (Int.fmod (cellAt ns 1 0) 6).toNat 0 = n at hn0 hn3 hR F9
  have hmD0 : (D, listOf vs.toArray kD) ∈ (tl2 ++ (D, listOf vs.toArray.toList.toArray kD) :: (c, listOf vs.toArray k) :: (tl1 ++ [])) := List.mem_append_right _ (.head _)
  have hm80 : (c, listOf vs.toArray k) ∈ (tl2 ++ (D, listOf vs.toArray.toList.toArray kD) :: (c, listOf vs.toArray k) :: (tl1 ++ [])) := List.mem_append_right _ (.tail _ (.head _))
  have sub1 : ∀ p ∈ tl1, p ∈ (tl2 ++ (D, listOf vs.toArray.toList.toArray kD) :: (c, listOf vs.toArray k) :: (tl1 ++ [])) := fun p hp => List.mem_append_right _ (.tail _ (.tail _ (List.mem_append_left _ hp)))
  have sub2 : ∀ p ∈ tl2, p ∈ (tl2 ++ (D, listOf vs.toArray.toList.toArray kD) :: (c, listOf vs.toArray k) :: (tl1 ++ [])) := fun p hp => List.mem_append_left _ hp
  generalize (tl2 ++ (D, listOf vs.toArray.toList.toArray kD) :: (c, listOf vs.toArray k) :: (tl1 ++ [])) = news8 at N9 hmD0 hm80 sub1 sub2
  replace hv := hv.mono sub1
  have hc8 : DatIn news8 (.ref c) (.list (code.map datOf)) := .list hm80 hv
  have hD8 : DatIn news8 (.ref D) (.list (code.map datOf)) := .list hmD0 hv
  replace hR := ResIn.mono sub2 hR
  clear sub1 sub2 hc l1
  refine' for_tup (h₀ := T.heap) (m := mapOf F9) (news := news8) (LJ c D n tn r) ?hh9 ?hev9 ?hj9 ?turn9 ?done9 ?hx9 ?hp9 ?hE9 ?hs9
  case hh9 => exact rfl
  case hx9 => exact rfl
  case hp9 => exact rfl
  case hE9 => exact PassesOwn.leaving
  case hs9 => intro _; rfl
  case hj9 => exact ⟨rfl, rfl, rfl, rfl⟩
  case hev9 =>
    clear hR hv hc8 hD8 hmD0 hm80
    k_steps
    rotate_left 1
    · assumption
    · assumption
    rotate_right 1
    exact .cons _ _ (.cons _ _ .nil)
  case done9 =>
    rintro m₁ h tk ⟨q1, q2, q3, q4⟩ F N
    clear F9 N9
    k_steps
  case turn9 =>
    rintro f t m₁ h tk io ro ⟨q1, q2, q3, q4⟩ F N
    have F2 := (fr_name (fr_name (fr_name (fr_name ⟨F, fun _ => rfl⟩ (a := Str.ofString "code") (va := .ref c) q1) (a := Str.ofString "kept") (va := .ref D) q2) (a := Str.ofString "nslots") (va := .int n tn) q3) (a := Str.ofString "want") (va := r) q4).1
    clear F q1 q2 q3 q4 F9 N9
    rcases res_two (runs n code [] (List.replicate n.toNat 0) []) with hRe | ⟨word, out, hw, hT⟩
    · rw [hRe] at hR
      obtain ⟨tw, rfl⟩ := hR
      k_steps
      rename News _ _ _ _ => Nz
      rename Fr _ _ _ _ => Fz
      exact ⟨rfl, _, _, _, rfl, ⟨rfl, rfl, rfl, rfl⟩, Fz, fun p hp => Nz p (List.mem_append_right _ hp)⟩
    · replace hR := hT.use hR
      obtain ⟨aw, bw, tw, jw, xw, kw, rfl, hw1, hw2, hw3⟩ := res_of hR
      k_steps
      rename News _ _ _ _ => Nz
      rename Fr _ _ _ _ => Fz
      rename IntsAre _ out => hiz
      unfold Wait
      refine' for_items (h₀ := T.heap) (m := mapOf Fz) (news := newsOf Nz) ?ih ?iev ?il hiz ?iturn ?idone ?ix ?ip ?iE ?is
      case il => exact .tail _ (.head _)
      case ih => exact rfl
      case ix => exact rfl
      case ip => exact rfl
      case iE => exact PassesOwn.leaving
      case is => intro _; rfl
      case iev =>
        k_steps
        · exact Fz
        · exact Nz
      case iturn =>
        intro v tv hv2 tkv iov Fv Nv
        delta mapOf at Fv ⊢
        delta newsOf at Nv ⊢
        clear Fz Nz
        k_steps
        rename News _ _ _ _ => Nw
        rename Fr _ _ _ _ => Fw
        exact ⟨rfl, _, _, rfl, Fw, Nw⟩
      case idone =>
        intro m₂ hz tkz hm2 Fy Ny
        dsimp only [mapOf] at hm2
        dsimp only [newsOf] at Ny
        clear Fz Nz
        have p1 := hm2 (Str.ofString "code") (by decide +kernel)
        have p2 := hm2 (Str.ofString "kept") (by decide +kernel)
        have p3 := hm2 (Str.ofString "nslots") (by decide +kernel)
        have p4 := hm2 (Str.ofString "want") (by decide +kernel)
        k_steps
        exact ⟨rfl, _, _, m₂, rfl, ⟨p1, p2, p3, p4⟩, Fy, fun p hp => Ny p (.tail _ (.tail _ (List.mem_append_right _ hp)))⟩)
end Mine
theorem PySem.Challenge.cw_pd_asmalltoolchain_2_02_holds : PySem.Challenge.rw_pd_asmalltoolchain_2_02.Holds :=
  Mine.cw
