import PyProof.Rows.All
import Wide.All
import OpenK.AllK
import Wide.FinOn
import Lean
import PySem.Challenge.RW_sa0314_01
open PySem PySem.W PyProof.Rows PySem.Calls
set_option Elab.async false
set_option linter.all false
set_option maxRecDepth 100000
set_option maxHeartbeats 8000000
namespace Mine
theorem duo {A B C : Prop} (f : A ∧ B → C) (h : A ∧ B) : C := f h
noncomputable def hlaw.tw17798269026850736146 : Nat := 0
set_option Elab.async true in
theorem hlaw (h : (PySem.Challenge.rw_sa0314_01).row.wellSaid = true → (PySem.Challenge.rw_sa0314_01).row.Holds) : (PySem.Challenge.rw_sa0314_01).Holds := by
  o_law
  apply h
  assumption
section
local macro_rules
  | `(tactic| o_law) => `(tactic| refine hlaw fun said => ?_)
local macro_rules
  | `(tactic| refine $f:ident $a*) => do
    unless a.size == 23 do Lean.Macro.throwUnsupported
    `(tactic| refine duo (fun h => $f $((a.set! 8 (← `(And.left h))).set! 22 (← `(And.right h)))*) $(⟨a[22]!⟩))
open_top hd for PySem.Challenge.rw_sa0314_01
end
def fstOf {A B C : Prop} (_ : A ∧ B → C) : Prop := A
def sndOf {A B C : Prop} (_ : A ∧ B → C) : Prop := B
section
section
variable {prog : Program} {w : World} {A : Around} {E : Value → Shared → Prop} {s : Shared} {Q : Value → Shared → Prop}
theorem kind_pow3 : builtinKind "pow" = none := by decide +kernel
theorem plain_pow3 : plainId "pow" = true := by decide +kernel
theorem entry_pow3 : entryFor table "pow" = some Builtin.«pow» := entryFor_of_fast (by kernel_rfl)
theorem args_pow3 (a b c : Value) : argsOk "pow" ⟨[a, b, c], []⟩ := by unfold argsOk; kernel_rfl
theorem args_ipow3 (a b c : Value) : argsOk "int.__pow__" ⟨[a, b, c], []⟩ := by unfold argsOk; kernel_rfl
theorem bind_pow3 (a b c : Value) : Builtin.Builtins.bindParams "pow" ["base", "exp", "mod"] 2 ⟨[a, b, c], []⟩ = pure [some a, some b, some c] := by kernel_rfl
theorem lookup_pow3 : typeLookup (Value.type "int") (Str.ofString "__pow__") = pure (some (.builtin "int.__pow__")) := by rw [typeLookup_type, builtinLookup_eq_fast]; kernel_rfl
noncomputable def powI (b e m : Int) : Int := ((Builtin.powMod (b % (m.natAbs : Int)).toNat e.natAbs m.natAbs : Nat) : Int)
theorem run_ipow3 {b e m : Int} {tb te tm : Tok} (he : 0 ≤ e) (hm : 2 ≤ m) (h : Q (.int (powI b e m) s.toks) { s with toks := s.toks + 1 }) :
    wpAny (model prog w) A (call (.builtin "int.__pow__") [.int b tb, .int e te, .int m tm]) Q E s := by
  refine wpAny_call_entry slot_int_pow (typeIs_int s b tb) entry_int_pow ?_ (args_ipow3 _ _ _)
  unfold Builtin.«int.__pow__» 
  have h0 : (m == 0) = false := by simp; (first | lia | omega)
  have h1 : (m.natAbs == 1) = false := by simp; (first | lia | omega)
  have h2 : ¬ e < 0 := by (first | lia | omega)
  have h3 : ¬ m < 0 := by (first | lia | omega)
  obtain ⟨hp, g, d, tk, os⟩ := s
  repeat (any_goals wp_step)
  simp only [h3, Bool.false_eq_true, if_false, decide_false, Bool.false_and]
  repeat (any_goals wp_step)
  exact ⟨_, rfl, h⟩
set_option maxHeartbeats 2000000 in
theorem call_pow3 {b e m : Int} {tb te tm : Tok} (he : 0 ≤ e) (hm : 2 ≤ m) (h : Q (.int (powI b e m) s.toks) { s with toks := s.toks + 1 }) :
    wpAny (model prog w) A (call (.builtin "pow") [.int b tb, .int e te, .int m tm]) Q E s := by
  refine call_function_entry kind_pow3 plain_pow3 entry_pow3 (args_pow3 _ _ _) ?_
  obtain ⟨hp, g, d, tk, os⟩ := s
  have hT : (⟨hp, g, d, tk, os⟩ : Shared).TypeIs (.int b tb) "int" := rfl
  have f1 := bind_pow3 (.int b tb) (.int e te) (.int m tm)
  have f3 : typeLookup (Value.type "int") (Str.ofString "__pow__") = pure (some (.builtin "int.__pow__")) := lookup_pow3
  have f4 := slot_int_pow.bind (.int b tb)
  repeat (any_goals (first | assumption | ((with_reducible show wpAny _ _ (call (Value.builtin "int.__pow__") _) _ _ _); refine run_ipow3 he hm ?_) | wp_step))
  all_goals first | exact ⟨_, rfl, h⟩ | exact h | skip
theorem powMod_lt {b e m : Nat} (hm : 0 < m) : Builtin.powMod b e m < m := by
  unfold Builtin.powMod
  have key : ∀ (l : List Nat) (p : Nat), p < m → l.foldl (fun p i => if e.testBit i = true then p * p % m * b % m else p * p % m) p < m := by
    intro l
    induction l with
    | nil => intro p hp; exact hp
    | cons i l ih => intro p hp; rw [List.foldl_cons]; refine ih _ ?_; split <;> exact Nat.mod_lt _ hm
  exact key _ _ (Nat.mod_lt _ hm)
theorem powI_in {b e m : Int} (hm : 2 ≤ m) : 0 ≤ powI b e m ∧ powI b e m < m := by
  have h := powMod_lt (b := (b % (m.natAbs : Int)).toNat) (e := e.natAbs) (m := m.natAbs) (by (first | lia | omega))
  unfold powI; (first | lia | omega)
theorem call_pow3' {b e m : Int} {tb te tm : Tok} (he : 0 ≤ e) (hm : 2 ≤ m) (h : ∀ (r : Int) (t : Tok) (k : Nat), r = powI b e m → 0 ≤ r → r < m → Q (.int r t) { s with toks := k }) :
    wpAny (model prog w) A (call (.builtin "pow") [.int b tb, .int e te, .int m tm]) Q E s := call_pow3 he hm (h _ _ _ rfl (powI_in hm).1 (powI_in hm).2)
end
example : True := by
  (k_with "call builtin:pow" => ((with_reducible show wpAny _ _ (call (Value.builtin "pow") [Value.int _ _, Value.int _ _, Value.int _ _]) _ _ _); (refine call_pow3' ?a ?b ?_; (case a => first | omega | decide); (case b => omega)); intro pr' pt' pk' pe' pl' ph'))
  trivial

noncomputable def leB (k n : Nat) : List UInt8 := (List.range k).map fun i => ((n / 256 ^ i) % 256).toUInt8
noncomputable def beB (k n : Nat) : List UInt8 := (leB k n).reverse
noncomputable def ofBE (l : List UInt8) : Nat := l.foldl (fun a b => a * 256 + b.toNat) 0
theorem leB_length (k n : Nat) : (leB k n).length = k := by simp [leB]
theorem beB_length (k n : Nat) : (beB k n).length = k := by simp [beB, leB_length]
theorem leB_succ (k n : Nat) : leB (k + 1) n = (n % 256).toUInt8 :: leB k (n / 256) := by
  unfold leB
  rw [List.range_succ_eq_map, List.map_cons, List.map_map]
  simp only [Nat.pow_zero, Nat.div_one]
  congr 1
  refine List.map_congr_left fun i _ => ?_
  simp only [Function.comp, Nat.succ_eq_add_one]
  rw [Nat.div_div_eq_div_mul, Nat.pow_succ, Nat.mul_comm 256]
theorem beB_succ (k n : Nat) : beB (k + 1) n = beB k (n / 256) ++ [(n % 256).toUInt8] := by
  unfold beB; rw [leB_succ, List.reverse_cons]
theorem ofBE_append (l : List UInt8) (b : UInt8) : ofBE (l ++ [b]) = ofBE l * 256 + b.toNat := by simp [ofBE]
theorem ofBE_nil : ofBE [] = 0 := rfl
theorem toU8 (n : Nat) : ((n % 256).toUInt8).toNat = n % 256 := by
  show (UInt8.ofNat (n % 256)).toNat = n % 256
  rw [UInt8.toNat_ofNat']; (first | lia | omega)
theorem ofBE_beB : ∀ (k n : Nat), n < 256 ^ k → ofBE (beB k n) = n
  | 0, n, h => by simp at h; subst h; rfl
  | k + 1, n, h => by
    rw [beB_succ, ofBE_append, toU8, ofBE_beB k (n / 256) (by rw [Nat.pow_succ] at h; (first | lia | omega))]
    (first | lia | omega)
theorem ofBE_app (l r : List UInt8) : ofBE (l ++ r) = ofBE l * 256 ^ r.length + ofBE r := by
  unfold ofBE
  rw [List.foldl_append]
  have key : ∀ (r : List UInt8) (a : Nat), r.foldl (fun a b => a * 256 + b.toNat) a = a * 256 ^ r.length + r.foldl (fun a b => a * 256 + b.toNat) 0 := by
    intro r
    induction r with
    | nil => intro a; simp
    | cons b r ih =>
      intro a
      simp only [List.foldl_cons, List.length_cons]
      rw [ih (a * 256 + b.toNat), ih (0 * 256 + b.toNat), Nat.pow_succ, Nat.add_mul, Nat.mul_assoc, Nat.mul_comm 256 (256 ^ r.length), Nat.zero_mul, Nat.zero_add]
      (first | lia | omega)
  exact key r _
theorem ofBE_lt (l : List UInt8) : ofBE l < 256 ^ l.length := by
  have h := KFB.fold_lt l 0
  simpa [ofBE] using h
theorem ofBE_inj : ∀ {l r : List UInt8}, l.length = r.length → ofBE l = ofBE r → l = r := by
  have key : ∀ (n : Nat) (l r : List UInt8), l.length = n → r.length = n → ofBE l = ofBE r → l = r := by
    intro n
    induction n with
    | zero => intro l r hl hr _; rw [List.length_eq_zero_iff.mp hl, List.length_eq_zero_iff.mp hr]
    | succ n ih =>
      intro l r hl hr h
      obtain ⟨l', b, rfl⟩ : ∃ l' b, l = l' ++ [b] := ⟨l.dropLast, l.getLast (by intro e; subst e; simp at hl), (List.dropLast_concat_getLast _).symm⟩
      obtain ⟨r', c, rfl⟩ : ∃ l' b, r = l' ++ [b] := ⟨r.dropLast, r.getLast (by intro e; subst e; simp at hr), (List.dropLast_concat_getLast _).symm⟩
      rw [ofBE_append, ofBE_append] at h
      have hb := b.toNat_lt
      have hc := c.toNat_lt
      have e1 : ofBE l' = ofBE r' := by (first | lia | omega)
      have e2 : b.toNat = c.toNat := by (first | lia | omega)
      rw [ih l' r' (by simpa using hl) (by simpa using hr) e1, UInt8.toNat_inj.mp e2]
  intro l r h e
  exact key _ l r rfl h.symm e
theorem low_eq {x : Int} {n : Nat} (h0 : 0 ≤ x) (h1 : x < 256 ^ n) : KTBy.low x n = leB n x.toNat := by
  have h := KTBy.low_ints h0 h1
  obtain ⟨X, rfl⟩ := Int.eq_ofNat_of_zero_le h0
  have h2 : (leB n X).map (fun c => ((c.toNat : Nat) : Int)) = (List.range n).map fun i => (X : Int) / 256 ^ i % 256 := by
    unfold leB
    rw [List.map_map]
    refine List.map_congr_left fun i _ => ?_
    simp only [Function.comp]
    rw [toU8, KTBy.p256]; rfl
  rw [← h2] at h
  have inj : ∀ a b : UInt8, ((a.toNat : Nat) : Int) = ((b.toNat : Nat) : Int) → a = b := fun a b e => UInt8.toNat_inj.mp (Int.ofNat.inj e)
  exact (List.map_inj_right (fun a b e => inj a b e)).mp h
section
variable {prog : Program} {w : World} {A : Around} {E : Value → Shared → Prop} {s : Shared} {Q : Value → Shared → Prop}
open PySem.Builtin.Int (intBits)
theorem bits_le8 {x : Int} {k : Nat} (h0 : 0 ≤ x) (h1 : x < 256 ^ k) : intBits x ≤ 8 * k := KTBy.bits_le rfl h0 h1
theorem to_bytes_big {x : Int} {k : Nat} {t u v : Tok} (hk : k ≤ 16777216) (h0 : 0 ≤ x) (h1 : x < 256 ^ k) (h : ∀ t' k', Q (.bytes (beB k x.toNat).toArray t') { s with toks := k' }) :
    wpAny (model prog w) A (call (.builtin "int.to_bytes") [.int x t, .int (k : Int) u, .str (PySem.Str.ofString "big") v]) Q E s := by
  refine wpAny_call_entry KTBy.slot (typeIs_int s x t) KTBy.entry ?_ (KTBy.args _ _ _)
  have hb := bits_le8 h0 h1
  show wpAny _ _ (Builtin.Int.intOfSelf (.int x t) >>= fun y => _) _ _ s
  refine wpAny_bind (wpAny_of_eq (a := x) rfl ?_)
  show wpAny _ _ (Builtin.Int.intBindNamed "to_bytes" ["length", "byteorder", "signed"] 0 2 [.int (k : Int) u, .str (PySem.Str.ofString "big") v] [] >>= fun l => _) _ _ s
  refine wpAny_bind (wpAny_of_eq (a := [some (.int (k : Int) u), some (.str (PySem.Str.ofString "big") v), none]) (by kernel_rfl) ?_)
  show wpAny _ _ (Builtin.Int.intIndex "int.to_bytes" (.int (k : Int) u) >>= fun n => _) _ _ s
  refine wpAny_bind (wpAny_of_eq (a := (k : Int)) rfl ?_)
  refine KTBy.if_not (by show (decide ((k : Int) < -(2 ^ 63 : Int)) || decide ((k : Int) ≥ 2 ^ 63)) = false; rw [decide_eq_false (show ¬ ((k : Int) < -(2 ^ 63 : Int)) by (first | lia | omega)), decide_eq_false (show ¬ ((k : Int) ≥ 2 ^ 63) by (first | lia | omega))]; rfl) ?_
  refine wpAny_bind (wpAny_of_eq (a := PySem.Str.ofString "big") (by kernel_rfl) ?_)
  refine wpAny_bind (wpAny_of_eq (a := false) rfl ?_)
  refine wpAny_bind (wpAny_of_eq (a := false) (by kernel_rfl) ?_)
  refine wpAny_ite_false (decide_eq_false (show ¬ ((k : Int) < 0) by (first | lia | omega))) ?_
  refine wpAny_ite_false (decide_eq_false (show ¬ ((k : Int) > 2 ^ 63 - 1 - 33) by (first | lia | omega))) ?_
  refine wpAny_ite_false (decide_eq_false (show ¬ ((k : Int) > (sizeLine : Int)) by rw [sizeLine_eq]; (first | lia | omega))) ?_
  refine KTBy.if_not (by show (decide (x < 0) && !false) = false; rw [decide_eq_false (show ¬ x < 0 by (first | lia | omega))]; rfl) ?_
  refine KTBy.if_not (by show (_ && decide ((intBits x : Int) > 8 * (k : Int))) = false; rw [decide_eq_false (show ¬ ((intBits x : Int) > 8 * (k : Int)) by (first | lia | omega)), Bool.and_false]) ?_
  have e : List.reverse (KTBy.low x (Int.toNat (k : Int))) = beB k x.toNat := by rw [Int.toNat_natCast, low_eq h0 h1]; rfl
  refine wpAny_bind (wpAny_mkBytes (wpAny_pure ⟨_, rfl, ?_⟩) (by show (List.reverse (KTBy.low x (Int.toNat (k : Int)))).length ≤ sizeLine; rw [e, beB_length, sizeLine_eq]; exact hk))
  show Q (.bytes (List.reverse (KTBy.low x (Int.toNat (k : Int)))).toArray _) _
  rw [e]
  exact h _ _
theorem to_bytes_little {x : Int} {k : Nat} {t u v : Tok} (hk : k ≤ 16777216) (h0 : 0 ≤ x) (h1 : x < 256 ^ k) (h : ∀ t' k', Q (.bytes (leB k x.toNat).toArray t') { s with toks := k' }) :
    wpAny (model prog w) A (call (.builtin "int.to_bytes") [.int x t, .int (k : Int) u, .str (PySem.Str.ofString "little") v]) Q E s := by
  refine wpAny_call_entry KTBy.slot (typeIs_int s x t) KTBy.entry ?_ (KTBy.args _ _ _)
  have hb := bits_le8 h0 h1
  show wpAny _ _ (Builtin.Int.intOfSelf (.int x t) >>= fun y => _) _ _ s
  refine wpAny_bind (wpAny_of_eq (a := x) rfl ?_)
  show wpAny _ _ (Builtin.Int.intBindNamed "to_bytes" ["length", "byteorder", "signed"] 0 2 [.int (k : Int) u, .str (PySem.Str.ofString "little") v] [] >>= fun l => _) _ _ s
  refine wpAny_bind (wpAny_of_eq (a := [some (.int (k : Int) u), some (.str (PySem.Str.ofString "little") v), none]) (by kernel_rfl) ?_)
  show wpAny _ _ (Builtin.Int.intIndex "int.to_bytes" (.int (k : Int) u) >>= fun n => _) _ _ s
  refine wpAny_bind (wpAny_of_eq (a := (k : Int)) rfl ?_)
  refine KTBy.if_not (by show (decide ((k : Int) < -(2 ^ 63 : Int)) || decide ((k : Int) ≥ 2 ^ 63)) = false; rw [decide_eq_false (show ¬ ((k : Int) < -(2 ^ 63 : Int)) by (first | lia | omega)), decide_eq_false (show ¬ ((k : Int) ≥ 2 ^ 63) by (first | lia | omega))]; rfl) ?_
  refine wpAny_bind (wpAny_of_eq (a := PySem.Str.ofString "little") (by kernel_rfl) ?_)
  refine wpAny_bind (wpAny_of_eq (a := false) rfl ?_)
  refine wpAny_bind (wpAny_of_eq (a := true) (by kernel_rfl) ?_)
  refine wpAny_ite_false (decide_eq_false (show ¬ ((k : Int) < 0) by (first | lia | omega))) ?_
  refine wpAny_ite_false (decide_eq_false (show ¬ ((k : Int) > 2 ^ 63 - 1 - 33) by (first | lia | omega))) ?_
  refine wpAny_ite_false (decide_eq_false (show ¬ ((k : Int) > (sizeLine : Int)) by rw [sizeLine_eq]; (first | lia | omega))) ?_
  refine KTBy.if_not (by show (decide (x < 0) && !false) = false; rw [decide_eq_false (show ¬ x < 0 by (first | lia | omega))]; rfl) ?_
  refine KTBy.if_not (by show (_ && decide ((intBits x : Int) > 8 * (k : Int))) = false; rw [decide_eq_false (show ¬ ((intBits x : Int) > 8 * (k : Int)) by (first | lia | omega)), Bool.and_false]) ?_
  have e : KTBy.low x (Int.toNat (k : Int)) = leB k x.toNat := by rw [Int.toNat_natCast, low_eq h0 h1]
  refine wpAny_bind (wpAny_mkBytes (wpAny_pure ⟨_, rfl, ?_⟩) (by show (KTBy.low x (Int.toNat (k : Int))).length ≤ sizeLine; rw [e, leB_length, sizeLine_eq]; exact hk))
  show Q (.bytes (KTBy.low x (Int.toNat (k : Int))).toArray _) _
  rw [e]
  exact h _ _
theorem grownB {n k : Nat} (hk : k ≤ 1000000) (hn : n < 256 ^ k) (h : Q (.int (n : Int) s.toks) { s with toks := s.toks + 1 }) : wpAny (model prog w) A (mkIntGrown (n : Int)) Q E s := by
  unfold mkIntGrown
  have hl : ¬ ((n : Int).natAbs.log2 ≥ bitsLine) := by
    rw [Int.natAbs_natCast]
    have hb : bitsLine = 134217728 := by first | rfl | decide
    by_cases hz : n = 0
    · subst hz; rw [hb]; decide
    · have e2 : (256 : Nat) ^ k = 2 ^ (8 * k) := by rw [Nat.pow_mul]
      have h1 := (Nat.log2_lt hz).mpr (e2 ▸ hn)
      (first | lia | omega)
  rw [if_neg hl]
  exact wpAny_mkInt h
theorem tree_bigB {b : List UInt8} {t u : Tok} {P : Fin → Shared → Prop} (hl : b.length ≤ 1000000) (h : P (.done (.ret (.int (ofBE b : Int) s.toks))) { s with toks := s.toks + 1 }) :
    wpAny (model prog w) A (Builtin.«int.from_bytes» ⟨[.type "int", .bytes b.toArray t, .str (PySem.Str.ofString "big") u], []⟩) P E s := by
  have hn := ofBE_lt b
  unfold Builtin.«int.from_bytes»
  refine wpAny_bind (wpAny_of_eq (a := true) KFB.type_int ?_)
  refine KFB.if_not rfl ?_
  refine wpAny_bind (wpAny_of_eq (a := true) F.conv_sub_int ?_)
  refine KFB.if_not rfl ?_
  refine wpAny_bind (wpAny_of_eq (a := [some (.bytes b.toArray t), some (.str (PySem.Str.ofString "big") u), none]) (by kernel_rfl) ?_)
  refine wpAny_bind (wpAny_of_eq (a := PySem.Str.ofString "big") (by kernel_rfl) ?_)
  refine wpAny_bind (wpAny_of_eq (a := false) rfl ?_)
  refine wpAny_bind (wpAny_of_eq (a := false) (by kernel_rfl) ?_)
  refine wpAny_bind (wpAny_of_eq (a := b.toArray) rfl ?_)
  show wpAny _ _ (mkIntGrown (b.foldl (fun (acc : Int) (b : UInt8) => acc * 256 + (b.toNat : Int)) ((0 : Nat) : Int)) >>= fun v => _) _ _ _
  rw [KFB.foldI_eq]
  refine wpAny_bind (grownB hl hn ?_)
  refine KFB.if_so (by decide +kernel) ?_
  exact wpAny_bind (wpAny_pure (wpAny_pure h))
theorem from_bytes_big {h₀ : Heap} {L : Addr} {news : List (Addr × Obj)} {x : Addr} {b : List UInt8} {t u : Tok} (N : News h₀ L s.heap news) (hm : (x, KFB.bound) ∈ news) (hl : b.length ≤ 1000000)
    (h : ∀ t' k, Q (.int (ofBE b : Int) t') { s with toks := k }) : wpAny (model prog w) A (call (.ref x) [.bytes b.toArray t, .str (PySem.Str.ofString "big") u]) Q E s :=
  KFB.call_of (KFB.at_of N hm) (fun z => tree_bigB hl z) (h _ _)
end
example : True := by
  (k_with "binaryOp Add bytes bytes" => ((with_reducible show wpAny _ _ (binaryOp Operator.Add (Value.bytes (List.toArray _) _) (Value.bytes (List.toArray _) _)) _ _ _); (refine bytes_add_K ?z rfl ?_); (case z => (simp only [List.size_toArray, List.length_append, List.length_cons, List.length_nil, List.length_replicate, beB_length, leB_length]; omega)); intro _ _))
  (k_with "call ref" => ((with_reducible show wpAny _ _ (call (Value.ref _) [Value.bytes (List.toArray _) _, Value.str _ _]) _ _ _); (refine' from_bytes_big ?N ?m ?l ?_; (case N => k_asm); (case m => k_mem); (case l => first | assumption | omega | (rw [digB_length]; decide) | (simp only [List.length_drop, digB_length]; decide) | (simp only [List.length_append, List.length_cons, List.length_nil, List.length_replicate, beB_length, leB_length]; omega))); intro _ _))
  (k_with "call builtin:int.to_bytes" => ((with_reducible show wpAny _ _ (call (Value.builtin "int.to_bytes") [Value.int _ _, Value.int (OfNat.ofNat _) _, Value.str _ _]) _ _ _); (first | (with_unfolding_all refine' to_bytes_big ?a ?b ?c ?_) | (with_unfolding_all refine' to_bytes_little ?a ?b ?c ?_)); (case a => decide); (case b => first | omega | exact Int.fmod_nonneg_of_pos _ (by decide)); (case c => first | omega | exact Int.lt_of_lt_of_le (Int.fmod_lt_of_pos _ (by decide)) (by decide) | exact Int.lt_of_lt_of_le (b := 1000000) (by omega) (by decide) | exact Int.lt_of_lt_of_le (b := 605153021707326989568713251046585937826285568576) (by omega) (by decide)); intro _ _))
  trivial
theorem by_slot : typeLookup (.type "bytes") (Str.ofString "__bytes__") = pure (some (.builtin "bytes.__bytes__")) := by rw [typeLookup_type, builtinLookup_eq_fast]; kernel_rfl
theorem by_no_int : typeLookup (.type "int") (Str.ofString "__bytes__") = pure none := by rw [typeLookup_type, builtinLookup_eq_fast]; kernel_rfl
theorem by_index_int : typeLookup (.type "int") (Str.ofString "__index__") = pure (some (.builtin "int.__index__")) := by rw [typeLookup_type, builtinLookup_eq_fast]; kernel_rfl
section
variable {prog : Program} {w : World} {A : Around} {E : Value → Shared → Prop} {s : Shared}
theorem by_new {b : Array UInt8} {t : Tok} {Q : Value → Shared → Prop} (hQ : Q (.bytes b t) s) :
    codeAny (model prog w) A (.call (.builtin "bytes.__new__") ⟨[.type "bytes", .bytes b t], []⟩) (wants Q E) s := by
  refine codeAny_of_tree ?_
  show wpAny _ A.in1 (do checkBuiltinCall "bytes.__new__" ⟨[.type "bytes", .bytes b t], []⟩; again (.builtin "bytes.__new__" ⟨[.type "bytes", .bytes b t], []⟩)) _ _ s
  refine wpAny_bind (wpAny_of_eq (F.bm_newCall _) (wpAny_pure ⟨plainId_quiet F.bm_plain _, codeAny_builtin F.bm_entry ?_⟩))
  rw [Around.under_plainId F.bm_plain _]
  have hT : s.TypeIs (.bytes b t) "bytes" := PySem.W.typeIs_bytes _ _ _
  unfold Builtin.«bytes.__new__»
  refine wpAny_bind (wpAny_of_eq (a := true) rfl ?_)
  refine bm_if_false rfl ?_
  refine wpAny_bind (wpAny_of_eq F.bm_sub ?_)
  refine bm_if_false rfl ?_
  refine wpAny_bind (wpAny_of_eq (F.bm_bind _) ?_)
  refine wpAny_bind (wpAny_of_eq (a := ()) rfl ?_)
  refine wpAny_bind (wpAny_of_eq (a := ()) rfl ?_)
  refine bm_if_false rfl ?_
  refine wpAny_bind (wpAny_specialOf hT by_slot ?_)
  dsimp only
  refine wpAny_bind (wpAny_rule ?_)
  refine wpAny_bind (wpAny_typeOf hT ?_)
  refine bm_if_true rfl ?_
  exact wpAny_of_eq (a := Fin.done (Flow.ret (Value.bytes b t))) (by first | rfl | kernel_rfl) hQ
theorem bytes_copy {b : Array UInt8} {t : Tok} {Q : Value → Shared → Prop} (hQ : Q (.bytes b t) s) : wpAny (model prog w) A (call (.type "bytes") [.bytes b t]) Q E s := by
  refine callType_codes (Q₁ := fun obj s₁ => s₁.TypeIs obj "bytes" ∧ Q obj s₁) F.bm_called (F.bm_typeCall _) F.entry_object_init
    (by_new ⟨PySem.W.typeIs_bytes _ _ _, hQ⟩) fun obj s₁ h₁ => ?_
  exact ⟨h₁.1, F.args_object_init_2 obj _, object_init_meets F.bm_called.init.lookup F.bm_called.made (by decide) prog w A.in1 _ s₁ ⟨h₁.1, rfl, h₁.2⟩⟩
theorem by_newI {t : Tok} {Q : Value → Shared → Prop} (hQ : ∀ t' k, Q (.bytes (List.replicate 56 0).toArray t') { s with toks := k }) :
    codeAny (model prog w) A (.call (.builtin "bytes.__new__") ⟨[.type "bytes", .int 56 t], []⟩) (wants Q E) s := by
  refine codeAny_of_tree ?_
  show wpAny _ A.in1 (do checkBuiltinCall "bytes.__new__" ⟨[.type "bytes", .int 56 t], []⟩; again (.builtin "bytes.__new__" ⟨[.type "bytes", .int 56 t], []⟩)) _ _ s
  refine wpAny_bind (wpAny_of_eq (F.bm_newCall _) (wpAny_pure ⟨plainId_quiet F.bm_plain _, codeAny_builtin F.bm_entry ?_⟩))
  rw [Around.under_plainId F.bm_plain _]
  have hT : s.TypeIs (.int 56 t) "int" := typeIs_int _ _ _
  unfold Builtin.«bytes.__new__»
  refine wpAny_bind (wpAny_of_eq (a := true) rfl ?_)
  refine bm_if_false rfl ?_
  refine wpAny_bind (wpAny_of_eq F.bm_sub ?_)
  refine bm_if_false rfl ?_
  refine wpAny_bind (wpAny_of_eq (F.bm_bind _) ?_)
  refine wpAny_bind (wpAny_of_eq (a := ()) rfl ?_)
  refine wpAny_bind (wpAny_of_eq (a := ()) rfl ?_)
  refine bm_if_false rfl ?_
  refine wpAny_bind (wpAny_specialOf hT by_no_int ?_)
  dsimp only
  refine wpAny_bind (wpAny_of_eq (a := false) rfl ?_)
  refine bm_if_false rfl ?_
  refine wpAny_bind (wpAny_specialOf hT by_index_int ?_)
  refine bm_if_false rfl ?_
  refine wpAny_bind (wpAny_of_eq (a := Except.ok 56) rfl ?_)
  dsimp only
  refine bm_if_false (by decide +kernel) ?_
  refine wpAny_ite_false (by decide +kernel) ?_
  refine wpAny_ite_false (by decide +kernel) ?_
  refine bm_if_false (by decide +kernel) ?_
  refine wpAny_bind (wpAny_rule ?_)
  refine wpAny_bind (wpAny_mkBytes ?_ (by decide +kernel))
  refine wpAny_of_eq (a := Fin.done (Flow.ret (Value.bytes (Array.replicate (Int.toNat 56) 0) _))) (by first | rfl | kernel_rfl) ?_
  exact hQ _ _
theorem bytes_56 {t : Tok} {Q : Value → Shared → Prop} (hQ : ∀ t' k, Q (.bytes (List.replicate 56 0).toArray t') { s with toks := k }) : wpAny (model prog w) A (call (.type "bytes") [.int 56 t]) Q E s := by
  refine callType_codes (Q₁ := fun obj s₁ => s₁.TypeIs obj "bytes" ∧ Q obj s₁) F.bm_called (F.bm_typeCall _) F.entry_object_init
    (by_newI fun t' k => ⟨PySem.W.typeIs_bytes _ _ _, hQ t' k⟩) fun obj s₁ h₁ => ?_
  exact ⟨h₁.1, F.args_object_init_2 obj _, object_init_meets F.bm_called.init.lookup F.bm_called.made (by decide) prog w A.in1 _ s₁ ⟨h₁.1, rfl, h₁.2⟩⟩
end
example : True := by
  (k_with "call type:bytes" => ((with_reducible show wpAny _ _ (call (Value.type "bytes") [Value.bytes _ _]) _ _ _); (refine bytes_copy ?_)))
  (k_with "call type:bytes" => ((with_reducible show wpAny _ _ (call (Value.type "bytes") [Value.int 56 _]) _ _ _); (refine bytes_56 ?_); intro _ _))
  trivial
noncomputable abbrev PR : Program := PySem.Challenge.rw_sa0314_01.row.prog
noncomputable abbrev Led := List (Addr × Obj)
noncomputable abbrev instO (C dx : Addr) : Obj := { cls := .ref C, dict := some dx, data := .plain, slots := #[] }
noncomputable abbrev tupO (xs : List Value) : Obj := { cls := .type "tuple", data := .seq xs.toArray }
noncomputable def Does (w : World) (f : Addr) (vs : List Value) (news : Led) (dep uni : Nat) (P : Value → Led → Prop) : Prop :=
  ∀ (loose : List Str) (mean : ExcName → Option Value) (mg mb : Str → Option Value) (dp un : Nat) (gd : Option (List Code)) (cn : Str) (cs : Scope) (a : Addr) (ccd : Value) (cl : List (Str × Addr)) (outer : List Env) (A₀ : Around) (base h₀ : Heap) (L : Addr) (m : Str → Option Value) (s : Shared) (Q E : Value → Shared → Prop),
    Below A₀ base outer h₀ → Fr h₀ L s.heap m → (Mine.hd.heap_1 w.params).In h₀ → News h₀ L s.heap news → Top Mine.hd.view_1 loose mean mg mb h₀ → cs.kind = .function → dp + dep < recursionLimit → un + uni < cLine →
    (∀ (v : Value) (news' : Led) (h' : Heap) (tk' : Nat), P v news' → Fr h₀ L h' m → News h₀ L h' news' → Q v { s with heap := h', toks := tk' }) →
    wpAny (model PR w) (ktrTop dp un gd cn cs L a ccd cl outer) (call (.ref f) vs) Q E s
theorem Does.use {w : World} {f : Addr} {vs : List Value} {news : Led} {dep uni : Nat} {P : Value → Led → Prop} (C : Does w f vs news dep uni P)
    {loose : List Str} {mean : ExcName → Option Value} {mg mb : Str → Option Value} {dp un : Nat} {gd : Option (List Code)} {cn : Str} {cs : Scope} {a : Addr} {ccd : Value} {cl : List (Str × Addr)} {outer : List Env} {A₀ : Around} {base h₀ : Heap} {L : Addr} {m : Str → Option Value} {s : Shared} {Q E : Value → Shared → Prop}
    (B : Below A₀ base outer h₀) (F : Fr h₀ L s.heap m) (X : (Mine.hd.heap_1 w.params).In h₀) (N : News h₀ L s.heap news) (T : Top Mine.hd.view_1 loose mean mg mb h₀) (hk : cs.kind = .function) (hd : dp + dep < recursionLimit) (hu : un + uni < cLine)
    (ret : ∀ (v : Value) (news' : Led) (h' : Heap) (tk' : Nat), P v news' → Fr h₀ L h' m → News h₀ L h' news' → Q v { s with heap := h', toks := tk' }) :
    wpAny (model PR w) (ktrTop dp un gd cn cs L a ccd cl outer) (call (.ref f) vs) Q E s := C _ _ _ _ _ _ _ _ _ _ _ _ _ _ _ _ _ _ _ _ _ B F X N T hk hd hu ret
theorem tk_gen {α : Type} {M : Model} {A : Around} {t : Sem α} {Q : α → Shared → Prop} {E : Value → Shared → Prop} {h : Heap} {g : Array GenState} {d : Drawn} {n k : Nat} {o : OsState}
    (H : ∀ tk : Nat, wpAny M A t Q E ⟨h, g, d, tk, o⟩) : wpAny M A t Q E ⟨h, g, d, n + k, o⟩ := H _
noncomputable def RT3 (news : Led) (p : Int × Int × Int) (v : Value) (n' : Led) : Prop :=
  ∃ (t : Addr) (a b c : Int) (k1 k2 k3 : Tok), p = (a, b, c) ∧ v = .ref t ∧ n' = (t, tupO [.int a k1, .int b k2, .int c k3]) :: news
theorem execs_app {env : Env} : ∀ (l1 l2 : List Stmt), execs (l1 ++ l2) env = (do match ← execs l1 env with | .next => execs l2 env | f => pure f)
  | [], l2 => rfl
  | st :: l1, l2 => by
    show execs (st :: (l1 ++ l2)) env = _
    rw [PySem.execs_cons, PySem.execs_cons, execs_app l1 l2, bind_assoc]
    congr 1; funext f; cases f <;> rfl
noncomputable def Keep (h₀ : Heap) (L : Addr) (m : Str → Option Value) (news : Led) (s : Shared) (f : Flow) (s' : Shared) : Prop :=
  f = .next ∧ ∃ h tk, s' = { s with heap := h, toks := tk } ∧ Fr h₀ L h m ∧ News h₀ L h news
theorem cut_keep {M : Model} {A : Around} {env : Env} {Q : Flow → Shared → Prop} {E : Value → Shared → Prop} {s : Shared} {h₀ : Heap} {L : Addr} {m : Str → Option Value} {news : Led} (n : Nat) {l : List Stmt} (_F : Fr h₀ L s.heap m) (_N : News h₀ L s.heap news)
    (head : wpAny M A (execs (l.take n) env) (Keep h₀ L m news s) E s)
    (tail : ∀ h tk, Fr h₀ L h m → News h₀ L h news → wpAny M A (execs (l.drop n) env) Q E { s with heap := h, toks := tk }) : wpAny M A (execs l env) Q E s := fun Γ p hΓ => by
  rw [← List.take_append_drop n l, execs_app, Sem.wp_bind']
  refine Sem.wp_mono M Γ _ (fun f p' s' h' => ?_) (fun _ _ _ h' => h') _ _ (head Γ p hΓ)
  obtain ⟨rfl, h, tk, rfl, F, N⟩ := h'
  exact tail h tk F N Γ p' hΓ
theorem cpsG {P : Prop} (h : ∀ G : Prop, (P → G) → G) : P := h P id
theorem ex2 {α : Type} {A B : α → Prop} {G : Prop} (h : ∃ x, A x ∧ B x) (k : ∀ x, A x → B x → G) : G := h.elim fun x q => k x q.1 q.2
theorem ex3 {α : Type} {A B C : α → Prop} {G : Prop} (h : ∃ x, A x ∧ B x ∧ C x) (k : ∀ x, A x → B x → C x → G) : G := h.elim fun x q => k x q.1 q.2.1 q.2.2
local macro_rules | `(tactic| walk_at $s:str) => `(tactic| k_extra $s)
local macro_rules | `(tactic| k_room) => `(tactic| ktr_room)
local macro_rules | `(tactic| k_units) => `(tactic| ktr_units)
local macro_rules | `(tactic| k_mem) => `(tactic| first | with_reducible exact List.mem_cons_self | with_reducible assumption | (with_reducible refine List.mem_cons_of_mem _ ?_; k_mem) | (with_reducible refine List.mem_append_right _ ?_; k_mem))
local macro_rules | `(tactic| k_handed) => `(tactic| with_reducible assumption)
local macro_rules | `(tactic| ktn_open) => `(tactic| ((try (case N => k_asm)); (case B => k_asm); (case F => k_asm); (case X => k_asm); (case T => k_asm); (case K => first | exact rfl | assumption); (case D => ktr_room); (case U => ktr_units)))
local macro_rules | `(tactic| k_all) => `(tactic| with_reducible assumption)
structure Dg where
  f : Int → Option Int
  n : Nat
noncomputable def Dg.add (D : Dg) (k : Int) : Dg := match D.f k with
  | some _ => D
  | none => ⟨fun j => if j = k then some (D.n + 1) else D.f j, D.n + 1⟩
noncomputable def Dg.num (D : Dg) (k : Int) : Int := match D.f k with
  | some v => v
  | none => D.n + 1
structure Dg.WF (D : Dg) : Prop where
  range : ∀ k v, D.f k = some v → 1 ≤ v ∧ v ≤ D.n
  inj : ∀ k j v, D.f k = some v → D.f j = some v → k = j
theorem Dg.add_WF {D : Dg} (h : D.WF) (k : Int) : (D.add k).WF := by
  unfold Dg.add; split
  · exact h
  · rename_i hk
    refine ⟨fun j v hj => ?_, fun i j v hi hj => ?_⟩
    · dsimp only at hj ⊢; split at hj
      · cases hj; (first | lia | omega)
      · have := h.range j v hj; (first | lia | omega)
    · dsimp only at hi hj; split at hi <;> split at hj
      · (first | lia | omega)
      · cases hi; have := h.range j _ hj; (first | lia | omega)
      · cases hj; have := h.range i _ hi; (first | lia | omega)
      · exact h.inj i j v hi hj
theorem Dg.num_in {D : Dg} (h : D.WF) (k : Int) : 1 ≤ D.num k ∧ D.num k ≤ D.n + 1 := by
  unfold Dg.num; split
  · rename_i v hv; have := h.range k v hv; (first | lia | omega)
  · (first | lia | omega)
noncomputable def KnownO (w : World) (o : Obj) (D : Dg) : Prop :=
  ∃ (kvs : List (Int × Value)) (T : List (PyData × PyData)), o.IsDictOf (PySem.intKind PR w) kvs ∧ PyProof.V.FlatPairs PyData.int kvs T ∧ T.length = D.n ∧ ∀ k, PySem.Spec.lookup (.int k) T = (D.f k).map PyData.int
structure DigestAt (w : World) (news : Led) (d kd : Addr) (ko : Obj) (D : Dg) : Prop where
  ex : ∃ (dx : Addr) (h0 : Int) (t0 : Tok) (k0 : Nat), (d, instO 52 dx) ∈ news ∧ (dx, dictOf [⟨h0, .str (Str.ofString "known") t0, .ref kd⟩] k0) ∈ news ∧ d ≠ kd ∧ dx ≠ kd
  low : (kd == sysModules) = false
  known : KnownO w ko D
  wf : D.WF
  small : D.n ≤ 1000
noncomputable abbrev keyOf (b : List UInt8) : Int := (ofBE (1 :: b) : Int)
noncomputable def RNum (w : World) (D : Dg) (k : Int) (o' : Obj) (v : Value) : Prop := (∃ t, v = .int (D.num k) t) ∧ KnownO w o' (D.add k)
theorem number_does {w : World} {news : Led} {d kd : Addr} {ko : Obj} {D : Dg} {b : List UInt8} {tb : Tok} (hD : DigestAt w news d kd ko D) (hb : b.length ≤ 100000) (hoff : ∀ p ∈ news, p.1 ≠ kd) :
    Does w 42 [.ref d, .bytes b.toArray tb] ((kd, ko) :: news) 3 60 (fun v n' => ∃ o', RNum w D (keyOf b) o' v ∧ n' = (kd, o') :: news) := by
  intro loose mean mg mb dp un gd cn cs a ccd cl outer A₀ base h₀ L m s Q E B F X N T hk hd hu ret
  obtain ⟨dx, e0, t0, k0, m1, m2, ne1, ne2⟩ := hD.ex
  have lo := hD.low
  obtain ⟨kvs, TT, hio, hfl, hlen, hlook⟩ := hD.known
  have hsm := hD.small
  have hl := hlook (keyOf b)
  have hz : TT.length ≤ sizeLine := by rw [hlen, sizeLine_eq]; (first | lia | omega)
  (k_with "setItem ref int" => (k_dflt (refine' setItem_K PyProof.V.same_int (intKind_is _ _ _ _) ?v ?F ?N ?U ?d ?f ?_ ?z; (case F => k_asm); (case N => k_asm); (case U => k_updF); (case d => k_asm); (case f => k_asm); (case z => exact hz); (case v => k_flat)); intro h' o' F' N' hd' hf'; (try dsimp only at N')))
  (k_with "compareOp NotIn int ref" => (refine notin_intTab (by k_tabat) ?_; rw [hl]; dsimp only [Option.map, Option.isSome, Bool.not_true, Bool.not_false]))
  (k_with "getItem ref int" => (k_dflt (refine' getItem_tab PyProof.V.same_int (intKind_is _ _ _ _) ?k1 ?k2 ?_; (case k1 => k_tabat); (case k2 => first | exact hl | (rw [lookup_putD_int, if_pos rfl])); intro vv' hv'; dict_open hv')))
  rcases hf : D.f (keyOf b) with _ | v0
  · rw [hf] at hl
    refine wpAny_call ?_
    k_dflt ktr_enter
    k_steps
    have hv : D.num (keyOf b) = (TT.length : Int) + 1 := by unfold Dg.num; rw [hf, hlen]
    refine ret _ _ _ _ ⟨o', ⟨⟨_, congrArg (fun z => Value.int z _) hv.symm⟩, ?_⟩, rfl⟩ (by assumption) (cb_drop (by assumption) (by kcj_all))
    · refine ⟨_, _, hd', hf', ?_, fun j => ?_⟩
      · rw [length_putD, hl]; unfold Dg.add; rw [hf, hlen]; rfl
      · rw [lookup_putD_int, hlook]; unfold Dg.add; rw [hf]; dsimp only; split
        · rw [hlen]; rfl
        · rfl
  · rw [hf] at hl
    refine wpAny_call ?_
    k_dflt ktr_enter
    k_steps
    have hv : D.num (keyOf b) = v0 := by unfold Dg.num; rw [hf]
    refine ret _ _ _ _ ⟨ko, ⟨⟨_, congrArg (fun z => Value.int z _) hv.symm⟩, ?_⟩, rfl⟩ (by assumption) (cb_drop (by assumption) (by kcj_all))
    · unfold Dg.add; rw [hf]; exact hD.known
section
open Calls
variable {M : Model} {A : Around} {E : Value → Shared → Prop} {h : Heap} {g : Array GenState} {d : Drawn} {t : Nat} {os : OsState}
variable {nm q nmD qD : Str} {C N D ND : Addr} {bs bm bsD bmD bmB : List Value} {hdct hdctD : Bool} {sn snD : List Str} {sub subD : List Value} {ab abD : Bool} {col colD : Option Bool} {dd ddD : Option Addr} {k0 k1 k2 k3 k5 j0 j1 j2 j3 j5 : Option Value} {B newId newD initId : String}
theorem ex_check_new (F : ExcBaseFacts B newId initId bmB) (hcont : (Value.ref C :: bm).contains (.type B) = true) {rest : List Value} {Q : Unit → Shared → Prop} (hC : h.get? C = some (excClassObj nm q C N bs bm hdct sn sub ab col dd k0 k1 k2 k3 k5 newId))
    (hq : Q () ⟨h, g, d, t, os⟩) : wpAny M A (checkBuiltinCall newId ⟨.ref C :: rest, []⟩) Q E ⟨h, g, d, t, os⟩ := by
  have hstar := F.noStar
  simp only [checkBuiltinCall, F.newKind, F.newSplit, F.newRow]
  repeat (first | refine wpAny_loadPart_at hC ?_ | (refine wpAny_isSubtype_exc hC ?_; rw [hcont]) | refine wpAny_staticBase_exc hC ?_ | refine wpAny_madeBy_exc hC ?_ | simp only [bne_self_eq_false, Bool.false_eq_true, if_false] | wp_step)
  exact hq
end
section
open Calls
variable {prog : Program} {w : World} {A : Around} {E : Value → Shared → Prop} {R : Result → Shared → Prop} {h : Heap} {g : Array GenState} {d : Drawn} {t : Nat} {os : OsState}
variable {nm q nmD qD : Str} {C N D ND : Addr} {bs bm bsD bmD bmB : List Value} {hdct hdctD : Bool} {sn snD : List Str} {sub subD : List Value} {ab abD : Bool} {col colD : Option Bool} {dd ddD : Option Addr} {k0 k1 k2 k3 k5 j0 j1 j2 j3 j5 : Option Value} {B newId newD initId : String}
theorem ex_new (F : ExcBaseFacts B newId initId bmB) (hcB : (Value.ref C :: bm).contains (.type B) = true) (hcA : (Value.ref C :: bm).contains (.type "AttributeError") = false) (hcN : (Value.ref C :: bm).contains (.type "NameError") = false) {rest : List Value}
    (hC : h.get? C = some (excClassObj nm q C N bs bm hdct sn sub ab col dd k0 k1 k2 k3 k5 newId))
    (hq : R (.ok (.ret (.ref (h.objs.size + 1)))) ⟨(h.push { cls := .type "tuple", data := .seq rest.toArray }).push
      { cls := .ref C, data := .fields #[.ref h.objs.size, .none, .none, .none, .bool false, .none] }, g, d, t, os⟩) (hrest : rest.length ≤ sizeLine) :
    codeAny (model prog w) A (.builtin newId ⟨.ref C :: rest, []⟩) R ⟨h, g, d, t, os⟩ := by
  have hends := F.ends
  refine codeAny_builtinAt F.entry ?_
  unfold Builtin.«BaseException.__new__»
  refine PySem.wpAt_bind ?_
  show PySem.wpAt _ _ _ (stack >>= _) _ _ _
  refine PySem.wpAt_bind (PySem.wpAt_stack fun p below => PySem.wpAt_of_wpAny ?_)
  wp_walk
  refine PySem.wpAt_of_wpAny ?_
  rw [F.owner]
  repeat (first | with_reducible refine wpAny_madeHere_exc F.canon hC ?_ | with_reducible refine wpAny_loadPart_at hC ?_ | (with_reducible refine wpAny_isSubtype_exc hC ?_; first | rw [hcB] | rw [hcA] | rw [hcN]) | wp_step)
  show R _ _
  rw [Heap.size_push]
  exact hq
theorem ex_type_call (F : ExcBaseFacts B newId initId bmB) (hcB : (Value.ref C :: .ref D :: bm).contains (.type B) = true) (hcA : (Value.ref C :: .ref D :: bm).contains (.type "AttributeError") = false) (hcN : (Value.ref C :: .ref D :: bm).contains (.type "NameError") = false)
    {K : Frag} {rest : List Value} {fI : Addr} {oI : Obj} {Q : Fin → Shared → Prop}
    (hC : h.get? C = some (excClassObj nm q C N bs (.ref D :: bm) hdct sn sub ab col dd k0 k1 k2 k3 k5 newId)) (X : K.In h) (hi : findIn K (.ref C) "__init__" = some (some (.ref fI))) (hfI : h.get? fI = some oI) (hfc : oI.cls = .type "function")
    (hq : ∀ h' e, Heap.MadeExcOf h h' e (.ref C) rest →
      wpAny (model prog w) A (call (.ref fI) (.ref e :: rest)) (fun r s' => r = .none ∧ Q (.done (.ret (.ref e))) s') E ⟨h', g, d, t, os⟩) (hrest : rest.length ≤ sizeLine) :
    wpAny (model prog w) A (Builtin.«type.__call__» ⟨.ref C :: rest, []⟩) Q E ⟨h, g, d, t, os⟩ := by
  repeat (first | with_reducible refine wpAny_loadPart_at hC ?_ | with_reducible refine wpAny_madeBy_exc hC ?_ | wp_step)
  refine codeAny_call_builtin_code (Code.quiet_builtin _ F.quiet) (ex_check_new F hcB hC ?_)
  refine ex_new F hcB hcA hcN hC ?_ hrest
  show wpAny _ _ _ _ _ _
  have up : ∀ {b o}, h.get? b = some o → ((h.push { cls := .type "tuple", data := .seq rest.toArray }).push { cls := .ref C, data := .fields #[.ref h.objs.size, .none, .none, .none, .bool false, .none] }).get? b = some o :=
    fun e => Heap.get?_push_of_some _ (Heap.get?_push_of_some _ e)
  have hget : ((h.push { cls := .type "tuple", data := .seq rest.toArray }).push
      { cls := .ref C, data := .fields #[.ref h.objs.size, .none, .none, .none, .bool false, .none] }).get? (h.objs.size + 1) = some
      { cls := .ref C, data := .fields #[.ref h.objs.size, .none, .none, .none, .bool false, .none] } := by heap_get
  have hcC : (Value.ref C :: .ref D :: bm).contains (.ref C) = true := by simp
  unfold isInstance
  repeat (first | with_reducible refine wpAny_loadPart_at hget ?_ | (with_reducible refine wpAny_isSubtype_exc (up hC) ?_; rw [hcC]) | wp_step)
  show wpAny _ _ (typeLookup (.ref C) _) _ _ _
  refine (looks_findIn (X.keeps fun b o e => up e) hi).here ?_
  refine wpAny_holding (wpAny_bind ?_)
  unfold bindSpecial
  refine wpAny_bind (wpAny_typeOf (T := "function") ⟨_, up hfI, hfc⟩ ?_)
  rw [if_pos (by decide)]
  refine wpAny_pure (wpAny_bind (wpAny_mono (hq _ (h.objs.size + 1) ⟨fun b o hb => up hb, Heap.get?_none_of_le (Nat.le_succ _), h.objs.size, hget, Heap.get?_none_of_le (Nat.le_refl _), ?_⟩) (fun r s' hr => ?_) fun _ _ x => x))
  · exact Heap.get?_push_of_some _ (Heap.get?_push_at rfl rfl)
  · obtain ⟨rfl, hQ⟩ := hr
    wp_walk
    exact hQ
theorem ex_call (F : ExcBaseFacts B newId initId bmB) (hcB : (Value.ref C :: .ref D :: bm).contains (.type B) = true) (hcA : (Value.ref C :: .ref D :: bm).contains (.type "AttributeError") = false) (hcN : (Value.ref C :: .ref D :: bm).contains (.type "NameError") = false)
    {K : Frag} {rest : List Value} {fI : Addr} {oI : Obj} {Q : Value → Shared → Prop}
    (hC : h.get? C = some (excClassObj nm q C N bs (.ref D :: bm) hdct sn sub ab col dd k0 k1 k2 k3 k5 newId)) (X : K.In h) (hi : findIn K (.ref C) "__init__" = some (some (.ref fI))) (hfI : h.get? fI = some oI) (hfc : oI.cls = .type "function")
    (hq : ∀ h' e, Heap.MadeExcOf h h' e (.ref C) rest →
      wpAny (model prog w) (A.under (.builtin "type.__call__" ⟨.ref C :: rest, []⟩)) (call (.ref fI) (.ref e :: rest)) (fun r s' => r = .none ∧ Q (.ref e) s') E ⟨h', g, d, t, os⟩) (hrest : rest.length ≤ sizeLine) :
    wpAny (model prog w) A (call (.ref C) rest) Q E ⟨h, g, d, t, os⟩ := by
  have f1 := tc_lookup
  have f2 := tc_bind (.ref C)
  have hT : (⟨h, g, d, t, os⟩ : Shared).TypeIs (.ref C) "type" := ⟨_, hC, rfl⟩
  refine wpAny_call (codeAny_of_tree ?_)
  show wpAny _ _ (callAny (.ref C) _) _ _ _
  repeat (any_goals (first | assumption | with_reducible refine wpAny_loadPart_at hC ?_ | wp_step))
  refine ⟨rfl, ?_⟩
  refine codeAny_call_builtin_at (Code.quiet_builtin _ (by decide +kernel)) entry_typeCall (wpAny_check_type_call_sub hC (ex_type_call F hcB hcA hcN hC X hi hfI hfc (fun h' e hm => ?_) hrest))
  exact hq h' e hm
end
noncomputable abbrev excO (C t : Addr) : Obj := { cls := .ref C, data := .fields #[.ref t, .none, .none, .none, .bool false, .none] }
noncomputable abbrev excD (C t dx : Addr) : Obj := { cls := .ref C, dict := some dx, data := .fields #[.ref t, .none, .none, .none, .bool false, .none] }
section
open Calls
variable {prog : Program} {w : World} {A : Around} {E : Value → Shared → Prop} {R : Result → Shared → Prop} {h : Heap} {g : Array GenState} {d : Drawn} {t : Nat} {os : OsState}
variable {nm q : Str} {C N e te : Addr} {bs bm bmB : List Value} {hdct : Bool} {sn : List Str} {sub : List Value} {ab : Bool} {col : Option Bool} {dd : Option Addr} {k0 k1 k2 k3 k5 : Option Value} {B newId nid initId : String}
theorem ex_check_init (F : ExcBaseFacts B nid initId bmB) (hcB : (Value.ref C :: bm).contains (.type B) = true) {M : Model} {e : Addr} {oe : Obj} {rest : List Value} {Q : Unit → Shared → Prop}
    (hC : h.get? C = some (excClassObj nm q C N bs bm hdct sn sub ab col dd k0 k1 k2 k3 k5 newId)) (he : h.get? e = some oe) (hcls : oe.cls = .ref C) (hq : Q () ⟨h, g, d, t, os⟩) :
    wpAny M A (checkBuiltinCall initId ⟨.ref e :: rest, []⟩) Q E ⟨h, g, d, t, os⟩ := by
  have hshort := F.noStar
  simp only [checkBuiltinCall, F.initKind, F.initSplit, F.initRow]
  repeat (first | (with_reducible refine wpAny_loadPart_at he ?_; rw [hcls]) | with_reducible refine wpAny_loadPart_at hC ?_ | (with_reducible refine wpAny_isSubtype_exc hC ?_; rw [hcB]) | wp_step)
  refine wpAny_onRaise ?_
  rw [show ∀ (a b : String) (n : Nat), Bind.check ⟨.positional, "*", B, .self, [⟨"args", .varPos, false⟩]⟩ a b n (List.map (fun x => x.fst) ({ pos := Value.ref e :: rest } : Args).kw) = pure () from
    fun a b n => check_star_args _ _ _ _ _ _]
  exact wpAny_pure hq
theorem ex_init (F : ExcBaseFacts B nid initId bmB) (hcB : (Value.ref C :: bm).contains (.type B) = true) {rest : List Value} {Q : Value → Shared → Prop}
    (hC : h.get? C = some (excClassObj nm q C N bs bm hdct sn sub ab col dd k0 k1 k2 k3 k5 newId)) (he : h.get? e = some (excO C te)) (hrest : rest.length ≤ sizeLine)
    (hq : ∀ h', Heap.SameBut e (h.push { cls := .type "tuple", data := .seq rest.toArray }) h' → h'.get? e = some (excO C h.objs.size) → Q .none ⟨h', g, d, t, os⟩) :
    wpAny (model prog w) A (call (.builtin initId) (.ref e :: rest)) Q E ⟨h, g, d, t, os⟩ := by
  refine wpAny_call (codeAny_call_builtin F.init.plain F.initEntry (ex_check_init F hcB hC he rfl ?_))
  wp_walk
  exact hq _ (.update _ _ _) (Heap.get?_update_self _ (Heap.get?_push_of_some _ he) rfl)
end
noncomputable abbrev clsTx : Obj := excClassObj (Str.ofString "TxFault") (Str.ofString "TxFault") 105 104 [.ref 80] [.ref 80, .type "Exception", .type "BaseException", .type "object"] true [] [] false none none (some (.ref 96)) none (some (.str (Str.ofString "TxFault") 305)) (some (.str (Str.ofString "TxFault") 313)) (some (.bool true)) "Exception.__new__"
noncomputable abbrev clsMf : Obj := excClassObj (Str.ofString "MachineFault") (Str.ofString "MachineFault") 80 79 [.type "Exception"] [.type "Exception", .type "BaseException", .type "object"] true [] [.ref 93, .ref 105] false none none (some (.ref 64)) none (some (.str (Str.ofString "MachineFault") 260)) (some (.str (Str.ofString "MachineFault") 268)) (some (.bool true)) "Exception.__new__"
theorem tx_cls {w : World} {h : Heap} (X : (Mine.hd.heap_1 w.params).In h) : h.get? 105 = some clsTx := by
  refine' X 105 _ ?e
  case e => k_is
theorem mf_cls {w : World} {h : Heap} (X : (Mine.hd.heap_1 w.params).In h) : h.get? 80 = some clsMf := by
  refine' X 80 _ ?e
  case e => k_is
theorem ex_init_K {w : World} {A : Around} {E : Value → Shared → Prop} {s : Shared} {h₀ : Heap} {L e te : Addr} {m : Str → Option Value} {news : Led} {v : Value} {Q : Value → Shared → Prop} (F : Fr h₀ L s.heap m) (X : (Mine.hd.heap_1 w.params).In h₀) (N : News h₀ L s.heap ((e, excO 105 te) :: news)) (hoff : ∀ p ∈ news, p.1 ≠ e)
    (h : ∀ t h', Fr h₀ L h' m → News h₀ L h' ((e, excO 105 t) :: (t, tupO [v]) :: news) → (∀ p ∈ news, p.1 < t) → Q .none { s with heap := h' }) :
    wpAny (model PR w) A (call (.builtin "Exception.__init__") [.ref e, v]) Q E s := by
  obtain ⟨hp, g, d, tk, os⟩ := s
  dsimp only at F N
  have N1 := News.push F N { cls := .type "tuple", data := .seq #[v] }
  have he : hp.objs.size ≠ e := N.fresh_ne (e, excO 105 te) (.head _)
  refine ex_init (F := PySem.F.excBase_Exception) (by decide) (tx_cls (X.keeps F.keep)) (N.get (.head _)) (by rw [PySem.sizeLine_eq]; exact Nat.le_of_ble_eq_true rfl) fun h' hs ho => ?_
  have N2 : News h₀ L (hp.push { cls := .type "tuple", data := .seq #[v] }) ((e, excO 105 te) :: (hp.objs.size, tupO [v]) :: news) := cb_drop N1 (by kcj_all)
  refine h hp.objs.size h' ((F.push _).update N2 (.head _) hs) (N2.setHead ?_ hs ho) fun p hp' => Heap.lt_size (N p (.tail _ hp')).1
  intro p hp'
  rcases List.mem_cons.mp hp' with rfl | hp'
  · exact he
  · exact hoff p hp'
theorem refuse_exc (self : Value) : refuseLoop self "__setattr__" [.ref 105, .ref 80, .type "Exception", .type "BaseException", .type "object"] = pure () := by
  rw [refuseLoop_ref, refuseLoop_ref]
  kernel_rfl
theorem ex_set {w : World} {A : Around} {E : Value → Shared → Prop} {s : Shared} {h₀ : Heap} {L e te : Addr} {m : Str → Option Value} {news : Led} {v : Value} {Q : Unit → Shared → Prop} (F : Fr h₀ L s.heap m) (X : (Mine.hd.heap_1 w.params).In h₀) (N : News h₀ L s.heap ((e, excO 105 te) :: news)) (hoff : ∀ p ∈ news, p.1 ≠ e)
    (h : ∀ dx h' h0 tk0 k, Fr h₀ L h' m → News h₀ L h' ((e, excD 105 te dx) :: (dx, dictOf [⟨h0, .str (Str.ofString "word") tk0, v⟩] 1) :: news) → (∀ p ∈ (e, excO 105 te) :: news, p.1 < dx) → Q () { s with heap := h', toks := k }) :
    wpAny (model PR w) A (setAttr (.ref e) (Str.ofString "word") v) Q E s := by
  have X' := X.keeps F.keep
  have he := N.get (a := e) (.head _)
  have I : InstAt s.heap e (excO 105 te) 105 none := ⟨he, rfl, rfl, trivial⟩
  have hs : findIn (Mine.hd.heap_1 w.params) (.ref 105) "__setattr__" = some (some (.builtin "object.__setattr__")) := by k_is
  have hw : findIn (Mine.hd.heap_1 w.params) (.ref 105) (Str.ofString "word") = some none := by k_is
  have hC := tx_cls X'
  refine set_plain X' I hs ?_
  have SF := PySem.F.store_object
  have hm : Looks (model PR w) s.heap (mroOf (.ref 105)) [.ref 105, .ref 80, .type "Exception", .type "BaseException", .type "object"] := fun A Q E s' k q => by
    obtain ⟨_, _, _, _, _⟩ := s'
    exact wpAny_mroOf_exc (k _ _ hC) q
  have sub : Looks (model PR w) s.heap (isInstance (.ref e) (.type "object")) true := I.type.andThen (fun A Q E s' k q => by
    obtain ⟨_, _, _, _, _⟩ := s'
    exact wpAny_isSubtype_exc (k _ _ hC) q)
  refine codeAny_call_builtin SF.slot.plain SF.entry (@check_slot (model PR w) _ _ { s with toks := s.toks + 1 } "object.__setattr__" "object" "__setattr__" (.ref e) [.str (Str.ofString "word") s.toks, v] [] _ SF.kind SF.split sub (SF.args (.ref e) (.str (Str.ofString "word") s.toks) v) ?_)
  rw [osa_eq, refuse_eq]
  refine wpAny_bind (wpAny_bind (I.type.here (s := { s with toks := s.toks + 1 }) (wpAny_bind (hm.here (s := { s with toks := s.toks + 1 }) ?_))))
  rw [refuse_exc]
  refine wpAny_pure (wpAny_bind (I.type.here (s := { s with toks := s.toks + 1 }) (wpAny_bind ((looks_findIn X' hw).here (s := { s with toks := s.toks + 1 }) (wpAny_bind ?_)))))
  refine wpAny_pure (a := none) ?_
  show wpAny _ _ (Builtin.ObjectAttr.storeInOwnDict (.ref e) (.ref 105) (.str (Str.ofString "word") s.toks) (Str.ofString "word") v false) _ _ _
  refine wpAny_bind (wpAny_pure (wpAny_bind ?_))
  obtain ⟨hp, g, d, tk, os⟩ := s
  dsimp only at F N he hC ⊢
  unfold Builtin.ObjectAttr.ownDictForStores instanceDict
  repeat (first | with_reducible refine wpAny_loadPart_at he ?_ | with_reducible refine wpAny_loadPart_at hC ?_ | wp_step)
  have hne : e ≠ hp.objs.size := Ne.symm (N.fresh_ne (e, excO 105 te) (.head _))
  have N1 : News h₀ L (hp.push { cls := .type "dict", data := .dict #[] }) ((e, excO 105 te) :: (hp.objs.size, dictOf [] 0) :: news) := cb_drop (News.push F N { cls := .type "dict", data := .dict #[] }) (by kcj_all)
  have F1 := F.push { cls := .type "dict", data := .dict #[] }
  generalize hH : (hp.push { cls := .type "dict", data := .dict #[] }).update e (fun o => { cls := o.cls, dict := some hp.objs.size, data := o.data, slots := o.slots }) = H
  have hsb : Heap.SameBut e (hp.push { cls := .type "dict", data := .dict #[] }) H := by rw [← hH]; exact .update _ _ _
  have heH : H.get? e = some (excD 105 te hp.objs.size) := by rw [← hH]; exact Heap.get?_update_self _ (Heap.get?_push_of_some _ he) rfl
  have F2 := F1.update N1 (.head _) hsb
  have N2 := N1.setHead (by
    intro p hp'
    rcases List.mem_cons.mp hp' with rfl | hp'
    · exact Ne.symm hne
    · exact hoff p hp') hsb heH
  have D : H.get? hp.objs.size = some (dictOf [] 0) := N2.get (.tail _ (.head _))
  refine wpAny_askSetting (wpAny_pure (wpAny_bind (wpAny_mkText (wpAny_bind (wpAny_loadPart D ?_)))))
  dsimp only
  rw [if_neg (by decide)]
  obtain ⟨U1, U2⟩ := news_upd (pre := [(e, excD 105 te hp.objs.size)]) (post := news) (f := Obj.putName (Str.ofString "word") (PyData.keyHash w.params (Str.ofString "word")) (.str (Str.ofString "word") (tk + 1)) v) F2 N2 (fun p hp' => by rw [List.mem_singleton.mp hp']; exact hne) (fun p hp' => Ne.symm (N.fresh_ne p (.tail _ hp'))) rfl rfl
  refine wpAny_updatePart D ?_
  refine wpAny_bind (wpAny_lookBehind (U2 _ (.tail _ (.head _))).1 (pastItsLine_dict (by rw [PySem.sizeLine_eq]; exact Nat.le_of_ble_eq_true rfl)) ?_)
  exact wpAny_pure (h _ _ _ _ _ U1 U2 fun p hp' => Heap.lt_size (N p hp').1)
theorem init_does {w : World} {news : Led} {e t : Addr} {sg : Str} {stk : Tok} (hoff : ∀ p ∈ news, p.1 ≠ e) :
    Does w 77 [.ref e, .str sg stk] ((e, excO 105 t) :: news) 3 60 (fun v n' => v = .none ∧ ∃ (t2 dx : Addr) (h0 : Int) (tk0 : Tok), n' = (e, excD 105 t2 dx) :: (dx, dictOf [⟨h0, .str (Str.ofString "word") tk0, .str sg stk⟩] 1) :: (t2, tupO [.str sg stk]) :: news) := by
  intro loose mean mg mb dp un gd cn cs a ccd cl outer A₀ base h₀ L m s Q E B F X N T hk hd hu ret
  (k_with "getMethod type:Exception" => (k_dflt (refine' method_type ?F ?X ?m (by decide +kernel) ?e ?h ?_; (case F => k_asm); (case X => k_asm); (case m => (first | rfl | kernel_rfl)); (case e => k_is); (case h => (show handedIn _ = true; decide +kernel)))))
  (k_with "setAttr ref" => (k_dflt (refine' ex_set ?F ?X ?N ?o ?_; (case F => k_asm); (case X => k_asm); (case N => k_asm); (case o => exact hoff2); intro dx h' hh0 tk0 k0 F' N' l2)))
  (k_with "call builtin:Exception.__init__" => (k_dflt (refine' ex_init_K ?F ?X ?N ?o ?_; (case F => k_asm); (case X => k_asm); (case N => k_asm); (case o => exact hoff); intro t2 h' F' N' l1; have hoff2 : ∀ p ∈ (t2, tupO [.str sg stk]) :: news, p.1 ≠ e := List.forall_mem_cons.mpr ⟨fun q => (by have h1 := N'.get (.head _); have h2 := N'.get (.tail _ (.head _)); rw [show t2 = e from q, h1] at h2; cases h2), hoff⟩)))
  refine wpAny_call ?_
  k_dflt ktr_enter
  k_steps
  exact ret _ _ _ _ ⟨rfl, _, _, _, _, rfl⟩ (by assumption) (by assumption)
theorem ex_raiseStmt {M : Model} {A : Around} {E : Value → Shared → Prop} {env : Env} {s : Shared} {x : Sem Value} {Q : Flow → Shared → Prop} (hh : A.handled = none)
    (h : wpAny M A x (fun v s₁ => ∃ e t dx, v = .ref e ∧ s₁.heap.get? 105 = some clsTx ∧ s₁.heap.get? e = some (excD 105 t dx) ∧ E (.ref e) s₁) E s) :
    wpAny M A (raiseStmt env (some x) none) Q E s := by
  have hcB : (Value.ref 105 :: [.ref 80, .type "Exception", .type "BaseException", .type "object"]).contains (.type "BaseException") = true := by decide
  unfold raiseStmt
  refine wpAny_bind (wpAny_mono h (fun v s₁ h₁ => ?_) fun _ _ x => x)
  obtain ⟨e, t, dx, rfl, hC, he, hE⟩ := h₁
  obtain ⟨hp, g, d, tk, os⟩ := s₁
  repeat (first | with_reducible refine wpAny_loadPart_at he ?_ | with_reducible refine wpAny_loadPart_at hC ?_ | (with_reducible refine wpAny_isSubtype_exc hC ?_; rw [hcB]) | wp_step)
  exact wpAny_raiseNew_none hh hE
noncomputable def TxExc (e t dx : Addr) (h0 : Int) (tk0 tk1 : Tok) : Led := [(e, excD 105 t dx), (dx, dictOf [⟨h0, .str (Str.ofString "word") tk0, .str (Str.ofString "signature") tk1⟩] 1), (t, tupO [.str (Str.ofString "signature") tk1])]
theorem raise_tx {w : World} {loose : List Str} {mean : ExcName → Option Value} {mg mb : Str → Option Value} {dp un : Nat} {gd : Option (List Code)} {cn : Str} {cs : Scope} {a : Addr} {ccd : Value} {outer : List Env} {A₀ : Around} {base h₀ : Heap} {L : Addr} {m : Str → Option Value} {s : Shared} {E : Value → Shared → Prop} {Q : Flow → Shared → Prop} {news : Led} {np cp cpos pos : Pos} {ci : Nat}
    (B : Below A₀ base outer h₀) (F : Fr h₀ L s.heap m) (X : (Mine.hd.heap_1 w.params).In h₀) (N : News h₀ L s.heap news) (T : Top Mine.hd.view_1 loose mean mg mb h₀) (hk : cs.kind = .function) (hd : dp + 5 < recursionLimit) (hu : un + 100 < cLine)
    (exc : ∀ h' e t dx h0 tk0 tk1 k, Fr h₀ L h' m → News h₀ L h' (TxExc e t dx h0 tk0 tk1 ++ news) → (∀ p ∈ news, p.1 ≠ e) → E (.ref e) { s with heap := h', toks := k })
    (hx : (envOf cn cs L a ccd).kindOf (Str.ofString "TxFault") = some .globalImplicit := by rfl) :
    wpAny (model PR w) (ktrTop dp un gd cn cs L a ccd [] outer) (exec (.Raise (some (.Call (.Name (Str.ofString "TxFault") np) [.Constant (.str (Str.ofString "signature")) ci cp] [] cpos)) none pos) (envOf cn cs L a ccd)) Q E s := by
  rw [arm_exec_Raise]
  have hh : (ktrTop dp un gd cn cs L a ccd [] outer).handled = none := rfl
  refine wpAny_bind (wpAny_standAt (ex_raiseStmt hh (wpAny_bind (wpAny_mono (wpAny_Call_ofName (wpAny_mono (name_K (v := .ref 105) (Q := fun v s' => v = .ref 105 ∧ s' = s) F X (topRead_of T) (by k_is) ⟨rfl, rfl⟩ hk hx) (fun f s₁ h₁ => ?_) fun _ _ x => x)) (fun v s₃ h₃ => wpAny_bind (wpAny_standAt (wpAny_pure h₃))) fun _ _ x => x))))
  obtain ⟨rfl, rfl⟩ := h₁
  unfold callWith
  refine wpAny_bind (wpAny_holding (wpAny_mono (Q := fun (ar : Args) s₂ => ∃ tk1 k, ar = ⟨[.str (Str.ofString "signature") tk1], []⟩ ∧ s₂ = { s₁ with toks := k }) ?ar (fun ar s₂ h₂ => wpAny_bind (wpAny_standAt ?_)) fun _ _ x => x))
  case ar =>
    refine Calls.evalArgs_plain ?_
    exact spliced_more (PySem.wpAny_Constant_str (spliced_none ⟨_, _, rfl, rfl⟩)) rfl
  obtain ⟨tk1, k1, rfl, rfl⟩ := h₂
  obtain ⟨hp, g, d, tk, os⟩ := s₁
  dsimp only at F N ⊢
  have hC := tx_cls (X.keeps F.keep)
  refine wpAny_bind (wpAny_keeperOf_exc hC ?_)
  have X' := X.keeps F.keep
  have hi : findIn (Mine.hd.heap_1 w.params) (.ref 105) "__init__" = some (some (.ref 77)) := by k_is
  refine wpAny_bind (ex_call (rest := [.str (Str.ofString "signature") tk1]) PySem.F.excBase_Exception (by decide) (by decide) (by decide) hC X' hi (X' 77 _ (by k_is)) rfl (fun h' e hm => ?_) (by rw [PySem.sizeLine_eq]; exact Nat.le_of_ble_eq_true rfl))
  obtain ⟨t, he, htn, ht⟩ := hm.there
  have F' := F.keptAll hm.keeps
  have hb : ∀ b, hp.get? b = none → h₀.get? b = none := fun b hb => by
    cases q : h₀.get? b with
    | none => rfl
    | some o => have := F.keep b o q; rw [hb] at this; cases this
  have N1 := News.more F' (News.more F' (N.grown hm.keeps) ht (fun es n q => by cases q) (hb _ htn)) he (fun es n q => by cases q) (hb _ hm.new)
  have hoff : ∀ p ∈ (t, tupO [.str (Str.ofString "signature") tk1]) :: news, p.1 ≠ e := List.forall_mem_cons.mpr ⟨fun q => (by have q' : t = e := q; rw [q', he] at ht; cases ht), fun p hp' q => (by have h1 := (N p hp').1; rw [q, hm.new] at h1; cases h1)⟩
  refine Does.use (init_does (news := (t, tupO [.str (Str.ofString "signature") tk1]) :: news) hoff) B F' X (cb_drop N1 (by kcj_all)) T hk ?d ?u fun v n' h2 tk2 hP F2 N2 => ?_
  case d => show (dp + 1) + 3 < _; (first | lia | omega)
  case u =>
    have hc : (Code.builtin "type.__call__" ⟨[.ref 105, .str (Str.ofString "signature") tk1], []⟩).cUnits ≤ 10 := Nat.le_of_ble_eq_true (by first | rfl | kernel_rfl)
    show un + (Code.builtin "type.__call__" ⟨[.ref 105, .str (Str.ofString "signature") tk1], []⟩).cUnits + 60 < cLine
    (first | lia | omega)
  obtain ⟨rfl, t2, dx, h0, tk0, rfl⟩ := hP
  refine ⟨rfl, wpAny_bind (wpAny_holding (wpAny_point (wpAny_pure ⟨e, t2, dx, rfl, tx_cls (X.keeps F2.keep), N2.get (.head _), exc h2 e t2 dx h0 tk0 tk1 tk2 F2 (cb_drop N2 ?_) fun p hp' => hoff p (.tail _ hp')⟩)))⟩
  show ∀ p ∈ (_ :: _ :: _ :: news), _
  kcj_all
noncomputable def DW (h : Heap) (e dx : Addr) : Prop := ∃ o, h.get? e = some o ∧ o.dict = some dx
theorem dict_mapF (f : Array Value → Array Value) (o : Obj) : (Obj.mapFields f o).dict = o.dict := by
  obtain ⟨_, _, dt, _⟩ := o
  cases dt <;> rfl
section
variable {M : Model} {A : Around} {E : Value → Shared → Prop} {s : Shared} {base : Heap} {env : Env} {outer : List Env} {L e dx : Addr} {cls a0 : Value} {Q : Unit → Shared → Prop}
theorem xe_entry {oe : Obj} {vs : Array Value} {head : Value} {hadNext : Bool}
    (hfr : A.frames = some (env :: outer)) (hl : s.heap.FunFrames base (env :: outer)) (hf : env.frame = some L) (he : s.heap.get? e = some oe) (hkb : base.StaysIn s.heap) (hen : base.get? e = none)
    (hd : oe.data = .fields vs) (hsz : 1 < vs.size) (h0 : vs[0]? = some a0) (hdx : oe.dict = some dx)
    (h : ∀ h', Heap.NotedW base (env :: outer) e oe.cls a0 (rawInt L) s.heap h' → DW h' e dx → Q () { s with heap := h' }) :
    wpAny M A (do let a ← frameOf env; let pl ← entryPlaceOf L hadNext; let b ← EntryCells.newEntry head a .none (rawInt L) .none pl; setField (.ref e) 1 b) Q E s := by
  have out : e ∉ (env :: outer).filterMap (·.frame) := fun hm => by
    obtain ⟨_, o, ho, hnf⟩ := hl.mem hm
    rw [he] at ho; cases ho; exact hnf vs hd
  refine wpAny_bind (wpAny_frameOf_fun hfr hl hf fun h₁ hs₁ => wpAny_bind (wpAny_entryPlaceOf fun pl hpl => ?_))
  unfold EntryCells.newEntry newFields
  refine wpAny_bind (wpAny_newObj_type ?_ (hpl.sizeOk5 _ _ _ _ _))
  have e1 : h₁.get? e = some oe := (hs₁.2.1 e out).trans he
  have st : base.StaysIn h₁ := fun b o hbo => (hs₁.2.1 b fun hm => by rw [(hl.mem hm).1] at hbo; cases hbo).trans (hkb b o hbo)
  generalize hT : ({ cls := .type "traceback", dict := none, data := .fields ([head, .ref L, .none, rawInt L, .none] ++ (if pl.isEmpty then List.replicate 6 Value.none else pl)).toArray } : Obj) = oT
  have e2 := Heap.get?_push_of_some (h := h₁) oT e1
  refine wpAny_setField e2 hd hsz ?_
  have ne : h₁.objs.size ≠ e := Nat.ne_of_gt (Heap.lt_size e1)
  have dd := Obj.data_mapFields hd (·.setIfInBounds 1 (Value.ref h₁.objs.size))
  have e3 := Heap.get?_update_self (Obj.mapFields (·.setIfInBounds 1 (Value.ref h₁.objs.size))) e2 (Obj.isFreed_of_fields dd)
  have eT := (Heap.get?_update_other (h₁.push oT) (Obj.mapFields (·.setIfInBounds 1 (Value.ref h₁.objs.size))) (Ne.symm ne)).trans (Heap.get?_push_size h₁ (by rw [← hT]; rfl))
  have keep : ∀ b o, b ≠ e → h₁.get? b = some o → ((h₁.push oT).update e (Obj.mapFields (·.setIfInBounds 1 (Value.ref h₁.objs.size)))).get? b = some o := fun b o hbe hb => by
    rw [Heap.get?_update_other _ _ (Ne.symm hbe)]
    exact Heap.get?_push_of_some _ hb
  have apart : ∀ b o, s.heap.get? b = some o → (∀ vs, o.data ≠ .fields vs) → b ≠ e := fun b o hb hnf q => by
    rw [q, he] at hb; cases hb; exact hnf vs hd
  refine h _ ⟨fun b o hbo => keep b o (fun q => by rw [q, hen] at hbo; cases hbo) (st b o hbo), hl.of_keeps fun b o hb hnf => ?_, ?_, fun b o hb hnf => ?_⟩ ⟨_, e3, (dict_mapF _ _).trans hdx⟩
  · obtain ⟨sl, hs⟩ := hs₁.2.2 b o hb
    exact ⟨_, keep b _ (apart b o hb hnf) hs, rfl⟩
  · refine ⟨_, _, h₁.objs.size, _, _, e3, ⟨Obj.cls_mapFields _ _, by rw [Array.getElem?_setIfInBounds_ne (by decide)]; exact h0⟩, dd, by simp [hsz], st.fresh, ne, eT, by rw [← hT], ?_⟩
    first | (simp; done) | (rcases hpl with rfl | ⟨_, _, _, _, _, _, _, rfl⟩ <;> simp)
  · obtain ⟨sl, hs⟩ := hs₁.2.2 b o hb
    exact ⟨sl, keep b _ (apart b o hb hnf) hs⟩
theorem xe_first {oe : Obj} {vs : Array Value} (hfr : A.frames = some (env :: outer)) (hl : s.heap.FunFrames base (env :: outer)) (hf : env.frame = some L) (he : s.heap.get? e = some oe) (hkb : base.StaysIn s.heap) (hen : base.get? e = none)
    (hd : oe.data = .fields vs) (h1 : vs[1]? = some .none) (h0 : vs[0]? = some a0) (hdx : oe.dict = some dx)
    (h : ∀ h', Heap.NotedW base (env :: outer) e oe.cls a0 (rawInt L) s.heap h' → DW h' e dx → Q () { s with heap := h' }) : wpAny M A (noteFrame (.ref e) env) Q E s := by
  unfold noteFrame
  simp only [hf]
  refine wpAny_bind (wpAny_field he hd h1 ?_)
  rw [if_neg (by decide)]
  exact xe_entry hfr hl hf he hkb hen hd (Array.getElem?_eq_some_iff.mp h1).1 h0 hdx h
theorem xe_on (hfr : A.frames = some (env :: outer)) (hl : s.heap.FunFrames base (env :: outer)) (hf : env.frame = some L) (ht : s.heap.TracedW base e cls a0) (hD : DW s.heap e dx) (hkb : base.StaysIn s.heap) (hen : base.get? e = none)
    (h : ∀ h', Heap.NotedW base (env :: outer) e cls a0 (rawInt L) s.heap h' → DW h' e dx → Q () { s with heap := h' }) : wpAny M A (noteFrame (.ref e) env) Q E s := by
  obtain ⟨oe, vs, T, oT, ts, he, ⟨hcls, h0⟩, hd, h1, hnT, hTe, hT, hdT, h3⟩ := ht
  obtain ⟨o, ho, hdx⟩ := hD
  rw [he] at ho; cases ho
  subst hcls
  unfold noteFrame
  simp only [hf]
  refine wpAny_bind (wpAny_field he hd h1 ?_)
  rw [if_pos (show (Value.ref T != Value.none) = true from by simp)]
  refine wpAny_bind (wpAny_field hT hdT h3 ?_)
  rw [if_neg (show ¬ ((Value.none == rawInt L) = true) from by simp [rawInt])]
  refine wpAny_bind (wpAny_setField hT hdT (Array.getElem?_eq_some_iff.mp h3).1 ?_)
  have other : ∀ b, b ≠ T → (s.heap.update T (Obj.mapFields (·.setIfInBounds 3 Value.none))).get? b = s.heap.get? b := fun b hb => Heap.get?_update_other _ _ (Ne.symm hb)
  have apart : ∀ b o, s.heap.get? b = some o → (∀ vs, o.data ≠ .fields vs) → b ≠ T := fun b o hb hnf q => by
    rw [q, hT] at hb; cases hb; exact hnf ts hdT
  refine xe_entry hfr (hl.of_keeps fun b o hb hnf => ⟨o, (other b (apart b o hb hnf)).trans hb, rfl⟩) hf ((other e (Ne.symm hTe)).trans he)
    (fun b o hbo => (other b fun q => by rw [q, hnT] at hbo; cases hbo).trans (hkb b o hbo)) hen hd (Array.getElem?_eq_some_iff.mp h1).1 h0 hdx
    fun h' ⟨x1, x2, x3, x4⟩ => h h' ⟨x1, x2, x3, fun b o hb hnf => x4 b o ((other b (apart b o hb hnf)).trans hb) hnf⟩
theorem xe_fly {l : List Env} {fl : Value} (hkb : base.StaysIn s.heap) (hl : s.heap.FunFrames base l) (ht : s.heap.TracedAtW base e cls a0 fl) (hD : DW s.heap e dx)
    (h : ∀ h', base.StaysIn h' → h'.FunFrames base l → h'.TracedW base e cls a0 → DW h' e dx → s.heap.UpToSlots h' → Q () { s with heap := h' }) : wpAny M A (setFlight (.ref e) none) Q E s := by
  obtain ⟨oe, vs, T, oT, ts, he, hcls, hd, h1, hnT, hTe, hT, hdT, h3⟩ := ht
  obtain ⟨o, ho, hdx⟩ := hD
  have sz : 3 < ts.size := (Array.getElem?_eq_some_iff.mp h3).1
  have other : ∀ b, b ≠ T → (s.heap.update T (Obj.mapFields (·.setIfInBounds 3 ((none : Option Addr).elim Value.none fun f => rawInt f)))).get? b = s.heap.get? b := fun b hb => Heap.get?_update_other _ _ (Ne.symm hb)
  have apart : ∀ b o, s.heap.get? b = some o → (∀ vs, o.data ≠ .fields vs) → b ≠ T := fun b o hb hnf q => by
    rw [q, hT] at hb; cases hb; exact hnf ts hdT
  unfold setFlight
  refine wpAny_bind (wpAny_field he hd h1 ?_)
  rw [if_pos (show (Value.ref T != Value.none) = true from by simp)]
  refine wpAny_setField hT hdT sz (h _ (fun b o hbo => (other b fun q => by rw [q, hnT] at hbo; cases hbo).trans (hkb b o hbo)) (hl.of_keeps fun b o hb hnf => ⟨o, (other b (apart b o hb hnf)).trans hb, rfl⟩) ?_
    ⟨o, (other e (Ne.symm hTe)).trans ho, hdx⟩ fun b o hb hnf => ⟨o.slots, (other b (apart b o hb hnf)).trans hb⟩)
  exact ⟨oe, vs, T, _, _, (other e (Ne.symm hTe)).trans he, hcls, hd, h1, hnT, hTe, Heap.get?_update_self _ hT (Obj.isFreed_of_fields (Obj.data_mapFields hdT _)), Obj.data_mapFields hdT _, by simp [sz]⟩
theorem xe_leave {oe : Obj} {vs : Array Value} (hfr : A.frames = some (env :: outer)) (hl : s.heap.FunFrames base (env :: outer)) (hf : env.frame = some L) (he : s.heap.get? e = some oe) (hkb : base.StaysIn s.heap) (hen : base.get? e = none)
    (hd : oe.data = .fields vs) (h1 : vs[1]? = some .none) (h0 : vs[0]? = some a0) (hdx : oe.dict = some dx)
    (h : ∀ h', Heap.FlyingW base outer e oe.cls a0 h' → DW h' e dx → s.heap.UpToSlots h' → Q () { s with heap := h' }) : wpAny M A (leaving env (.ref e)) Q E s := by
  unfold leaving
  refine wpAny_bind (xe_first hfr hl hf he hkb hen hd h1 h0 hdx fun h₁ n D₁ => ?_)
  obtain ⟨n1, n2, n3, n4⟩ := n
  refine xe_fly (s := { s with heap := h₁ }) n1 n2 n3 D₁ fun h' k1 k2 k3 D k4 => ?_
  obtain ⟨_, _, k2'⟩ := k2
  exact h h' ⟨k1, hen, k2', k3⟩ D (Heap.UpToSlots.trans n4 k4)
end
noncomputable def RaisedX (base G : Heap) (l : List Env) (e dx : Addr) (news : Led) (h : Heap) : Prop :=
  ∃ B t, base.StaysIn B ∧ (∀ b o, G.get? b = some o → b ∉ l.filterMap (·.frame) → B.get? b = some o) ∧ (∀ q ∈ news, B.get? q.1 = some q.2 ∧ G.get? q.1 = none ∧ base.get? q.1 = none) ∧ Heap.FlyingW B l e (.ref 105) (.ref t) h ∧ DW h e dx
theorem leave_tx {M : Model} {A : Around} {E : Value → Shared → Prop} {s' : Shared} {base g : Heap} {outer : List Env} {L a e t dx : Addr} {m : Str → Option Value} {name : Str} {scope : Scope} {cd : Value} {Q : Unit → Shared → Prop} {news : Led}
    (K : Below A base outer g) (F : Fr g L s'.heap m) (N : News g L s'.heap ((e, excD 105 t dx) :: news)) (hoff : ∀ p ∈ news, p.1 ≠ e)
    (hQ : ∀ h', RaisedX base g outer e dx news h' → g.UpToSlots h' → Q () { s' with heap := h' }) (hk : scope.kind = .function := by rfl) :
    wpAny M (A.deeper (envOf name scope L a cd)) (leaving (envOf name scope L a cd) (.ref e)) Q E s' := by
  have K' := K.push (name := name) (a := a) (cd := cd) F hk
  generalize hfs : (envOf name scope L a cd :: outer).filterMap (·.frame) = fs
  have hin : ∀ env ∈ (envOf name scope L a cd :: outer), ∀ b, env.frame = some b → b ∈ e :: fs := fun env he b hb => .tail _ (hfs ▸ List.mem_filterMap.mpr ⟨env, he, hb⟩)
  have ge : g.get? e = none := N.fresh (.head _)
  have be : base.get? e = none := fresh_of_stays K.stays ge
  have mem : ∀ b, b ∈ fs → b = L ∨ b ∈ outer.filterMap (·.frame) := fun b hb => by rw [← hfs] at hb; exact kts_mem hb
  have st : base.StaysIn (hideAll s'.heap (e :: fs)) := fun b o q => hideAll_get _ (K'.stays b o q) fun hm => by
    rcases List.mem_cons.mp hm with z | hm
    · rw [z, be] at q; cases q
    · rw [(K'.frames.mem (hfs ▸ hm)).1] at q; cases q
  have sg : ∀ b o, g.get? b = some o → b ∉ outer.filterMap (·.frame) → (hideAll s'.heap (e :: fs)).get? b = some o := fun b o q nm => hideAll_get _ (F.keep b o q) fun hm => by
    rcases List.mem_cons.mp hm with z | hm
    · rw [z, ge] at q; cases q
    · rcases mem b hm with z | z
      · rw [z, kts_self F] at q; cases q
      · exact nm z
  have hl : ∀ q ∈ news, (hideAll s'.heap (e :: fs)).get? q.1 = some q.2 ∧ g.get? q.1 = none ∧ base.get? q.1 = none := fun q hq => by
    have n := N q (.tail _ hq)
    refine ⟨hideAll_get _ n.1 fun hm => ?_, n.2.2, fresh_of_stays K.stays n.2.2⟩
    rcases List.mem_cons.mp hm with z | hm
    · exact hoff q hq z
    · rcases mem _ hm with z | z
      · exact n.2.1 z
      · obtain ⟨o, ho, _⟩ := (K.frames.mem z).2
        rw [n.2.2] at ho; cases ho
  refine xe_leave (base := hideAll s'.heap (e :: fs)) (outer := outer) (a0 := .ref t) K'.stack (funFrames_hide K'.frames hin) rfl (N.get (.head _)) (fun b o q => of_hideAll _ q) (hideAll_none _ (.head _)) rfl rfl rfl rfl fun h' f D u => ?_
  exact hQ h' ⟨_, t, st, sg, hl, f, D⟩ ((Heap.UpToSlots.of_keeps F.keep).trans u)
theorem leave_tx2 {M : Model} {A : Around} {E : Value → Shared → Prop} {s' : Shared} {base g : Heap} {outer : List Env} {L a e t dx : Addr} {m : Str → Option Value} {name : Str} {scope : Scope} {cd : Value} {Q : Unit → Shared → Prop} {news : Led} {h0 : Int} {tk0 tk1 : Tok}
    (K : Below A base outer g) (F : Fr g L s'.heap m) (N : News g L s'.heap (TxExc e t dx h0 tk0 tk1 ++ news)) (hoff : ∀ p ∈ news, p.1 ≠ e)
    (hQ : ∀ h', RaisedX base g outer e dx ((dx, dictOf [⟨h0, .str (Str.ofString "word") tk0, .str (Str.ofString "signature") tk1⟩] 1) :: news) h' → g.UpToSlots h' → Q () { s' with heap := h' }) (hk : scope.kind = .function := by rfl) :
    wpAny M (A.deeper (envOf name scope L a cd)) (leaving (envOf name scope L a cd) (.ref e)) Q E s' := by
  have he := N.get (a := e) (.head _)
  have hdx := N.get (a := dx) (.tail _ (.head _))
  refine leave_tx (t := t) (news := (dx, dictOf [⟨h0, .str (Str.ofString "word") tk0, .str (Str.ofString "signature") tk1⟩] 1) :: news) K F (cb_drop N ?_) (List.forall_mem_cons.mpr ⟨fun q => ?_, hoff⟩) hQ hk
  · intro p hp
    rcases List.mem_cons.mp hp with rfl | hp
    · exact .head _
    · rcases List.mem_cons.mp hp with rfl | hp
      · exact .tail _ (.head _)
      · exact .tail _ (.tail _ (.tail _ hp))
  · have q' : dx = e := q
    rw [q', he] at hdx; cases hdx
theorem caught_tx {w : World} {A₀ : Around} {E : Value → Shared → Prop} {s' : Shared} {base g G : Heap} {outer : List Env} {L a e dx : Addr} {m : Str → Option Value} {name : Str} {scope : Scope} {cd : Value}
    {n : Str} {b₀ : Stmt} {suite : List Stmt} {pos np : Pos} {rest : List ExceptHandler} {Q : Flow → Shared → Prop} {news : Led} {loose : List Str} {mean : ExcName → Option Value} {mg mb : Str → Option Value}
    (R : RaisedX base G (envOf name scope L a cd :: outer) e dx news s'.heap) (F : Fr g L G m) (K : Below A₀ base outer g) (hsm : G.UpToSlots s'.heap) (XB : (Mine.hd.heap_1 w.params).In base) (TB : Top Mine.hd.view_1 loose mean mg mb base)
    (k : ∀ h' g' oe vs tk, KtsTurn (outer.filterMap (·.frame)) g g' → Fr g' L h' (fun y => if y = n then some (.ref e) else m y) → News g' L h' ((e, oe) :: news) → oe.cls = .ref 105 → oe.dict = some dx → oe.data = .fields vs → Below A₀ base outer g' → (Mine.hd.heap_1 w.params).In g' → Top Mine.hd.view_1 loose mean mg mb g' →
      wpAny (model PR w) ((A₀.deeper (envOf name scope L a cd)).mark (some (.ref e))) (execs (b₀ :: suite) (envOf name scope L a cd))
        (fun f s₄ => wpAny (model PR w) (A₀.deeper (envOf name scope L a cd)) (do bindName (envOf name scope L a cd) n .none; unbindBehindTheSuite (envOf name scope L a cd) n pos) (fun _ s₅ => Q f s₅) E s₄)
        (AsSuiteRaised (model PR w) ((A₀.deeper (envOf name scope L a cd)).mark (some (.ref e))) (envOf name scope L a cd) n pos (notedBy (model PR w) ((A₀.deeper (envOf name scope L a cd)).mark (some (.ref e))) (envOf name scope L a cd) (cameBackBy (model PR w) (A₀.deeper (envOf name scope L a cd)) (envOf name scope L a cd) E)))
        { s' with heap := h', toks := tk })
    (hk : scope.kind = .function := by rfl) (hlo : (envOf name scope L a cd).kindOf n = some .local := by rfl) (hx : (envOf name scope L a cd).kindOf (Str.ofString "TxFault") = some .globalImplicit := by rfl) :
    wpAny (model PR w) (A₀.deeper (envOf name scope L a cd)) (noteFrame (.ref e) (envOf name scope L a cd))
      (fun _ s₂ => wpAny (model PR w) (A₀.deeper (envOf name scope L a cd)) (setFlight (.ref e) none) (fun _ s₃ =>
        wpAny (model PR w) (A₀.deeper (envOf name scope L a cd)) (handleBy (.ref e) (envOf name scope L a cd) (.ExceptHandler (some (.Name (Str.ofString "TxFault") np)) (some n) (b₀ :: suite) pos :: rest)) Q E s₃) E s₂) E s' := by
  refine cpsG fun GG kG => ?_
  obtain ⟨B, t, hB, hBG, hl, ⟨f1, f2, f3, f4⟩, hD⟩ := R
  refine kG ?_
  clear kG GG
  have hL : B.get? L = none := by
    obtain ⟨_, ⟨L', _, hf, hn', _⟩, _⟩ := f3
    obtain rfl : L = L' := Option.some.inj hf
    exact hn'
  refine xe_on (Around.frames_deeper K.stack) f3 rfl f4 hD f1 f2 fun h₄ n4 D4 => ?_
  refine xe_fly (s := { s' with heap := h₄ }) n4.1 n4.2.1 n4.2.2.1 D4 fun h₅ c1 c2 c3 D5 c4 => ?_
  have hsm₅ : s'.heap.UpToSlots h₅ := Heap.UpToSlots.trans n4.2.2.2 c4
  refine ex3 (kts_ground K F hBG c1 (hsm.trans hsm₅)) fun g₅ T₅ F₅ K₅ => ?_
  have X₅ : (Mine.hd.heap_1 w.params).In g₅ := XB.keeps K₅.stays
  have P₅ : TopRead Mine.hd.view_1 loose mg mb g₅ := topRead_of (TB.keeps K₅.stays)
  refine ex2 (Heap.TracedW.at c3).there fun ob hob hobc => ?_
  refine wpAny_handleBy_cons (codeAny_handlers_test (name_K (v := .ref 105) F₅ X₅ P₅ (by k_is) ?_ hk hx)) (by intro q; cases q)
  refine wpAny_excMatches_sub_self (tx_cls (X₅.keeps F₅.keep)) hob hobc (by decide) (codeAny_handlers_suite_as ?_)
  refine xe_fly (s := { s' with heap := h₅ }) c1 c2 (Heap.TracedW.at c3) D5 fun h₆ d1 d2 d3 D6 d4 => ?_
  refine ex3 (kts_ground K F hBG d1 ((hsm.trans hsm₅).trans d4)) fun g₆ T₆ F₆ K₆ => ?_
  refine cpsG fun GG kG => ?_
  obtain ⟨oe, vs, _, _, _, hoe, ⟨hoec, _⟩, hoed, _⟩ := d3
  obtain ⟨oe', hoe', hdx⟩ := D6
  rw [hoe] at hoe'; cases hoe'
  refine kG ?_
  clear kG GG
  have ne₆ : g₆.get? e = none := T₆.none_ _ (kts_fresh F hBG f2 fun o ho m => by
    obtain ⟨_, o', ho', hd⟩ := K.frames.mem m
    rw [ho] at ho'
    cases ho'
    obtain ⟨sl, hs⟩ := ((hsm.trans hsm₅).trans d4) _ _ (F.keep _ _ ho) hd
    rw [hoe] at hs
    cases hs
    exact hd _ hoed)
  have Nl : News g₆ L h₆ news := fun q hq => ⟨d1 _ _ (hl q hq).1, (fun z => by have := (hl q hq).1; rw [z, hL] at this; cases this), T₆.none_ _ (kts_none F.keep (hl q hq).2.1)⟩
  have N₆ := News.more F₆ Nl hoe (fun es n q => by rw [hoed] at q; cases q) ne₆
  refine stN F₆ N₆ (fun h₇ F₇ N₇ => ?_) hk hlo
  exact k h₇ g₆ oe vs _ T₆ F₇ N₇ hoec hdx hoed K₆ (XB.keeps K₆.stays) (TB.keeps K₆.stays)
theorem ex_get {w : World} {A : Around} {E : Value → Shared → Prop} {h : Heap} {g : Array GenState} {d : Drawn} {t : Nat} {os : OsState} {e dx : Addr} {oe : Obj} {vs : Array Value} {h0 : Int} {tk0 tk1 : Tok} {sg : Str} {Q : Value → Shared → Prop}
    (X : (Mine.hd.heap_1 w.params).In h) (he : h.get? e = some oe) (hc : oe.cls = .ref 105) (hdx : oe.dict = some dx) (hnc : oe.data = .fields vs) (hd : h.get? dx = some (dictOf [⟨h0, .str (Str.ofString "word") tk0, .str sg tk1⟩] 1))
    (hq : Q (.str sg tk1) ⟨h, g, d, t + 1, os⟩) : wpAny (model PR w) A (getAttr (.ref e) (Str.ofString "word") true) Q E ⟨h, g, d, t, os⟩ := by
  have I : InstAt h e oe 105 (some (dictOf [⟨h0, .str (Str.ofString "word") tk0, .str sg tk1⟩] 1)) := ⟨he, hc, by unfold notCls; rw [hnc], by rw [hdx]; exact hd⟩
  have hh : hasDictIn (Mine.hd.heap_1 w.params) 105 = true := by k_is
  have hw : findIn (Mine.hd.heap_1 w.params) (.ref 105) (Str.ofString "word") = some none := by k_is
  have hga : findIn (Mine.hd.heap_1 w.params) (.ref 105) "__getattribute__" = some (some (.builtin "BaseException.__getattribute__")) := by k_is
  have hgt : findIn (Mine.hd.heap_1 w.params) (.ref 105) "__getattr__" = some none := by k_is
  have hl : lookIn (Str.ofString "word") (dictOf [⟨h0, .str (Str.ofString "word") tk0, .str sg tk1⟩] 1) = some (some (.str sg tk1)) := by with_unfolding_all rfl
  have hf := looks_find (M := model PR w) X I (findObj_own hh hw rfl hl)
  have hx2 : (Value.builtin "BaseException.__getattribute__" == Value.builtin "object.__getattribute__") = false := by decide +kernel
  have hx1 : (onTheHeap (Value.ref 105) && Value.builtin "BaseException.__getattribute__" == Value.builtin "object.__getattribute__") = false := by rw [hx2]; rfl
  have f3 := PySem.F.attr_Exception.ga.bind (.ref e)
  have hx0 : (true && onTheHeap (Value.builtin "BaseException.__getattribute__")) = false := rfl
  unfold getAttr getAttrBy
  refine wpAny_bind (wpAny_mkText (wpAny_holding (wpAny_bind (I.type.here (s := ⟨h, g, d, t + 1, os⟩) (wpAny_bind ((looks_findIn X hga).here (s := ⟨h, g, d, t + 1, os⟩) ?_))))))
  dsimp only
  rw [if_neg (by rw [hx1]; decide)]
  unfold getAttrByItsOwn hookBefore
  refine wpAny_bind ?_
  rw [if_pos (show onTheHeap (Value.ref 105) = true from rfl)]
  refine (looks_findIn X hgt).here (s := ⟨h, g, d, t + 1, os⟩) ?_
  unfold callGetattribute
  rw [if_neg (by rw [hx0]; decide)]
  unfold boundAndCalled
  rw [f3]
  have hC := tx_cls X
  have hcB : (Value.ref 105 :: [.ref 80, .type "Exception", .type "BaseException", .type "object"]).contains (.type "BaseException") = true := by decide
  repeat (any_goals (first | assumption | wp_step))
  refine codeAny_call_builtin PySem.F.attr_Exception.ga.plain PySem.F.entry_bexc_ga ?_
  have hk : builtinKind "BaseException.__getattribute__" = some .slot := by decide +kernel
  have hsplit : splitId "BaseException.__getattribute__" = some ("BaseException", "__getattribute__") := by decide +kernel
  have ha := PySem.F.args_bexc_ga (.ref e) (.str (Str.ofString "word") t)
  simp only [checkBuiltinCall, hk, hsplit]
  refine wpAny_bind ?_
  unfold isInstance
  repeat (first | (with_reducible refine wpAny_loadPart_at he ?_; rw [hc]) | (with_reducible refine wpAny_isSubtype_exc hC ?_; rw [hcB]) | wp_step)
  refine (looks_findIn X hw).here (s := ⟨h, g, d, t + 1, os⟩) ?_
  obtain ⟨oc, od, oda, osl⟩ := oe
  dsimp only at hc hdx hnc
  subst hc hdx hnc
  repeat (first | with_reducible refine wpAny_loadPart_at he ?_ | with_reducible refine wpAny_loadPart_at hC ?_ | wp_step)
  exact hq
end
noncomputable section
set_option tactic.hygienic false
theorem no_some {α : Type} {a : α} {G : Prop} (h : none = some a) : G := by cases h
theorem no_ft {G : Prop} (h : false = true) : G := absurd h Bool.false_ne_true
set_option genInjectivity false
set_option genSizeOf false
set_option genSizeOfSpec false
inductive V where
  | un | none | bool (b : Bool) | int (n : Int) | bytes (b : List UInt8) | str (s : Str)
  | tup (l : List V) | list (l : List V) | inst (C : Addr) (l : List V) | raw (v : Value)
inductive X where
  | var (i : Nat) | glb (j : Nat)
  | cint (n : Int) | cbytes (b : List UInt8) | cstr (j : Nat) | cnone | cbool (b : Bool)
  | bin (op : Operator) (a b : X) | neg (a : X) | not (a : X)
  | cmp (op : CmpOp) (a b : X) | cmp2 (o1 o2 : CmpOp) (a b c : X)
  | band (a b : X) | bor (a b : X) | ife (c a b : X)
  | call (j : Nat) (as : X) | meth (o : X) (j : Nat) (as : X)
  | attr (o : X) (j : Nat) | sub (o i : X) | slb (o : X) (n : Nat) | slt (o : X) (n : Nat) | frb (as : X)
  | tup (as : X) | lst (as : X) | own (as : X) | dct | map (j : Nat) (e : X) | flt (j : Nat) (e : X)
  | nil | cons (a as : X)
inductive T where
  | done | asg (i : Nat) (e : X) (k : T) | asgT (sw : Bool) (is : List Nat) (e : X) (k : T) | asgN (is js : List Nat) (e : X) (k : T) | ret (e : X) | retF (j : Nat) (e : X)
  | ife (c : X) (a b k : T) | expr (e : X) (k : T) | dead | exc
  | whl (c : X) (b k : T) | forV (is : List Nat) (e : X) (b k : T) | forR (lo i : Nat) (e : X) (b k : T)
  | setI (i n : Nat) (e : X) (k : T) | setII (i n1 n2 : Nat) (e : X) (k : T) | app (i : Nat) (e : X) (k : T) | setA (i j : Nat) (e : X) (k : T)
/-- names of attributes and methods -/
noncomputable def atN (j : Nat) : Str := Str.ofString (["p", "b", "g", "n", "known", "kind", "chain", "nonce", "priority", "cap", "limit", "target", "value", "data", "access", "signature", "digest", "curve", "most_depth", "most_code", "number", "of", "doubled", "added", "times", "lifted", "to_bytes", "bit_length"].getD j "")
noncomputable def cTab : List (Addr × List Nat) := [(52, [4]), (194, [0, 1, 2, 3]), (285, [5, 6, 7, 8, 9, 10, 11, 12, 13, 14, 15]), (358, [16, 17, 6, 18, 19])]
noncomputable def mTab : List ((Addr × Nat) × Addr) := [((52, 20), 42), ((52, 21), 49), ((194, 22), 170), ((194, 23), 177), ((194, 24), 184), ((194, 25), 191)]
noncomputable def stN (j : Nat) : Str := Str.ofString (["big", "little", "signature", "no address"].getD j "")
/-- the module's names that the code reads -/
noncomputable def gtab : List (String × V × Bool) := [
  ("LEAST_ADDRESS", .int 605153021707326989568713251046585937826284568576, false), ("SPREAD", .int 281479271743489, false), ("WORD", .int 115792089237316195423570985008687907853269984665640564039457584007913129639936, false),
  ("ADDRESSES", .int 1461501637330902918203684832716283019655932542976, false), ("OCTETS_words", .int 32, false), ("MOST", .int 1461501637330902918203684832716283019655932542976, false),
  ("OCTETS_rlp", .int 128, false), ("LIST", .int 192, false), ("SHORT", .int 55, false), ("DEEPEST", .int 60, false), ("LONG", .int 18446744073709551616, false), ("MOST_DEPTH", .int 100, false),
  ("word_of", .raw (.ref 63), false), ("led", .raw (.ref 114), false), ("word_octets", .raw (.ref 121), false), ("address_of", .raw (.ref 128), false), ("address_octets", .raw (.ref 135), false), ("address_of_point", .raw (.ref 142), false),
  ("Curve", .raw (.ref 194), false), ("wide_doubled", .raw (.ref 205), false), ("wide_added", .raw (.ref 212), false), ("narrowed", .raw (.ref 219), false), ("signature", .raw (.ref 226), false), ("recovered", .raw (.ref 233), false), ("small_curve", .raw (.ref 240), false),
  ("number_octets", .raw (.ref 247), false), ("head", .raw (.ref 254), false), ("encoded_at", .raw (.ref 261), false), ("encoded", .raw (.ref 268), false), ("Transaction", .raw (.ref 285), false), ("with_signature", .raw (.ref 296), false),
  ("need_form", .raw (.ref 303), false), ("access_item", .raw (.ref 308), false), ("item_of", .raw (.ref 313), false), ("kind_octets", .raw (.ref 320), false), ("signing_octets", .raw (.ref 327), false), ("signed", .raw (.ref 334), false), ("sender", .raw (.ref 341), false),
  ("Setting", .raw (.ref 358), false), ("_law_draw", .raw (.ref 369), false), ("_law_one", .raw (.ref 376), false), ("_law_inverses", .raw (.ref 383), false), ("_law_multiples", .raw (.ref 390), false), ("_law_home", .raw (.ref 397), false), ("_law_drawn", .raw (.ref 404), false),
  ("_law_changed", .raw (.ref 411), false), ("_law_tx", .raw (.ref 418), false), ("_law_fields", .raw (.ref 425), false), ("_law_word", .raw (.ref 432), false), ("_law_signed", .raw (.ref 439), false), ("_law_who", .raw (.ref 446), false), ("Numbered", .raw (.ref 52), false),
  ("pow", .raw (.builtin "pow"), true), ("len", .raw (.builtin "len"), true), ("isinstance", .raw (.builtin "isinstance"), true), ("bytes", .raw (.type "bytes"), true), ("list", .raw (.type "list"), true), ("int", .raw (.type "int"), true), ("range", .raw (.type "range"), true)]
noncomputable def gtL (j : Nat) : String × V × Bool := gtab.getD j ("", .un, false)
noncomputable def vOf (v : Value) (d : V) : Bool := match d with
  | .int n => (match v with | .int m _ => m == n | _ => false)
  | .raw u => v == u
  | _ => false
noncomputable def gchk (K : Frag) (p : String × V × Bool) : Bool :=
  !(Str.ofString p.1 == ("__debug__" : Str)) && (match p.2.2 with
  | false => (match nsIn K mainGlobals (Str.ofString p.1) with | some (some v) => vOf v p.2.1 | _ => false) && (match p.2.1 with | .raw v => keepIn K v | _ => true)
  | true => nsIn K mainGlobals (Str.ofString p.1) == some none && !(Str.ofString p.1 == ("__name__" : Str)) && (match p.2.1 with | .raw v => bootBuiltins (Str.ofString p.1) == some v && (match v with | .builtin _ => true | .type _ => true | _ => false) | _ => false))
theorem gtab_ok (P : Params) : (gtab.all (gchk (Mine.hd.heap_1 P))) = true := by rfl
set_option genInjectivity false
set_option genSizeOf false
set_option genSizeOfSpec false
noncomputable def Ents : List Nat → List Value → List DictEntry → Prop
  | [], [], [] => True
  | j :: js, v :: vs, e :: es => (∃ (h : Int) (t : Tok), e = ⟨h, .str (atN j) t, v⟩) ∧ Ents js vs es
  | _, _, _ => False
mutual
inductive Rp (n : Led) : Value → V → Prop
  | none : Rp n .none .none
  | bool (b : Bool) : Rp n (.bool b) (.bool b)
  | int (i : Int) (t : Tok) : Rp n (.int i t) (.int i)
  | bytes (b : List UInt8) (t : Tok) : Rp n (.bytes b.toArray t) (.bytes b)
  | str (x : Str) (t : Tok) : Rp n (.str x t) (.str x)
  | tup {a : Addr} {vs : List Value} {ds : List V} : (a, tupO vs) ∈ n → Rps n vs ds → Rp n (.ref a) (.tup ds)
  | list {a : Addr} {vs : List Value} {k : Nat} {ds : List V} : (a, listOf vs.toArray k) ∈ n → Rps n vs ds → Rp n (.ref a) (.list ds)
  | inst {x dx C : Addr} {vs : List Value} {es : List DictEntry} {k : Nat} {ds : List V} : (x, instO C dx) ∈ n → (dx, dictOf es k) ∈ n → (∃ fs, cTab.lookup C = some fs ∧ Ents fs vs es ∧ ∀ v ∈ vs, handedIn v = true) → Rps n vs ds → Rp n (.ref x) (.inst C ds)
  | raw (v : Value) : Rp n v (.raw v)
inductive Rps (n : Led) : List Value → List V → Prop
  | nil : Rps n [] []
  | cons {v : Value} {vs : List Value} {d : V} {ds : List V} : Rp n v d → Rps n vs ds → Rps n (v :: vs) (d :: ds)
end
noncomputable def RpT (o : Obj) : Prop := (∃ vs, o = tupO vs) ∨ (∃ vs k, o = listOf vs k) ∨ (∃ C dx, o = instO C dx) ∨ ∃ es k, o = dictOf es k
theorem rp_mono' {n n' : Led} (hs : ∀ p ∈ n, RpT p.2 → p ∈ n') {v : Value} {d : V} (h : Rp n v d) : Rp n' v d :=
  Rp.rec (motive_1 := fun v d _ => Rp n' v d) (motive_2 := fun vs ds _ => Rps n' vs ds) .none .bool .int .bytes .str
    (fun m _ ih => .tup (hs _ m (.inl ⟨_, rfl⟩)) ih) (fun m _ ih => .list (hs _ m (.inr (.inl ⟨_, _, rfl⟩))) ih)
    (fun m1 m2 m3 _ ih => .inst (hs _ m1 (.inr (.inr (.inl ⟨_, _, rfl⟩)))) (hs _ m2 (.inr (.inr (.inr ⟨_, _, rfl⟩)))) m3 ih) .raw .nil (fun _ _ a b => .cons a b) h
theorem rps_mono' {n n' : Led} (hs : ∀ p ∈ n, RpT p.2 → p ∈ n') : ∀ {vs : List Value} {ds : List V}, Rps n vs ds → Rps n' vs ds := by
  intro vs
  induction vs with
  | nil => intro ds h; cases h; exact .nil
  | cons v vs ih => intro ds h; cases h with | cons a b => exact .cons (rp_mono' hs a) (ih b)
theorem Rp.mono {n n' : Led} (hs : ∀ p ∈ n, p ∈ n') {v : Value} {d : V} (h : Rp n v d) : Rp n' v d := rp_mono' (fun p hp _ => hs p hp) h
theorem Rps.mono {n n' : Led} (hs : ∀ p ∈ n, p ∈ n') {vs : List Value} {ds : List V} (h : Rps n vs ds) : Rps n' vs ds := rps_mono' (fun p hp _ => hs p hp) h
theorem Rps.length {n : Led} : ∀ {vs : List Value} {ds : List V}, Rps n vs ds → vs.length = ds.length := by
  intro vs
  induction vs with
  | nil => intro ds h; cases h; rfl
  | cons v vs ih => intro ds h; cases h with | cons a b => exact congrArg (· + 1) (ih b)
theorem Rps.get {n : Led} : ∀ {vs : List Value} {ds : List V} {i : Nat} {d : V}, Rps n vs ds → ds[i]? = some d → ∃ v, vs[i]? = some v ∧ Rp n v d := by
  intro vs
  induction vs with
  | nil => intro ds i d h e; cases h; cases e
  | cons v vs ih => intro ds i d h e; cases h with
    | cons a b => cases i with
      | zero => cases e; exact ⟨_, rfl, a⟩
      | succ i => exact ih (i := i) b e
inductive Cell where
  | lst (a : Addr) (l : List V) | ins (x C : Addr) (js : List Nat) (l : List V) | obj (p : Addr × Obj)
noncomputable abbrev Mu := List Cell
noncomputable def CR (imm : Led) (c : Cell) (n : Led) : Prop := match c with
  | .lst a l => ∃ vs k, n = [(a, listOf vs.toArray k)] ∧ Rps imm vs l
  | .ins x C js l => ∃ dx vs es k, n = [(x, instO C dx), (dx, dictOf es k)] ∧ Ents js vs es ∧ (∀ v ∈ vs, handedIn v = true) ∧ Rps imm vs l
  | .obj p => n = [p]
inductive MR (imm : Led) : Mu → Led → Prop
  | nil : MR imm [] []
  | cons {c : Cell} {μ : Mu} {n1 n2 : Led} : CR imm c n1 → MR imm μ n2 → MR imm (c :: μ) (n1 ++ n2)
theorem CR.mono {n n' : Led} (hs : ∀ p ∈ n, RpT p.2 → p ∈ n') {c : Cell} {l : Led} (h : CR n c l) : CR n' c l := by
  cases c with
  | lst a d => obtain ⟨vs, k, e, r⟩ := h; exact ⟨vs, k, e, rps_mono' hs r⟩
  | ins x C js d => obtain ⟨dx, vs, es, k, e, a, b, r⟩ := h; exact ⟨dx, vs, es, k, e, a, b, rps_mono' hs r⟩
  | obj p => exact h
theorem MR.mono {n n' : Led} (hs : ∀ p ∈ n, RpT p.2 → p ∈ n') {μ : Mu} {l : Led} (h : MR n μ l) : MR n' μ l := by
  induction h with
  | nil => exact .nil
  | cons a _ ih => exact .cons (a.mono hs) ih
structure FC where
  w : World
  k : Nat
  ns : List Str
  loose : List Str
  mean : ExcName → Option Value
  mg : Str → Option Value
  mb : Str → Option Value
  dp : Nat
  un : Nat
  gd : Option (List Code)
  cn : Str
  cs : Scope
  a : Addr
  ccd : Value
  outer : List Env
  A₀ : Around
  base : Heap
  h₀ : Heap
  L : Addr
noncomputable abbrev FC.A (c : FC) : Around := ktrTop c.dp c.un c.gd c.cn c.cs c.L c.a c.ccd [] c.outer
noncomputable abbrev FC.env (c : FC) : Env := envX c.cn c.cs c.L c.a c.ccd []
noncomputable abbrev FC.M (c : FC) : Model := model PR c.w
noncomputable abbrev FC.K (c : FC) : Frag := Mine.hd.heap_1 c.w.params
structure FC.Ok (c : FC) (k : Nat) : Prop where
  B : Below c.A₀ c.base c.outer c.h₀
  X : c.K.In c.h₀
  T : Top Mine.hd.view_1 c.loose c.mean c.mg c.mb c.h₀
  kind : c.cs.kind = .function
  hd : c.dp + 2 * k < recursionLimit
  hu : c.un + 40 * k + 40 < cLine
  top : 60 ≤ k → c.outer = []
theorem FC.Ok.mono {c : FC} {k k' : Nat} (h : c.Ok k) (hk : k' ≤ k) : c.Ok k' :=
  ⟨h.B, h.X, h.T, h.kind, Nat.lt_of_le_of_lt (Nat.add_le_add_left (Nat.mul_le_mul_left _ hk) _) h.hd, Nat.lt_of_le_of_lt (Nat.add_le_add_right (Nat.add_le_add_left (Nat.mul_le_mul_left _ hk) _) _) h.hu, fun q => h.top (Nat.le_trans q hk)⟩
noncomputable def Apart (ml imm : Led) : Prop := (ml.map (·.1)).Nodup ∧ ∀ p ∈ ml, ∀ q ∈ imm, p.1 ≠ q.1
/-- a place: cells that turn, ledger that stays, state -/
structure Po where
  μ : Mu
  imm : Led
  s : Shared
structure NW (c : FC) (h : Heap) (μ : Mu) (imm ml : Led) : Prop where
  r : MR imm μ ml
  n : News c.h₀ c.L h (ml ++ imm)
  ap : Apart ml imm
noncomputable abbrev Po.new (a : Po) (D : Addr) (o : Obj) (h : Heap) (tk : Nat) : Po := ⟨a.μ, (D, o) :: a.imm, { a.s with heap := h, toks := tk }⟩
/-- from place a to place b in a frame whose locals are m -/
structure Nx (c : FC) (m : Str → Option Value) (a b : Po) : Prop where
  hs : ∀ p ∈ a.imm, p ∈ b.imm
  F : Fr c.h₀ c.L b.s.heap m
  N : ∃ ml, NW c b.s.heap b.μ b.imm ml
  e : b.s = { a.s with heap := b.s.heap, toks := b.s.toks }
theorem Nx.trans {c : FC} {m m' : Str → Option Value} {a b d : Po} (x : Nx c m a b) (y : Nx c m' b d) : Nx c m' a d :=
  ⟨fun p hp => y.hs p (x.hs p hp), y.F, y.N, by rw [y.e, x.e]⟩
noncomputable def Ev {α β : Type} (R : Led → α → β → Prop) (c : FC) (m : Str → Option Value) (a : Po) (t : Sem α) (Q : β → Mu → Prop) : Prop :=
  ∀ (Q' : α → Shared → Prop) (E' : Value → Shared → Prop), (∀ v d b, Q d b.μ → R b.imm v d → Nx c m a b → Q' v b.s) → wpAny c.M c.A t Q' E' a.s
structure CallOK (w : World) (k : Nat) (f : Value) (args : List V) (μ : Mu) (Q : V → Mu → Prop) : Prop where
  go : ∀ (c : FC) (m : Str → Option Value) (a : Po) (vs : List Value), c.w = w → c.Ok k → a.μ = μ → Nx c m a a → Rps a.imm vs args → Ev Rp c m a (call f vs) Q
theorem CallOK.mono {w : World} {k k' : Nat} {f : Value} {args : List V} {μ : Mu} {Q : V → Mu → Prop} (h : CallOK w k f args μ Q) (hk : k ≤ k') : CallOK w k' f args μ Q :=
  ⟨fun c m a vs hw ok hm N R => h.go c m a vs hw (ok.mono hk) hm N R⟩
theorem CallOK.cons {w : World} {k : Nat} {f : Value} {args : List V} {μ : Mu} {Q Q2 : V → Mu → Prop} (h : CallOK w k f args μ Q) (hq : ∀ v μ', Q v μ' → Q2 v μ') : CallOK w k f args μ Q2 :=
  ⟨fun c m a vs hw ok hm N R Q' E' post => h.go c m a vs hw ok hm N R Q' E' fun v d b q => post v d b (hq _ _ q)⟩
noncomputable def lget : List V → Nat → V
  | [], _ => .un
  | v :: _, 0 => v
  | _ :: l, i + 1 => lget l i
noncomputable def lset : List V → Nat → V → List V
  | [], _, _ => []
  | _ :: l, 0, x => x :: l
  | v :: l, i + 1, x => v :: lset l i x
noncomputable def brq (t : Bool) (P R : Prop) : Prop := match t with
  | true => P
  | false => R
noncomputable def truthQ (v : V) (K : Bool → Prop) : Prop := match v with
  | .bool b => K b
  | _ => False
noncomputable def listQ (v : V) (K : List V → Prop) : Prop := match v with
  | .list l => K l
  | _ => False
noncomputable def tupQ (v : V) (K : List V → Prop) : Prop := match v with
  | .tup l => K l
  | _ => False
noncomputable def bytQ (v : V) (K : List UInt8 → Prop) : Prop := match v with
  | .bytes l => K l
  | _ => False
noncomputable def intQ (v : V) (K : Int → Prop) : Prop := match v with
  | .int l => K l
  | _ => False
noncomputable def smallI (a : Int) : Prop := -4611686018427387904 ≤ a ∧ a ≤ 4611686018427387904
structure mulQ (a b : Int) (K : V → Prop) : Prop where
  small : smallI a ∨ smallI b
  go : K (.int (a * b))
structure modQ (a b : Int) (K : V → Prop) : Prop where
  pos : 0 < b
  go : ∀ r, r = a.fmod b → 0 ≤ r → r < b → K (.int r)
noncomputable def binI (op : Operator) (a b : Int) (K : V → Prop) : Prop := match op with
  | .Add => K (.int (a + b))
  | .Sub => K (.int (a - b))
  | .Mult => mulQ a b K
  | .Mod => modQ a b K
  | .FloorDiv => (0 < b ∧ smallI b) ∧ K (.int (a.fdiv b))
  | .RShift => 0 ≤ b ∧ K (.int (a.fdiv (2 ^ b.toNat)))
  | .BitAnd => K (.int (Builtin.bitAnd a b))
  | .LShift => (0 ≤ b ∧ b ≤ 1000 ∧ a.natAbs < 2 ^ 64) ∧ K (.int (a * 2 ^ b.toNat))
  | .Pow => (0 ≤ b ∧ b ≤ 1000 ∧ a.natAbs < 2 ^ 64) ∧ K (.int (a ^ b.toNat))
  | _ => False
noncomputable def isAdd (op : Operator) (P : Prop) : Prop := match op with
  | .Add => P
  | _ => False
noncomputable def binQ (op : Operator) (x y : V) (K : V → Prop) : Prop := match x with
  | .int a => intQ y fun b => binI op a b K
  | .bytes a => bytQ y fun b => isAdd op ((a.length ≤ 100000 ∧ b.length ≤ 100000) ∧ K (.bytes (a ++ b)))
  | .list a => listQ y fun b => isAdd op ((a.length ≤ 100 ∧ b.length ≤ 100) ∧ K (.list (a ++ b)))
  | _ => False
noncomputable def isNone (x : V) (K : Bool → Prop) : Prop := match x with
  | .none => K true
  | .un => False
  | .raw _ => False
  | _ => K false
noncomputable def all2 (f : V → V → Bool) : List V → List V → Bool
  | [], [] => true
  | x :: xs, y :: ys => f x y && all2 f xs ys
  | _, _ => false
noncomputable def zipA (f : V → V → Bool) : List V → List V → Bool
  | x :: xs, y :: ys => f x y && zipA f xs ys
  | _, _ => true
noncomputable def veq : Nat → V → V → Bool
  | 0, x, y => (match x, y with
    | .none, .none => true
    | .int a, .int b => decide (a = b)
    | .bytes a, .bytes b => decide (a = b)
    | _, _ => false)
  | n + 1, x, y => (match x, y with
    | .tup a, .tup b => all2 (veq n) a b
    | .list a, .list b => all2 (veq n) a b
    | x, y => veq n x y)
noncomputable def cmpOK : Nat → V → V → Bool
  | 0, x, y => (match x, y with
    | .none, .none => true
    | .none, .int _ => true
    | .int _, .none => true
    | .int _, .int _ => true
    | .bytes _, .bytes _ => true
    | _, _ => false)
  | n + 1, x, y => (match x, y with
    | .tup a, .tup b => zipA (cmpOK n) a b
    | .list a, .list b => zipA (cmpOK n) a b
    | x, y => cmpOK n x y)
noncomputable def cmpI (op : CmpOp) (a b : Int) (K : Bool → Prop) : Prop := match op with
  | .Eq => K (decide (a = b))
  | .NotEq => K (!decide (a = b))
  | .Lt => K (decide (a < b))
  | .LtE => K (decide (a ≤ b))
  | .Gt => K (decide (b < a))
  | .GtE => K (decide (b ≤ a))
  | _ => False
noncomputable def noneQ (y : V) (P : Prop) : Prop := match y with
  | .none => P
  | _ => False
noncomputable def cmpG (op : CmpOp) (x y : V) (K : Bool → Prop) : Prop := match op with
  | .Is => noneQ y (isNone x K)
  | .IsNot => noneQ y (isNone x fun b => K (!b))
  | .Eq => cmpOK 6 x y = true ∧ K (veq 6 x y)
  | .NotEq => cmpOK 6 x y = true ∧ K (!veq 6 x y)
  | _ => False
noncomputable def cmpE (op : CmpOp) (t : Bool) (K : Bool → Prop) : Prop := match op with
  | .Eq => K t
  | .NotEq => K (!t)
  | _ => False
noncomputable def intsV : List V → Option (List Int)
  | [] => some []
  | v :: l => match v with
    | .int n => (intsV l).map (n :: ·)
    | _ => none
noncomputable def cmpT (op : CmpOp) (a : Int) (l : List V) (K : Bool → Prop) : Prop := match intsV l with
  | some ns => (match op with
    | .In => K (ns.any (· == a))
    | .NotIn => K (!ns.any (· == a))
    | _ => False)
  | none => False
noncomputable def cmpQ (op : CmpOp) (x y : V) (K : Bool → Prop) : Prop := match x, y with
  | .int a, .int b => cmpI op a b K
  | .bool a, .bool b => cmpE op (a == b) K
  | .int a, .tup l => cmpT op a l K
  | x, y => cmpG op x y K
noncomputable def idx (l : List V) (i : Int) : Option V := if 0 ≤ i then l[i.toNat]? else none
noncomputable def refQ (v : Value) (K : Addr → Prop) : Prop := match v with
  | .ref a => K a
  | _ => False
noncomputable def subQ (μ : Mu) (x i : V) (K : V → Prop) : Prop := match x with
  | .tup l => intQ i fun n => l.length ≤ 1000 ∧ ∃ v, idx l n = some v ∧ K v
  | .list l => intQ i fun n => l.length ≤ 1000 ∧ ∃ v, idx l n = some v ∧ K v
  | .bytes b => intQ i fun n => (0 ≤ n ∧ b.length ≤ 100000) ∧ ∃ x, b[n.toNat]? = some x ∧ K (.int (x.toNat : Int))
  | .raw r => intQ i fun n => refQ r fun a => ∃ l : List V, Cell.lst a l ∈ μ ∧ l.length ≤ 1000 ∧ ∃ j v, seqIndex? n l.length = some j ∧ l[j]? = some v ∧ K v
  | _ => False
noncomputable def attrQ (x : V) (j : Nat) (K : V → Prop) : Prop := match x with
  | .inst C l => (match cTab.lookup C with
    | some fs => (match fs.idxOf? j with
      | some i => (match l[i]? with | some v => K v | none => False)
      | none => False)
    | none => False)
  | _ => False
noncomputable def methQ (x : V) (j : Nat) (K : Value → Prop) : Prop := match x with
  | .inst C _ => (match mTab.lookup (C, j) with | some f => K (.ref f) | none => False)
  | .int _ => if j = 26 then K (.builtin "int.to_bytes") else if j = 27 then K (.builtin "int.bit_length") else False
  | _ => False
noncomputable def isRaw : V → Bool
  | .raw _ => true
  | _ => false
/-- f on each -/
inductive MapOK (w : World) (k : Nat) (f : Value) : List V → List V → Prop
  | nil : MapOK w k f [] []
  | cons {v : V} {b : List UInt8} {vs ys : List V} : (∀ μ, CallOK w k f [v] μ (fun d μ' => d = .bytes b ∧ μ' = μ)) → MapOK w k f vs ys → MapOK w k f (v :: vs) (.bytes b :: ys)
noncomputable def allIn (lo hi : Int) : List V → Prop
  | [] => True
  | v :: l => intQ v (fun n => lo ≤ n ∧ n < hi) ∧ allIn lo hi l
noncomputable def frbQ (l : List V) (K : Int → Prop) : Prop := match l with
  | [v, u] => bytQ v fun b => u = .str (stN 0) ∧ b.length ≤ 100000 ∧ K (ofBE b : Int)
  | _ => False
noncomputable def wE (w : World) (k : Nat) : X → List V → Mu → (V → Mu → Prop) → Prop
  | .var i, ρ, μ, Q => (match lget ρ i with | .un => False | v => Q v μ)
  | .glb j, _, μ, Q => Q (gtL j).2.1 μ
  | .cint n, _, μ, Q => Q (.int n) μ
  | .cbytes b, _, μ, Q => Q (.bytes b) μ
  | .cstr j, _, μ, Q => Q (.str (stN j)) μ
  | .cnone, _, μ, Q => Q .none μ
  | .cbool b, _, μ, Q => Q (.bool b) μ
  | .bin op a b, ρ, μ, Q => wE w k a ρ μ fun x μ₁ => wE w k b ρ μ₁ fun y μ₂ => binQ op x y fun z => Q z μ₂
  | .neg a, ρ, μ, Q => wE w k a ρ μ fun x μ₁ => intQ x fun n => Q (.int (-n)) μ₁
  | .not a, ρ, μ, Q => wE w k a ρ μ fun x μ₁ => truthQ x fun b => Q (.bool (!b)) μ₁
  | .cmp op a b, ρ, μ, Q => wE w k a ρ μ fun x μ₁ => wE w k b ρ μ₁ fun y μ₂ => cmpQ op x y fun z => Q (.bool z) μ₂
  | .cmp2 o1 o2 a b c, ρ, μ, Q => wE w k a ρ μ fun x μ₁ => wE w k b ρ μ₁ fun y μ₂ => cmpQ o1 x y fun z => brq z (wE w k c ρ μ₂ fun u μ₃ => cmpQ o2 y u fun z2 => Q (.bool z2) μ₃) (Q (.bool false) μ₂)
  | .band a b, ρ, μ, Q => wE w k a ρ μ fun x μ₁ => truthQ x fun t => brq t (wE w k b ρ μ₁ fun y μ₂ => truthQ y fun u => Q (.bool u) μ₂) (Q (.bool false) μ₁)
  | .bor a b, ρ, μ, Q => wE w k a ρ μ fun x μ₁ => truthQ x fun t => brq t (Q (.bool true) μ₁) (wE w k b ρ μ₁ fun y μ₂ => truthQ y fun u => Q (.bool u) μ₂)
  | .ife c a b, ρ, μ, Q => wE w k c ρ μ fun x μ₁ => truthQ x fun t => brq t (wE w k a ρ μ₁ Q) (wE w k b ρ μ₁ Q)
  | .call j as, ρ, μ, Q => wE w k as ρ μ fun vs μ₁ => tupQ vs fun l => (match (gtL j).2.1 with | .raw f => CallOK w k f l μ₁ Q | _ => False)
  | .meth o j as, ρ, μ, Q => wE w k o ρ μ fun x μ₁ => methQ x j fun f => wE w k as ρ μ₁ fun vs μ₂ => tupQ vs fun l => CallOK w k f (x :: l) μ₂ Q
  | .attr o j, ρ, μ, Q => wE w k o ρ μ fun x μ₁ => attrQ x j fun v => Q v μ₁
  | .sub o i, ρ, μ, Q => wE w k o ρ μ fun x μ₁ => wE w k i ρ μ₁ fun y μ₂ => subQ μ₂ x y fun v => Q v μ₂
  | .slb o n, ρ, μ, Q => wE w k o ρ μ fun x μ₁ => bytQ x fun b => b.length ≤ 100000 ∧ Q (.bytes (b.drop n)) μ₁
  | .slt o n, ρ, μ, Q => wE w k o ρ μ fun x μ₁ => listQ x fun l => l.length ≤ 100000 ∧ Q (.list (l.take n)) μ₁
  | .frb as, ρ, μ, Q => wE w k as ρ μ fun vs μ₁ => tupQ vs fun l => frbQ l fun n => Q (.int n) μ₁
  | .tup as, ρ, μ, Q => wE w k as ρ μ Q
  | .lst as, ρ, μ, Q => wE w k as ρ μ fun vs μ₁ => tupQ vs fun l => Q (.list l) μ₁
  | .own as, ρ, μ, Q => wE w k as ρ μ fun vs μ₁ => tupQ vs fun l => ∀ a, Q (.raw (.ref a)) (.lst a l :: μ₁)
  | .dct, _, μ, Q => ∀ a, (a == sysModules) = false → Q (.raw (.ref a)) (.obj (a, dictOf [] 0) :: μ)
  | .map j e, ρ, μ, Q => wE w k e ρ μ fun x μ₁ => listQ x fun l => (match (gtL j).2.1 with | .raw f => l.length ≤ 1000 ∧ ∃ ys, MapOK w k f l ys ∧ Q (.list ys) μ₁ | _ => False)
  | .flt j e, ρ, μ, Q => wE w k e ρ μ fun x μ₁ => listQ x fun l => (match (gtL j).2.1 with | .int hi => (l.length ≤ 1000 ∧ allIn 0 hi l) ∧ Q (.list []) μ₁ | _ => False)
  | .nil, _, μ, Q => Q (.tup []) μ
  | .cons a as, ρ, μ, Q => wE w k a ρ μ fun x μ₁ => wE w k as ρ μ₁ fun vs μ₂ => tupQ vs fun l => Q (.tup (x :: l)) μ₂
noncomputable def uName (e : Expr) : Option Str := match e with
  | .Name x _ => some x
  | _ => none
noncomputable def uConst (e : Expr) : Option Const := match e with
  | .Constant v _ _ => some v
  | _ => none
noncomputable def uBin (e : Expr) : Option (Expr × Operator × Expr) := match e with
  | .BinOp l o r _ => some (l, o, r)
  | _ => none
noncomputable def uUn (e : Expr) : Option (UnaryOp × Expr) := match e with
  | .UnaryOp o x _ => some (o, x)
  | _ => none
noncomputable def uCmp (e : Expr) : Option (Expr × List CmpOp × List Expr) := match e with
  | .Compare l os rs _ => some (l, os, rs)
  | _ => none
noncomputable def uBool (e : Expr) : Option (BoolOp × List Expr × Pos) := match e with
  | .BoolOp o xs p => some (o, xs, p)
  | _ => none
noncomputable def uIf (e : Expr) : Option (Expr × Expr × Expr) := match e with
  | .IfExp t x y _ => some (t, x, y)
  | _ => none
noncomputable def uCall (e : Expr) : Option (Expr × List Expr × List Keyword × Pos) := match e with
  | .Call f as ks p => some (f, as, ks, p)
  | _ => none
noncomputable def uAttr (e : Expr) : Option (Expr × Str × Pos) := match e with
  | .Attribute o n p => some (o, n, p)
  | _ => none
noncomputable def uSub (e : Expr) : Option (Expr × Expr × Pos) := match e with
  | .Subscript o i p => some (o, i, p)
  | _ => none
noncomputable def uTup (e : Expr) : Option (List Expr × Pos) := match e with
  | .Tuple es _ p => some (es, p)
  | _ => none
noncomputable def uLst (e : Expr) : Option (List Expr) := match e with
  | .List es _ => some es
  | _ => none
noncomputable def uDct (e : Expr) : Bool := match e with
  | .Dict [] [] _ => true
  | _ => false
noncomputable def uLC (e : Expr) : Option (Expr × List Comprehension × Scope) := match e with
  | .ListComp x gs sc _ => some (x, gs, sc)
  | _ => none
noncomputable def uSl (e : Expr) : Option (Option Expr × Option Expr × Option Expr) := match e with
  | .Slice a b c _ => some (a, b, c)
  | _ => none
theorem noS {α : Type} {x : α} {P : Prop} (h : none = some x) : P := by cases h
theorem uName_eq {e : Expr} {x : Str} (h : uName e = some x) : ∃ p, e = .Name x p := by
  cases e <;> first | exact noS h | (cases h; exact ⟨_, rfl⟩)
theorem uConst_eq {e : Expr} {v : Const} (h : uConst e = some v) : ∃ k p, e = .Constant v k p := by
  cases e <;> first | exact noS h | (cases h; exact ⟨_, _, rfl⟩)
theorem uBin_eq {e : Expr} {y : Expr × Operator × Expr} (h : uBin e = some y) : ∃ p, e = .BinOp y.1 y.2.1 y.2.2 p := by
  cases e <;> first | exact noS h | (cases h; exact ⟨_, rfl⟩)
theorem uUn_eq {e : Expr} {y : UnaryOp × Expr} (h : uUn e = some y) : ∃ p, e = .UnaryOp y.1 y.2 p := by
  cases e <;> first | exact noS h | (cases h; exact ⟨_, rfl⟩)
theorem uCmp_eq {e : Expr} {y : Expr × List CmpOp × List Expr} (h : uCmp e = some y) : ∃ p, e = .Compare y.1 y.2.1 y.2.2 p := by
  cases e <;> first | exact noS h | (cases h; exact ⟨_, rfl⟩)
theorem uBool_eq {e : Expr} {y : BoolOp × List Expr × Pos} (h : uBool e = some y) : e = .BoolOp y.1 y.2.1 y.2.2 := by
  cases e <;> first | exact noS h | (cases h; rfl)
theorem uIf_eq {e : Expr} {y : Expr × Expr × Expr} (h : uIf e = some y) : ∃ p, e = .IfExp y.1 y.2.1 y.2.2 p := by
  cases e <;> first | exact noS h | (cases h; exact ⟨_, rfl⟩)
theorem uCall_eq {e : Expr} {y : Expr × List Expr × List Keyword × Pos} (h : uCall e = some y) : e = .Call y.1 y.2.1 y.2.2.1 y.2.2.2 := by
  cases e <;> first | exact noS h | (cases h; rfl)
theorem uAttr_eq {e : Expr} {y : Expr × Str × Pos} (h : uAttr e = some y) : e = .Attribute y.1 y.2.1 y.2.2 := by
  cases e <;> first | exact noS h | (cases h; rfl)
theorem uSub_eq {e : Expr} {y : Expr × Expr × Pos} (h : uSub e = some y) : e = .Subscript y.1 y.2.1 y.2.2 := by
  cases e <;> first | exact noS h | (cases h; rfl)
theorem uTup_eq {e : Expr} {y : List Expr × Pos} (h : uTup e = some y) : ∃ k, e = .Tuple y.1 k y.2 := by
  cases e <;> first | exact noS h | (cases h; exact ⟨_, rfl⟩)
theorem uLst_eq {e : Expr} {y : List Expr} (h : uLst e = some y) : ∃ p, e = .List y p := by
  cases e <;> first | exact noS h | (cases h; exact ⟨_, rfl⟩)
theorem uLC_eq {e : Expr} {y : Expr × List Comprehension × Scope} (h : uLC e = some y) : ∃ p, e = .ListComp y.1 y.2.1 y.2.2 p := by
  cases e <;> first | exact noS h | (cases h; exact ⟨_, rfl⟩)
theorem uSl_eq {e : Expr} {y : Option Expr × Option Expr × Option Expr} (h : uSl e = some y) : ∃ p, e = .Slice y.1 y.2.1 y.2.2 p := by
  cases e <;> first | exact noS h | (cases h; exact ⟨_, rfl⟩)
theorem any_ex {α : Type} {o : Option α} {p : α → Bool} (h : o.any p = true) : ∃ x, o = some x ∧ p x = true := by
  cases o with
  | none => first | exact no_some h | exact no_ft h | cases h
  | some x => exact ⟨x, rfl, h⟩
theorem any_k {α : Type} {o : Option α} {p : α → Bool} {G : Prop} (h : o.any p = true) (k : ∀ x, o = some x → p x = true → G) : G := by
  cases o with
  | none => first | exact no_some h | exact no_ft h | cases h
  | some x => exact k x rfl h
theorem and_ex {a b : Bool} (h : (a && b) = true) : a = true ∧ b = true := Bool.and_eq_true_iff.mp h
theorem and_no {a b : Bool} (h : (!a && b) = true) : a = false ∧ b = true := by cases a <;> first | exact ⟨rfl, h⟩ | exact absurd h Bool.false_ne_true
noncomputable def one {α : Type} (l : List α) : Option α := match l with
  | [a] => some a
  | _ => none
noncomputable def two {α : Type} (l : List α) : Option (α × α) := match l with
  | [a, b] => some (a, b)
  | _ => none
noncomputable def unc {α : Type} (l : List α) : Option (α × List α) := match l with
  | a :: l => some (a, l)
  | _ => none
theorem one_eq {α : Type} {l : List α} {a : α} (h : one l = some a) : l = [a] := by
  unfold one at h
  match l, h with
  | [_], h => cases h; rfl
theorem two_eq {α : Type} {l : List α} {a : α × α} (h : two l = some a) : l = [a.1, a.2] := by
  unfold two at h
  match l, h with
  | [_, _], h => cases h; rfl
theorem unc_eq {α : Type} {l : List α} {a : α × List α} (h : unc l = some a) : l = a.1 :: a.2 := by
  cases l with
  | nil => first | exact no_some h | exact no_ft h | cases h
  | cons _ _ => cases h; rfl
noncomputable def bsp (o : BoolOp) (l : List Expr) (p : Pos) : Option (Expr × Expr) := match l with
  | [x, y] => some (x, y)
  | x :: y :: z :: l => some (x, .BoolOp o (y :: z :: l) p)
  | _ => none
noncomputable def notSuper (e : Expr) : Bool := match uCall e with
  | some (f, as, ks, _) => !((uName f).isSome && as.isEmpty && ks.isEmpty)
  | none => true
noncomputable def notSlice (e : Expr) : Bool := (uSl e).isNone
noncomputable def notStar (e : Expr) : Bool := match e with
  | .Starred .. => false
  | _ => true
noncomputable def gnm (cs : Scope) (j : Nat) (x : Str) : Bool := decide (j < gtab.length) && (x == Str.ofString (gtL j).1 && cs.names.lookup x == some .globalImplicit)
noncomputable def cNat (e : Expr) (n : Nat) : Bool := uConst e == some (.int n)
noncomputable def notSet (e : Expr) : Bool := match e with
  | .Set .. => false
  | _ => true
noncomputable def uGen (gs : List Comprehension) : Option (Str × Expr × List Expr) := (one gs).bind fun g => (uName g.target).bind fun x => if g.is_async == 0 then some (x, g.iter, g.ifs) else none
theorem bind_ex {α β : Type} {o : Option α} {f : α → Option β} {z : β} (h : o.bind f = some z) : ∃ x, o = some x ∧ f x = some z := by
  cases o with
  | none => exact noS h
  | some x => exact ⟨x, rfl, h⟩
theorem ift_ex {α : Type} {c : Bool} {a b : α} (h : (if c = true then some a else none) = some b) : c = true ∧ a = b := by
  cases c with
  | false => exact noS h
  | true => exact ⟨rfl, Option.some.inj h⟩
theorem uGen_eq {gs : List Comprehension} {y : Str × Expr × List Expr} (h : uGen gs = some y) : ∃ px, gs = [⟨.Name y.1 px, y.2.1, y.2.2, 0⟩] := by
  obtain ⟨⟨t, i, fs, a⟩, h1, h⟩ := bind_ex h
  obtain ⟨x, h2, h⟩ := bind_ex h
  obtain ⟨h3, h⟩ := ift_ex h
  obtain ⟨px, e⟩ := uName_eq h2
  refine ⟨px, ?_⟩
  rw [one_eq h1, ← h, show t = .Name x px from e, show a = 0 from eq_of_beq h3]
noncomputable def chkMap (cs : Scope) (j : Nat) (elt : Expr) (gs : List Comprehension) (sc : Scope) : Option Expr := (uGen gs).bind fun g =>
  if notSet g.2.1 && (sc.names.all fun y => y.2 == .local && sc.names.lookup y.1 == some .local || y.2 == .globalImplicit) && sc.kind == .function && sc.names.lookup g.1 == some .local && !(g.1 == ("__debug__" : Str)) &&
      ((uCall elt).any fun y => y.2.2.1.isEmpty && ((uName y.1).any (gnm sc j) && ((one y.2.1).any fun a => uName a == some g.1))) && (isRaw (gtL j).2.1 && g.2.2.isEmpty) then some g.2.1 else none
noncomputable def chkFlt (cs : Scope) (j : Nat) (elt : Expr) (gs : List Comprehension) (sc : Scope) : Option Expr := (uGen gs).bind fun g =>
  if notSet g.2.1 && (sc.names.all fun y => y.2 == .local && sc.names.lookup y.1 == some .local || y.2 == .globalImplicit) && sc.kind == .function && sc.names.lookup g.1 == some .local && !(g.1 == ("__debug__" : Str)) &&
      ((one g.2.2).any fun ct => (uUn ct).any fun u => u.1 == .Not && ((uCmp u.2).any fun y => cNat y.1 0 && ((two y.2.1).any fun o => o.1 == .LtE && o.2 == .Lt) && ((two y.2.2).any fun r => uName r.1 == some g.1 && ((uName r.2).any (gnm sc j))))) then some g.2.1 else none
/-- X against the program's expression; false: a list of arguments (as a Tuple) -/
noncomputable def chk (cs : Scope) (ns : List Str) : X → Bool → Expr → Bool
  | .var i, md, e => md && (uName e).any fun x => ns[i]? == some x
  | .glb j, md, e => md && (uName e).any (gnm cs j)
  | .cint n, md, e => md && uConst e == some (.int n)
  | .cbytes b, md, e => md && uConst e == some (.bytes b)
  | .cstr j, md, e => md && uConst e == some (.str (stN j))
  | .cnone, md, e => md && uConst e == some .none
  | .cbool b, md, e => md && uConst e == some (.bool b)
  | .bin op a b, md, e => md && (uBin e).any fun y => op == y.2.1 && (chk cs ns a true y.1 && chk cs ns b true y.2.2)
  | .neg a, md, e => md && (uUn e).any fun y => y.1 == .USub && chk cs ns a true y.2
  | .not a, md, e => md && (uUn e).any fun y => y.1 == .Not && chk cs ns a true y.2
  | .cmp op a b, md, e => md && (uCmp e).any fun y => (one y.2.1).any fun o => (one y.2.2).any fun r => op == o && (!behindInMarks o r && (chk cs ns a true y.1 && chk cs ns b true r))
  | .cmp2 o1 o2 a b c, md, e => md && (uCmp e).any fun y => (two y.2.1).any fun o => (two y.2.2).any fun r => o1 == o.1 && (o2 == o.2 && (!lastMarks [o.1, o.2] [r.1, r.2] && (chk cs ns a true y.1 && (chk cs ns b true r.1 && chk cs ns c true r.2))))
  | .band a b, md, e => md && (uBool e).any fun y => y.1 == .And && (bsp y.1 y.2.1 y.2.2).any fun z => chk cs ns a true z.1 && chk cs ns b true z.2
  | .bor a b, md, e => md && (uBool e).any fun y => y.1 == .Or && (bsp y.1 y.2.1 y.2.2).any fun z => chk cs ns a true z.1 && chk cs ns b true z.2
  | .ife c a b, md, e => md && (uIf e).any fun y => chk cs ns c true y.1 && (chk cs ns a true y.2.1 && chk cs ns b true y.2.2)
  | .call j as, md, e => md && (uCall e).any fun y => y.2.2.1.isEmpty && ((uName y.1).any (gnm cs j) && (isRaw (gtL j).2.1 && chk cs ns as false (.Tuple y.2.1 0 y.2.2.2)))
  | .meth o j as, md, e => md && (uCall e).any fun y => y.2.2.1.isEmpty && (uAttr y.1).any fun z => z.2.1 == atN j && (notSuper z.1 && (z.2.2.endLine == y.2.2.2.line && (decide (y.2.1.length < 30) && (chk cs ns o true z.1 && chk cs ns as false (.Tuple y.2.1 0 y.2.2.2)))))
  | .attr o j, md, e => md && (uAttr e).any fun z => z.2.1 == atN j && (notSuper z.1 && chk cs ns o true z.1)
  | .sub o i, md, e => md && (uSub e).any fun y => notSlice y.2.1 && (chk cs ns o true y.1 && chk cs ns i true y.2.1)
  | .slb o n, md, e => md && (uSub e).any fun y => (uSl y.2.1).any fun z => z.1.any (fun l => cNat l n) && (z.2.1.isNone && (z.2.2.isNone && (decide (n < 1000) && chk cs ns o true y.1)))
  | .slt o n, md, e => md && (uSub e).any fun y => (uSl y.2.1).any fun z => z.1.isNone && (z.2.1.any (fun l => cNat l n) && (z.2.2.isNone && (decide (n < 1000) && ((uName y.1).isSome && chk cs ns o true y.1))))
  | .frb as, md, e => md && (uCall e).any fun y => y.2.2.1.isEmpty && (uAttr y.1).any fun z => z.2.1 == Str.ofString "from_bytes" && ((uName z.1).any (gnm cs 57) && (z.2.2.endLine == y.2.2.2.line && (decide (y.2.1.length < 30) && ((unc y.2.1).any (fun r => notStar r.1) && chk cs ns as false (.Tuple y.2.1 0 y.2.2.2)))))
  | .tup as, md, e => md && (uTup e).any fun y => decide (y.1.length ≤ 1000) && chk cs ns as false (.Tuple y.1 0 y.2)
  | .lst as, md, e => md && (uLst e).any fun y => decide (y.length ≤ 1000) && chk cs ns as false (.Tuple y 0 ⟨0, 0, 0, 0⟩)
  | .own as, md, e => md && (uLst e).any fun y => decide (y.length ≤ 1000) && chk cs ns as false (.Tuple y 0 ⟨0, 0, 0, 0⟩)
  | .dct, md, e => md && uDct e
  | .map j a, md, e => md && (uLC e).any fun y => (chkMap cs j y.1 y.2.1 y.2.2).any fun it => chk cs ns a true it
  | .flt j a, md, e => md && (uLC e).any fun y => (chkFlt cs j y.1 y.2.1 y.2.2).any fun it => chk cs ns a true it
  | .nil, md, e => !md && (uTup e).any fun y => y.1.isEmpty
  | .cons a as, md, e => !md && (uTup e).any fun y => (unc y.1).any fun z => notStar z.1 && (chk cs ns a true z.1 && chk cs ns as false (.Tuple z.2 0 y.2))
theorem wsmall {a : Int} (h : smallI a) : Builtin.Int.intBits a ≤ 64 := PySem.intBits_le_64 (by unfold smallI at h; (first | lia | omega)) (by unfold smallI at h; (first | lia | omega))
theorem mulok {a b : Int} (h : smallI a ∨ smallI b) : IntMulOk a b := h.elim (fun h => .of_left (wsmall h)) (fun h => .of_right (wsmall h))
theorem nopylong {a b : Int} (h : smallI b) : Builtin.divisionGoesByPylong a b = false := by
  unfold Builtin.divisionGoesByPylong
  have h1 : b.natAbs.log2 < 63 ∨ b = 0 := by
    by_cases hb : b = 0
    · exact .inr hb
    · left
      unfold smallI at h
      exact (Nat.log2_lt (by (first | lia | omega))).mpr (by (first | lia | omega))
  have h2 : (if (b == 0) = true then 0 else b.natAbs.log2 / 30 + 1) ≤ 300 := by
    rcases h1 with h1 | h1
    · split <;> (first | lia | omega)
    · subst h1; decide
  simp only [Bool.and_eq_false_iff, decide_eq_false_iff_not]
  left; (first | lia | omega)
section
variable {c : FC} {m : Str → Option Value} {a : Po}
noncomputable abbrev Post {α β : Type} (R : Led → α → β → Prop) (c : FC) (m : Str → Option Value) (a : Po) (Q : β → Mu → Prop) (Q' : α → Shared → Prop) : Prop := ∀ v d b, Q d b.μ → R b.imm v d → Nx c m a b → Q' v b.s
theorem ev_ret {Q : V → Mu → Prop} {v : Value} {d : V} (n : Nx c m a a) (hr : Rp a.imm v d) (h : Q d a.μ) {Q' : Value → Shared → Prop} (post : Post Rp c m a Q Q') (tk : Nat) : Q' v { a.s with toks := tk } :=
  post v d ⟨a.μ, a.imm, { a.s with toks := tk }⟩ h hr ⟨fun _ h => h, n.F, n.N, rfl⟩
theorem Nx.grow {ml : Led} {h' : Heap} {tk : Nat} {D : Addr} {o : Obj} (r : MR a.imm a.μ ml) (ap : Apart ml a.imm) (hD : ∀ p ∈ ml ++ a.imm, p.1 < D) (F : Fr c.h₀ c.L h' m) (N : News c.h₀ c.L h' ((D, o) :: (ml ++ a.imm))) :
    Nx c m a (a.new D o h' tk) := by
  refine ⟨fun _ h => .tail _ h, F, ⟨ml, r.mono fun _ h _ => .tail _ h, fun p hp => N p ?_, ap.1, fun p hp q hq => ?_⟩, rfl⟩
  · rcases List.mem_append.mp hp with hp | hp
    · exact .tail _ (List.mem_append_left _ hp)
    · rcases List.mem_cons.mp hp with rfl | hp
      · exact .head _
      · exact .tail _ (List.mem_append_right _ hp)
  · rcases List.mem_cons.mp hq with rfl | hq
    · exact Nat.ne_of_lt (hD p (List.mem_append_left _ hp))
    · exact ap.2 p hp q hq
theorem rps_app {n : Led} {vs us : List Value} {ds es : List V} (h : Rps n vs ds) (h2 : Rps n us es) : Rps n (vs ++ us) (ds ++ es) := by
  induction vs generalizing ds with
  | nil => cases h; exact h2
  | cons v vs ih => cases h with | cons a b => exact .cons a (ih b)
theorem Nx.get (n : Nx c m a a) {p : Addr × Obj} (h : p ∈ a.imm) : a.s.heap.get? p.1 = some p.2 := by
  obtain ⟨ml, N⟩ := n.N
  exact (N.n p (List.mem_append_right _ h)).1
theorem Nx.imms (n : Nx c m a a) : News c.h₀ c.L a.s.heap a.imm := by
  obtain ⟨ml, N⟩ := n.N
  exact fun p hp => N.n p (List.mem_append_right _ hp)
theorem binI_snd {op : Operator} {x y : Int} {t u : Tok} {Q : V → Mu → Prop} (n : Nx c m a a) (hq : binI op x y fun z => Q z a.μ) : Ev Rp c m a (binaryOp op (.int x t) (.int y u)) Q := by
  intro Q' E' post
  cases op <;> first | exact hq.elim | skip
  · exact PyProof.Rows.add_int (ev_ret n (.int _ _) hq post _)
  · exact PyProof.Rows.sub_int' (ev_ret n (.int _ _) hq post _)
  · exact PyProof.Rows.mul_int (ev_ret n (.int _ _) hq.go post _) (mulok hq.small)
  · exact PyProof.Rows.mod_int' (fun e => absurd hq.pos (e ▸ Int.lt_irrefl 0)) (ev_ret n (.int _ _) (hq.go _ rfl (Int.fmod_nonneg_of_pos _ hq.pos) (Int.fmod_lt_of_pos _ hq.pos)) post _)
  · exact PyProof.Rows.pow_int_small hq.1.1 (Int.le_trans hq.1.2.1 (by decide)) hq.1.2.2 (ev_ret n (.int _ _) hq.2 post _)
  · exact PyProof.Rows.lshift_int_small hq.1.1 (Int.le_trans hq.1.2.1 (by decide)) hq.1.2.2 (ev_ret n (.int _ _) hq.2 post _)
  · exact PyProof.Rows.rshift_int hq.1 (ev_ret n (.int _ _) hq.2 post _)
  · exact PyProof.Rows.and_int (ev_ret n (.int _ _) hq post _)
  · exact PyProof.Rows.floordiv_int (fun e => absurd hq.1.1 (e ▸ Int.lt_irrefl 0)) (ev_ret n (.int _ _) hq.2 post _) (.inl (nopylong hq.1.2))
theorem add_no {op : Operator} {P : Prop} (h : isAdd op P) : op = .Add ∧ P := by cases op <;> first | exact ⟨rfl, h⟩ | exact h.elim
theorem rp_int {imm : Led} {v : Value} {i : Int} (h : Rp imm v (.int i)) : ∃ t, v = .int i t := by cases h; exact ⟨_, rfl⟩
theorem rp_bytes {imm : Led} {v : Value} {i : List UInt8} (h : Rp imm v (.bytes i)) : ∃ t, v = .bytes i.toArray t := by cases h; exact ⟨_, rfl⟩
theorem rp_bool {imm : Led} {v : Value} {i : Bool} (h : Rp imm v (.bool i)) : v = .bool i := by cases h; rfl
theorem rp_none {imm : Led} {v : Value} (h : Rp imm v .none) : v = .none := by cases h; rfl
theorem rp_tup {imm : Led} {v : Value} {ds : List V} (h : Rp imm v (.tup ds)) : ∃ x vs, v = .ref x ∧ (x, tupO vs) ∈ imm ∧ Rps imm vs ds := by cases h with | tup a b => exact ⟨_, _, rfl, a, b⟩
theorem rp_list {imm : Led} {v : Value} {ds : List V} (h : Rp imm v (.list ds)) : ∃ x vs k, v = .ref x ∧ (x, listOf vs.toArray k) ∈ imm ∧ Rps imm vs ds := by cases h with | list a b => exact ⟨_, _, _, rfl, a, b⟩
theorem intQ_ex {v : V} {K : Int → Prop} (h : intQ v K) : ∃ n, v = .int n ∧ K n := by cases v <;> first | exact ⟨_, rfl, h⟩ | exact h.elim
theorem bytQ_ex {v : V} {K : List UInt8 → Prop} (h : bytQ v K) : ∃ n, v = .bytes n ∧ K n := by cases v <;> first | exact ⟨_, rfl, h⟩ | exact h.elim
theorem tupQ_ex {v : V} {K : List V → Prop} (h : tupQ v K) : ∃ n, v = .tup n ∧ K n := by cases v <;> first | exact ⟨_, rfl, h⟩ | exact h.elim
theorem listQ_ex {v : V} {K : List V → Prop} (h : listQ v K) : ∃ n, v = .list n ∧ K n := by cases v <;> first | exact ⟨_, rfl, h⟩ | exact h.elim
theorem truthQ_ex {v : V} {K : Bool → Prop} (h : truthQ v K) : ∃ n, v = .bool n ∧ K n := by cases v <;> first | exact ⟨_, rfl, h⟩ | exact h.elim
theorem noneQ_ex {v : V} {K : Prop} (h : noneQ v K) : v = .none ∧ K := by cases v <;> first | exact ⟨rfl, h⟩ | exact h.elim
theorem binQ_ex {op : Operator} {x y : V} {K : V → Prop} (h : binQ op x y K) : (∃ i, x = .int i ∧ intQ y fun b => binI op i b K) ∨
    (∃ p, x = .bytes p ∧ bytQ y fun b => isAdd op ((p.length ≤ 100000 ∧ b.length ≤ 100000) ∧ K (.bytes (p ++ b)))) ∨ ∃ p, x = .list p ∧ listQ y fun b => isAdd op ((p.length ≤ 100 ∧ b.length ≤ 100) ∧ K (.list (p ++ b))) := by
  cases x <;> first | exact .inl ⟨_, rfl, h⟩ | exact .inr (.inl ⟨_, rfl, h⟩) | exact .inr (.inr ⟨_, rfl, h⟩) | exact h.elim
theorem binQ_snd {op : Operator} {v1 v2 : Value} {d1 d2 : V} {Q : V → Mu → Prop} (n : Nx c m a a) (h1 : Rp a.imm v1 d1) (h2 : Rp a.imm v2 d2) (hq : binQ op d1 d2 fun z => Q z a.μ) : Ev Rp c m a (binaryOp op v1 v2) Q := by
  rcases binQ_ex hq with ⟨i, rfl, hq⟩ | ⟨p, rfl, hq⟩ | ⟨p, rfl, hq⟩
  · obtain ⟨j, rfl, hq⟩ := intQ_ex hq
    obtain ⟨t, rfl⟩ := rp_int h1
    obtain ⟨u, rfl⟩ := rp_int h2
    exact binI_snd n hq
  · obtain ⟨j, rfl, hq⟩ := bytQ_ex hq
    obtain ⟨t, rfl⟩ := rp_bytes h1
    obtain ⟨u, rfl⟩ := rp_bytes h2
    obtain ⟨rfl, hq⟩ := add_no hq
    intro Q' E' post
    refine bytes_add_K (by simp only [List.size_toArray]; exact Nat.le_trans (Nat.add_le_add hq.1.1 hq.1.2) (by decide)) rfl (fun t' k' => ?_)
    exact ev_ret n (.bytes _ _) hq.2 post _
  · obtain ⟨j, rfl, hq⟩ := listQ_ex hq
    obtain ⟨x, vs, k, rfl, l1, r1⟩ := rp_list h1
    obtain ⟨y, us, k2, rfl, l2, r2⟩ := rp_list h2
    obtain ⟨rfl, hq⟩ := add_no hq
    intro Q' E' post
    obtain ⟨ml, N⟩ := n.N
    refine kmk_add_lit n.F N.n (N.n.isList (List.mem_append_right _ l1)) (N.n.isList (List.mem_append_right _ l2)) rfl (fun D h' F' N' hD => ?_) (by rw [sizeLine_eq, r1.length, r2.length]; exact Nat.le_trans (Nat.add_le_add hq.1.1 hq.1.2) (by decide))
    exact post _ _ (a.new D _ h' a.s.toks) hq.2 (.list (.head _) ((rps_app r1 r2).mono fun _ h => .tail _ h)) (Nx.grow (tk := a.s.toks) N.r N.ap hD F' N')
end
open PySem.SeqAt in
section
variable {s : Shared} {imm : Led}
noncomputable def at2 (f : V → V → Bool) (xs ys : List V) (j : Nat) : Bool := match xs[j]? with
  | some x => (match ys[j]? with | some y => f x y | none => false)
  | none => false
theorem all2_at (f : V → V → Bool) : ∀ (xs ys : List V), xs.length = ys.length → (List.range xs.length).all (at2 f xs ys) = all2 f xs ys
  | [], [], _ => rfl
  | x :: xs, y :: ys, h => by
    have ih := all2_at f xs ys (by simpa using h)
    rw [List.length_cons, List.range_succ_eq_map, List.all_cons, List.all_map]
    show (f x y && (List.range xs.length).all (at2 f xs ys)) = (f x y && all2 f xs ys)
    rw [ih]
  | [], _ :: _, h => nomatch h
  | _ :: _, [], h => nomatch h
theorem all2_len (f : V → V → Bool) : ∀ (xs ys : List V), all2 f xs ys = true → xs.length = ys.length
  | [], [], _ => rfl
  | x :: xs, y :: ys, h => congrArg (· + 1) (all2_len f xs ys (and_ex h).2)
  | [], _ :: _, h => nomatch h
  | _ :: _, [], h => nomatch h
theorem zipA_at {f : V → V → Bool} : ∀ {xs ys : List V} {j : Nat} {x y : V}, zipA f xs ys = true → xs[j]? = some x → ys[j]? = some y → f x y = true
  | [], _, _, _, _, _, h, _ => nomatch h
  | _ :: _, [], _, _, _, _, _, h => nomatch h
  | x :: xs, y :: ys, 0, _, _, h, h1, h2 => by cases h1; cases h2; exact (and_ex h).1
  | x :: xs, y :: ys, j + 1, _, _, h, h1, h2 => zipA_at (j := j) (and_ex h).2 h1 h2
/-- two values, n deep -/
structure EqN (n : Nat) (s : Shared) (u v : Value) (b : Bool) : Prop where
  eq : ∀ A : Around, A.units + n < cLine → EqAt A s u v b
  rc : ∀ A : Around, A.units + n < cLine → RcAt A s u v b
  ne : ∀ A : Around, A.units + n < cLine → RcNeAt A s u v (!b)
  same : u = v → b = true
theorem EqN.mono {n n' : Nat} {u v : Value} {b : Bool} (h : EqN n s u v b) (hn : n ≤ n') : EqN n' s u v b :=
  ⟨fun A hu => h.eq A (Nat.lt_of_le_of_lt (Nat.add_le_add_left hn _) hu), fun A hu => h.rc A (Nat.lt_of_le_of_lt (Nat.add_le_add_left hn _) hu), fun A hu => h.ne A (Nat.lt_of_le_of_lt (Nat.add_le_add_left hn _) hu), h.same⟩
theorem eqN_int (i j : Int) (t u : Tok) : EqN 0 s (.int i t) (.int j u) (decide (i = j)) := by
  have e : (i == j) = decide (i = j) := rfl
  refine ⟨fun A _ => e ▸ EqAt.int_int i t j u, fun A _ => e ▸ RcAt.int_int i t j u, fun A _ => e ▸ RcNeAt.int_int i t j u, fun h => ?_⟩
  injection h with h _; exact decide_eq_true h
theorem bytes_l (b c : List UInt8) : (b.toArray.toList == c.toArray.toList) = decide (b = c) :=
  Bool.eq_iff_iff.mpr ⟨fun h => decide_eq_true (eq_of_beq h), fun h => by rw [of_decide_eq_true h]; exact beq_self_eq_true _⟩
theorem eqN_bytes (b c : List UInt8) (t u : Tok) : EqN 0 s (.bytes b.toArray t) (.bytes c.toArray u) (decide (b = c)) := by
  have hr : ∀ A : Around, RcAt A s (.bytes b.toArray t) (.bytes c.toArray u) (decide (b = c)) := fun A prog w E Q h => eq_bytes (by rw [bytes_l]; exact h)
  have hs : Value.bytes b.toArray t = .bytes c.toArray u → decide (b = c) = true := fun h => by
    injection h with h _; exact decide_eq_true (congrArg Array.toList h)
  refine ⟨fun A _ prog w E Q h => ?_, fun A _ => hr A, fun A _ prog w E Q h => ne_bytes (by show Q (.bool (!(b.toArray.toList == c.toArray.toList))) s; rw [bytes_l]; exact h), hs⟩
  unfold eqBool
  refine wpAny_holding ?_
  refine wpAny_ite_split (fun hab => ?_) (fun _ => ?_)
  · rw [hs (eq_of_beq hab)] at h
    exact wpAny_bind (wpAny_rule (wpAny_pure h))
  · exact wpAny_bind (hr A prog w E _ (wpAny_truthy_bool h))
theorem eqN_ref {n : Nat} {x y : Addr} {b : Bool} (h1 : ∀ A : Around, A.units + n < cLine → RcAt A s (.ref x) (.ref y) b) (h2 : ∀ A : Around, A.units + n < cLine → RcNeAt A s (.ref x) (.ref y) (!b)) (h3 : x = y → b = true) : EqN n s (.ref x) (.ref y) b := by
  have hs : Value.ref x = .ref y → b = true := fun e => h3 (by injection e)
  refine ⟨fun A hu => ?_, h1, h2, hs⟩
  by_cases e : x = y
  · rw [h3 e, e]; exact EqAt.same _
  · exact EqAt.of_refs e (h1 A hu)
theorem eqN_list {n : Nat} {x y : Addr} {vs us : List Value} {ds es : List V} {f : V → V → Bool} (hx : s.heap.IsList x vs.toArray) (hy : s.heap.IsList y us.toArray) (l1 : vs.length = ds.length) (l2 : us.length = es.length)
    (h : ∀ (j : Nat) (u v : Value), vs[j]? = some u → us[j]? = some v → EqN n s u v (at2 f ds es j)) : EqN (n + 1) s (.ref x) (.ref y) (all2 f ds es) := by
  have key : vs.length = us.length → ∀ A : Around, A.units + (n + 1) < cLine → ∀ j (j1 : j < vs.toArray.size) (j2 : j < us.toArray.size), EqAt A.in1 s vs.toArray[j] us.toArray[j] (at2 f ds es j) := fun _ A hu j j1 j2 =>
    (h j _ _ (List.getElem?_eq_getElem (by simpa using j1)) (List.getElem?_eq_getElem (by simpa using j2))).eq A.in1 (by show A.units + 1 + n < _; (first | lia | omega))
  by_cases hl : vs.length = us.length
  · have e := all2_at f ds es (by (first | lia | omega))
    rw [← e, ← l1]
    refine eqN_ref (fun A hu => ?_) (fun A hu => ?_) fun q => ?_
    · have := RcAt.lists hx hy (by simpa using hl) (by (first | lia | omega)) (key hl A hu)
      simpa using this
    · have := RcNeAt.lists hx hy (by simpa using hl) (by (first | lia | omega)) (key hl A hu)
      simpa using this
    · subst q
      obtain ⟨o, ho, _, k, hd⟩ := hx
      obtain ⟨o', ho', _, k', hd'⟩ := hy
      rw [ho] at ho'; cases ho'
      rw [hd] at hd'; injection hd' with hd' _
      have hv : vs = us := congrArg Array.toList hd'
      rw [List.all_eq_true]
      intro j hj
      have hj : j < vs.length := by simpa using hj
      exact (h j _ _ (List.getElem?_eq_getElem hj) (by rw [← hv]; exact List.getElem?_eq_getElem hj)).same rfl
  · have e : all2 f ds es = false := by
      cases q : all2 f ds es with
      | false => rfl
      | true => have := all2_len f ds es q; (first | lia | omega)
    rw [e]
    have hl' : (vs.toArray.size != us.toArray.size) = true := by simpa using hl
    refine eqN_ref (fun A hu => RcAt.lists_lengths hx hy hl' (by (first | lia | omega))) (fun A hu => RcNeAt.lists_lengths hx hy hl' (by (first | lia | omega))) fun q => ?_
    subst q
    obtain ⟨o, ho, _, k, hd⟩ := hx
    obtain ⟨o', ho', _, k', hd'⟩ := hy
    rw [ho] at ho'; cases ho'
    rw [hd] at hd'; injection hd' with hd' _
    exact absurd (congrArg List.length (congrArg Array.toList hd' : vs = us)) hl
theorem eqN_tup {n : Nat} {x y : Addr} {vs us : List Value} {ds es : List V} {f : V → V → Bool} (hx : s.heap.IsTuple x vs.toArray) (hy : s.heap.IsTuple y us.toArray) (l1 : vs.length = ds.length) (l2 : us.length = es.length)
    (h : ∀ (j : Nat) (u v : Value), vs[j]? = some u → us[j]? = some v → EqN n s u v (at2 f ds es j)) : EqN (n + 1) s (.ref x) (.ref y) (all2 f ds es) := by
  have key : ∀ A : Around, A.units + (n + 1) < cLine → ∀ j (j1 : j < vs.toArray.size) (j2 : j < us.toArray.size), EqAt A.in1 s vs.toArray[j] us.toArray[j] (at2 f ds es j) := fun A hu j j1 j2 =>
    (h j _ _ (List.getElem?_eq_getElem (by simpa using j1)) (List.getElem?_eq_getElem (by simpa using j2))).eq A.in1 (by show A.units + 1 + n < _; (first | lia | omega))
  have e : ((List.range (min vs.toArray.size us.toArray.size)).all (at2 f ds es) && vs.toArray.size == us.toArray.size) = all2 f ds es := by
    by_cases hl : vs.length = us.length
    · rw [← all2_at f ds es (by (first | lia | omega)), ← l1, List.size_toArray, List.size_toArray, ← hl, Nat.min_self, beq_self_eq_true, Bool.and_true]
    · have : all2 f ds es = false := by
        cases q : all2 f ds es with
        | false => rfl
        | true => have := all2_len f ds es q; (first | lia | omega)
      rw [this]; simp [hl]
  rw [← e]
  refine eqN_ref (fun A hu => RcAt.tuples hx hy (by (first | lia | omega)) (key A hu)) (fun A hu => RcNeAt.tuples hx hy (by (first | lia | omega)) (key A hu)) fun q => ?_
  subst q
  obtain ⟨o, ho, _, k, hd⟩ := hx
  obtain ⟨o', ho', _, k', hd'⟩ := hy
  rw [ho] at ho'; cases ho'
  rw [hd] at hd'; injection hd' with hd' _
  have hv : vs = us := congrArg Array.toList hd'
  rw [Bool.and_eq_true, List.all_eq_true]
  refine ⟨fun j hj => ?_, by rw [hv]; exact beq_self_eq_true _⟩
  have hj : j < vs.length := by rw [hv] at hj ⊢; simpa using hj
  exact (h j _ _ (List.getElem?_eq_getElem hj) (by rw [← hv]; exact List.getElem?_eq_getElem hj)).same rfl
theorem eqN_snd (hi : ∀ p ∈ imm, s.heap.get? p.1 = some p.2) : ∀ (n : Nat) {u v : Value} {x y : V}, Rp imm u x → Rp imm v y → cmpOK n x y = true → EqN n s u v (veq n x y)
  | 0, u, v, x, y, h1, h2, hc => by
    cases x <;> cases y <;> first | exact absurd hc Bool.false_ne_true | skip
    · rw [rp_none h1, rp_none h2]; exact ⟨fun A _ => EqAt.same _, fun A _ => RcAt.none_none, fun A _ => RcNeAt.none_none, fun _ => rfl⟩
    · obtain ⟨t, rfl⟩ := rp_int h2; rw [rp_none h1]; exact ⟨fun A _ => EqAt.none_int _ _, fun A _ => RcAt.none_int _ _, fun A _ => RcNeAt.none_int _ _, fun e => nomatch e⟩
    · obtain ⟨t, rfl⟩ := rp_int h1; rw [rp_none h2]; exact ⟨fun A _ => EqAt.int_none _ _, fun A _ => RcAt.int_none _ _, fun A _ => RcNeAt.int_none _ _, fun e => nomatch e⟩
    · obtain ⟨t, rfl⟩ := rp_int h1; obtain ⟨t, rfl⟩ := rp_int h2; exact eqN_int _ _ _ _
    · obtain ⟨t, rfl⟩ := rp_bytes h1; obtain ⟨t, rfl⟩ := rp_bytes h2; exact eqN_bytes _ _ _ _
  | n + 1, u, v, x, y, h1, h2, hc => by
    have low : cmpOK n x y = true → veq (n + 1) x y = veq n x y → EqN (n + 1) s u v (veq (n + 1) x y) := fun hc e => e ▸ (eqN_snd hi n h1 h2 hc).mono (Nat.le_succ n)
    have el : ∀ {ds es : List V} {vs us : List Value}, Rps imm vs ds → Rps imm us es → zipA (cmpOK n) ds es = true → ∀ (j : Nat) (u v : Value), vs[j]? = some u → us[j]? = some v → EqN n s u v (at2 (veq n) ds es j) := by
      intro ds es vs us r1 r2 hz j u v hu hv
      have i1 : j < ds.length := by rw [← r1.length]; exact (List.getElem?_eq_some_iff.mp hu).1
      have i2 : j < es.length := by rw [← r2.length]; exact (List.getElem?_eq_some_iff.mp hv).1
      have e1 := List.getElem?_eq_getElem i1
      have e2 := List.getElem?_eq_getElem i2
      obtain ⟨u', hu', ru⟩ := r1.get e1
      obtain ⟨v', hv', rv⟩ := r2.get e2
      rw [hu] at hu'; cases hu'
      rw [hv] at hv'; cases hv'
      have := eqN_snd hi n ru rv (zipA_at hz e1 e2)
      unfold at2
      rw [e1, e2]
      exact this
    cases x with
    | tup ds => cases y with
      | tup es =>
        obtain ⟨a, vs, rfl, m1, r1⟩ := rp_tup h1
        obtain ⟨b, us, rfl, m2, r2⟩ := rp_tup h2
        exact eqN_tup ⟨_, hi _ m1, rfl, _, rfl⟩ ⟨_, hi _ m2, rfl, _, rfl⟩ r1.length r2.length (el r1 r2 hc)
      | _ => exact low hc rfl
    | list ds => cases y with
      | list es =>
        obtain ⟨a, vs, k, rfl, m1, r1⟩ := rp_list h1
        obtain ⟨b, us, k, rfl, m2, r2⟩ := rp_list h2
        exact eqN_list ⟨_, hi _ m1, rfl, _, rfl⟩ ⟨_, hi _ m2, rfl, _, rfl⟩ r1.length r2.length (el r1 r2 hc)
      | _ => exact low hc rfl
    | _ => exact low hc rfl
end
theorem isNone_snd {imm : Led} {v : Value} {d : V} {K : Bool → Prop} (h : Rp imm v d) (hq : isNone d K) : K (v == .none) := by
  cases h <;> first | exact hq | exact hq.elim
theorem intsV_snd {n : Led} : ∀ {l : List V} {ns : List Int} {vs : List Value}, intsV l = some ns → Rps n vs l → IntsAre vs ns
  | [], ns, vs, h, hr => by cases h; cases hr; exact .nil
  | u :: l, ns, vs, h, hr => by
    obtain ⟨n, rfl⟩ : ∃ n, u = .int n := by cases u with | int n => exact ⟨n, rfl⟩ | _ => first | exact no_some h | exact no_ft h | cases h
    cases hr with
    | cons h1 h2 =>
      obtain ⟨t, rfl⟩ := rp_int h1
      obtain ⟨ms, e, rfl⟩ := Option.map_eq_some_iff.mp (show (intsV l).map (n :: ·) = some ns from h)
      exact .cons _ _ (intsV_snd e h2)
section
variable {c : FC} {k : Nat} {m : Str → Option Value} {a : Po}
theorem units_ok (ok : c.Ok k) : c.A.units + 6 < cLine := by
  have h := ok.hu
  show c.un + 6 < cLine
  (first | lia | omega)
theorem cmpG_snd {op : CmpOp} {v1 v2 : Value} {d1 d2 : V} {Q : V → Mu → Prop} (ok : c.Ok k) (n : Nx c m a a) (h1 : Rp a.imm v1 d1) (h2 : Rp a.imm v2 d2) (hq : cmpG op d1 d2 fun z => Q (.bool z) a.μ) : Ev Rp c m a (compareOp op v1 v2) Q := by
  intro Q' E' post
  have fin : ∀ b, Q (.bool b) a.μ → Q' (.bool b) a.s := fun b h => ev_ret n (.bool b) h post a.s.toks
  cases op <;> first | exact hq.elim | skip
  · exact (eqN_snd (fun p hp => n.get hp) 6 h1 h2 hq.1).rc c.A (units_ok ok) _ _ _ _ (fin _ hq.2)
  · exact (eqN_snd (fun p hp => n.get hp) 6 h1 h2 hq.1).ne c.A (units_ok ok) _ _ _ _ (fin _ hq.2)
  · obtain ⟨rfl, hq⟩ := noneQ_ex hq
    rw [rp_none h2]
    exact is_none_gen (fin _ (isNone_snd (K := fun b => Q (.bool b) a.μ) h1 hq))
  · obtain ⟨rfl, hq⟩ := noneQ_ex hq
    rw [rp_none h2]
    exact isnot_none_gen (fin _ (isNone_snd (K := fun b => Q (.bool !b) a.μ) h1 hq))
theorem cmpT_ex {op : CmpOp} {i : Int} {l : List V} {K : Bool → Prop} (h : cmpT op i l K) : ∃ ns, intsV l = some ns ∧ ((op = .In ∧ K (ns.any (· == i))) ∨ (op = .NotIn ∧ K (!ns.any (· == i)))) := by
  unfold cmpT at h
  cases e : intsV l with
  | none => rw [e] at h; exact h.elim
  | some ns => rw [e] at h; refine ⟨ns, rfl, ?_⟩; cases op <;> first | exact .inl ⟨rfl, h⟩ | exact .inr ⟨rfl, h⟩ | exact h.elim
theorem cmpQ_ex {op : CmpOp} {x y : V} {K : Bool → Prop} (h : cmpQ op x y K) : (∃ i j, x = .int i ∧ y = .int j ∧ cmpI op i j K) ∨ (∃ i j, x = .bool i ∧ y = .bool j ∧ cmpE op (i == j) K) ∨ (∃ i l, x = .int i ∧ y = .tup l ∧ cmpT op i l K) ∨ cmpG op x y K := by
  cases x with
  | int i => cases y <;> first | exact .inl ⟨_, _, rfl, rfl, h⟩ | exact .inr (.inr (.inl ⟨_, _, rfl, rfl, h⟩)) | exact .inr (.inr (.inr h))
  | bool i => cases y <;> first | exact .inr (.inl ⟨_, _, rfl, rfl, h⟩) | exact .inr (.inr (.inr h))
  | _ => exact .inr (.inr (.inr h))
theorem cmpQ_snd {op : CmpOp} {v1 v2 : Value} {d1 d2 : V} {Q : V → Mu → Prop} (ok : c.Ok k) (n : Nx c m a a) (h1 : Rp a.imm v1 d1) (h2 : Rp a.imm v2 d2) (hq : cmpQ op d1 d2 fun z => Q (.bool z) a.μ) : Ev Rp c m a (compareOp op v1 v2) Q := by
  rcases cmpQ_ex hq with ⟨i, j, rfl, rfl, hz⟩ | ⟨i, j, rfl, rfl, hz⟩ | ⟨i, l, rfl, rfl, hz⟩ | hz
  · intro Q' E' post
    have fin : ∀ b, Q (.bool b) a.μ → Q' (.bool b) a.s := fun b h => ev_ret n (.bool b) h post a.s.toks
    obtain ⟨t, rfl⟩ := rp_int h1
    obtain ⟨u, rfl⟩ := rp_int h2
    cases op <;> first | exact hz.elim | skip
    · exact PyProof.Rows.eq_int (fin _ hz)
    · exact PyProof.Rows.ne_int (fin _ hz)
    · exact PyProof.Rows.lt_int (fin _ hz)
    · exact PyProof.Rows.le_int (fin _ hz)
    · exact PyProof.Rows.gt_int (fin _ hz)
    · exact PyProof.Rows.ge_int (fin _ hz)
  · intro Q' E' post
    have fin : ∀ b, Q (.bool b) a.μ → Q' (.bool b) a.s := fun b h => ev_ret n (.bool b) h post a.s.toks
    rw [rp_bool h1, rp_bool h2]
    cases op <;> first | exact hz.elim | skip
    · exact PyProof.Rows.eq_bool (fin _ hz)
    · exact PyProof.Rows.ne_bool (fin _ hz)
  · intro Q' E' post
    have fin : ∀ b, Q (.bool b) a.μ → Q' (.bool b) a.s := fun b h => ev_ret n (.bool b) h post a.s.toks
    obtain ⟨t, rfl⟩ := rp_int h1
    obtain ⟨x, vs, rfl, hm, hr⟩ := rp_tup h2
    obtain ⟨ns, e, hy⟩ := cmpT_ex hz
    have hi := intsV_snd e hr
    have ht := n.imms.isTup hm
    rcases hy with ⟨rfl, hy⟩ | ⟨rfl, hy⟩
    · exact in_tuple_ints ht hi (fin _ hy)
    · exact notin_tuple_ints ht hi (fin _ hy)
  · exact cmpG_snd ok n h1 h2 hz
theorem sub_plain {slice : Expr} {o i : Value} (h : notSlice slice = true) : subscripted slice false o i = operate [o, i] (getItem o i) := by
  cases slice <;> first | rfl | exact absurd h Bool.false_ne_true
theorem idx_some {l : List V} {i : Int} {v : V} (h : idx l i = some v) : 0 ≤ i ∧ i < (l.length : Int) ∧ l[i.toNat]? = some v := by
  unfold idx at h
  split at h
  · rename_i h0
    obtain ⟨hlt, -⟩ := List.getElem?_eq_some_iff.mp h
    exact ⟨h0, by (first | lia | omega), h⟩
  · first | exact no_some h | exact no_ft h | cases h
theorem seqIx0 {k : Int} {n : Nat} (h0 : 0 ≤ k) (h1 : k < (n : Int)) : seqIndex? k n = some k.toNat := by
  unfold seqIndex?
  simp [show ¬ k < 0 by (first | lia | omega), h0, h1]
theorem mr_cell {imm : Led} {μ : Mu} {ml : Led} (h : MR imm μ ml) {cl : Cell} (hc : cl ∈ μ) : ∃ l, CR imm cl l ∧ ∀ p ∈ l, p ∈ ml := by
  induction h with
  | nil => first | exact no_some hc | exact no_ft hc | cases hc
  | cons x _ ih =>
    rcases List.mem_cons.mp hc with rfl | hc
    · exact ⟨_, x, fun p hp => List.mem_append_left _ hp⟩
    · obtain ⟨l, a, b⟩ := ih hc
      exact ⟨l, a, fun p hp => List.mem_append_right _ (b p hp)⟩
theorem subQ_ex {μ : Mu} {x i : V} {K : V → Prop} (h : subQ μ x i K) : ∃ n, i = .int n ∧ ((∃ l, x = .tup l ∧ l.length ≤ 1000 ∧ ∃ v, idx l n = some v ∧ K v) ∨ (∃ l, x = .list l ∧ l.length ≤ 1000 ∧ ∃ v, idx l n = some v ∧ K v) ∨
    (∃ b, x = .bytes b ∧ (0 ≤ n ∧ b.length ≤ 100000) ∧ ∃ x, b[n.toNat]? = some x ∧ K (.int (x.toNat : Int))) ∨ (∃ a, x = .raw (.ref a) ∧ ∃ l : List V, Cell.lst a l ∈ μ ∧ l.length ≤ 1000 ∧ ∃ j v, seqIndex? n l.length = some j ∧ l[j]? = some v ∧ K v)) := by
  cases x with
  | tup l => obtain ⟨n, e, h⟩ := intQ_ex h; exact ⟨n, e, .inl ⟨_, rfl, h⟩⟩
  | list l => obtain ⟨n, e, h⟩ := intQ_ex h; exact ⟨n, e, .inr (.inl ⟨_, rfl, h⟩)⟩
  | bytes l => obtain ⟨n, e, h⟩ := intQ_ex h; exact ⟨n, e, .inr (.inr (.inl ⟨_, rfl, h⟩))⟩
  | raw r =>
    obtain ⟨n, e, h⟩ := intQ_ex h
    cases r <;> first | exact h.elim | exact ⟨n, e, .inr (.inr (.inr ⟨_, rfl, h⟩))⟩
  | _ => exact h.elim
theorem item_L {value slice : Expr} {x : Addr} {vs : List Value} {n : Int} {t : Tok} {j : Nat} {u : Value} {Q' E' : Value → Shared → Prop} {s : Shared} (hL : s.heap.IsList x vs.toArray) (hz : vs.length ≤ 1000) (hi : seqIndex? n vs.length = some j) (hu : vs[j]? = some u) (hs : notSlice slice = true) (h : Q' u s) :
    wpAny c.M c.A (subscriptTail value slice (.ref x) (.int n t)) Q' E' s := by
  refine tail_any hL.typeIs slot_list_getitem.lookup ?_ (sub_plain hs)
  have hj := (List.getElem?_eq_some_iff.mp hu).1
  unfold seqIndex? at hi
  by_cases h0 : n < 0
  · have e : j = (n + vs.length).toNat ∧ 0 ≤ n + vs.length := by simp [h0] at hi; (first | lia | omega)
    refine wpAny_getItem_list_neg hL h0 (by rw [List.size_toArray]; (first | lia | omega)) (by (first | lia | omega)) ?_ h
    rw [List.size_toArray, ← e.1]; simpa using hu
  · have e : j = n.toNat := by simp [h0] at hi; (first | lia | omega)
    refine wpAny_getItem_list hL (by (first | lia | omega)) (by (first | lia | omega)) ?_ h
    rw [← e]; simpa using hu
theorem idx_seq {l : List V} {n : Int} {v : V} (h : idx l n = some v) : seqIndex? n l.length = some n.toNat ∧ l[n.toNat]? = some v :=
  have ⟨a, b, d⟩ := idx_some h
  ⟨seqIx0 a b, d⟩
theorem subQ_snd {value slice : Expr} {v1 v2 : Value} {d1 d2 : V} {Q : V → Mu → Prop} (n : Nx c m a a) (h1 : Rp a.imm v1 d1) (h2 : Rp a.imm v2 d2)
    (hs : notSlice slice = true) (hq : subQ a.μ d1 d2 fun z => Q z a.μ) : Ev Rp c m a (subscriptTail value slice v1 v2) Q := by
  intro Q' E' post
  obtain ⟨i, rfl, hz⟩ := subQ_ex hq
  obtain ⟨t, rfl⟩ := rp_int h2
  have fin : ∀ u v, Rp a.imm u v → Q v a.μ → Q' u a.s := fun u v hr h => ev_ret n hr h post a.s.toks
  rcases hz with ⟨l, rfl, hl, v, hi, hv⟩ | ⟨l, rfl, hl, v, hi, hv⟩ | ⟨l, rfl, ⟨n0, hl⟩, x, hx, hv⟩ | ⟨x, rfl, l, hc, hl, j, v, hi, hg, hv⟩
  · obtain ⟨x, vs, rfl, hm, r⟩ := rp_tup h1
    obtain ⟨i0, i1, hg⟩ := idx_some hi
    obtain ⟨u, hu, hr⟩ := r.get hg
    have e := r.length
    exact item_tupleT (n.imms.isTup hm) (by (first | lia | omega)) (by (first | lia | omega)) (seqIx0 i0 (by (first | lia | omega))) hu (fin _ _ hr hv) (sub_plain hs)
  · obtain ⟨x, vs, k', rfl, hm, r⟩ := rp_list h1
    obtain ⟨i0, hg⟩ := idx_seq hi
    obtain ⟨u, hu, hr⟩ := r.get hg
    exact item_L (n.imms.isList hm) (by rw [r.length]; exact hl) (by rw [r.length]; exact i0) hu hs (fin _ _ hr hv)
  · obtain ⟨u, rfl⟩ := rp_bytes h1
    obtain ⟨hlt, hxe⟩ := List.getElem?_eq_some_iff.mp hx
    exact bytes_item_K (by (first | lia | omega)) n0 (by (first | lia | omega)) rfl (ev_ret n (.int _ _) (by rw [List.getD_eq_getElem?_getD, hx]; exact hv) post _) (sub_plain hs) (fun _ => by cases value <;> rfl)
  · first | exact no_some h1 | exact no_ft h1 | cases h1
    obtain ⟨ml, N⟩ := n.N
    obtain ⟨cl, ⟨vs, k', rfl, r⟩, hs'⟩ := mr_cell N.r hc
    obtain ⟨u, hu, hr⟩ := r.get hg
    exact item_L (N.n.isList (List.mem_append_left _ (hs' _ (.head _)))) (by rw [r.length]; exact hl) (by rw [r.length]; exact hi) hu hs (fin _ _ hr hv)
end
set_option tactic.hygienic true
theorem ents_get : ∀ {js : List Nat} {vs : List Value} {es : List DictEntry} {i : Nat} {j : Nat} {v : Value}, Ents js vs es → (js.map atN).Nodup → js[i]? = some j → vs[i]? = some v → getL (atN j) es = some (some v)
  | [], _, _, _, _, _, _, _, h, _ => by cases h
  | _ :: _, [], _, _, _, _, _, _, _, h => by cases h
  | _ :: _, _ :: _, [], _, _, _, h, _, _, _ => h.elim
  | j0 :: js, v0 :: vs, e :: es, 0, j, v, h, _, hj, hv => by
    obtain ⟨⟨hh, t, rfl⟩, _⟩ := h
    cases hj; cases hv
    unfold getL
    rw [List.find?_cons_of_pos (by simp [Value.isStr])]
  | j0 :: js, v0 :: vs, e :: es, i + 1, j, v, h, nd, hj, hv => by
    obtain ⟨⟨hh, t, rfl⟩, h2⟩ := h
    rw [List.map_cons, List.nodup_cons] at nd
    have hne : atN j0 ≠ atN j := fun q => nd.1 (q ▸ List.mem_map_of_mem (List.mem_of_getElem? hj))
    have ih := ents_get h2 nd.2 (i := i) hj hv
    unfold getL at ih ⊢
    rw [List.find?_cons_of_neg (by simp [Value.isStr, hne])]
    revert ih
    cases es.find? fun x => x.key.isStr (atN j) with
    | some e => exact id
    | none => dsimp only; intro ih; split at ih <;> cases ih
theorem ents_none : ∀ {js : List Nat} {vs : List Value} {es : List DictEntry} {j : Nat}, Ents js vs es → (∀ i ∈ js, atN i ≠ atN j) → getL (atN j) es = some none
  | [], [], [], _, _, _ => rfl
  | [], [], _ :: _, _, h, _ => h.elim
  | [], _ :: _, _, _, h, _ => h.elim
  | _ :: _, [], _, _, h, _ => h.elim
  | _ :: _, _ :: _, [], _, h, _ => h.elim
  | j0 :: js, v0 :: vs, e :: es, j, h, nd => by
    obtain ⟨⟨hh, t, rfl⟩, h2⟩ := h
    have ih := ents_none h2 fun i hi => nd i (.tail _ hi)
    unfold getL at ih ⊢
    rw [List.find?_cons_of_neg (by simp [Value.isStr, nd j0 (.head _)])]
    revert ih
    cases es.find? fun x => x.key.isStr (atN j) with
    | some e => exact id
    | none =>
      dsimp only
      exact id
noncomputable def attOK (K : Frag) (C : Addr) (j : Nat) : Bool := hasDictIn K C && plainGet K C (atN j) && (match findIn K (.ref C) (atN j) with | some a => noGet K a | none => false)
noncomputable def clsOK (K : Frag) (p : Addr × List Nat) : Bool := p.2.all (attOK K p.1) && decide ((p.2.map atN).Nodup)
noncomputable def mthOK (K : Frag) (p : (Addr × Nat) × Addr) : Bool :=
  plainGet K p.1.1 (atN p.1.2) && findIn K (.ref p.1.1) (atN p.1.2) == some (some (.ref p.2)) && isFn K (.ref p.2) && keepIn K (.ref p.2) && (match cTab.lookup p.1.1 with | some fs => fs.all fun i => !(atN i == atN p.1.2) | none => false)
theorem cls_ok (P : Params) : cTab.all (clsOK (Mine.hd.heap_1 P)) = true := by rfl
theorem mth_ok (P : Params) : mTab.all (mthOK (Mine.hd.heap_1 P)) = true := by rfl
theorem lookup_mem {α β : Type} [BEq α] [LawfulBEq α] {a : α} {b : β} : ∀ {l : List (α × β)}, l.lookup a = some b → (a, b) ∈ l
  | [], h => by cases h
  | (x, y) :: l, h => by
    rw [List.lookup_cons] at h
    split at h
    · rename_i e; cases h; rw [eq_of_beq e]; exact .head _
    · exact .tail _ (lookup_mem h)
theorem idxOf_some {j : Nat} : ∀ {l : List Nat} {i : Nat}, l.idxOf? j = some i → l[i]? = some j := by
  intro l i h
  rw [List.idxOf?, List.findIdx?_eq_some_iff_getElem] at h
  obtain ⟨hlt, he, _⟩ := h
  rw [List.getElem?_eq_getElem hlt]
  exact congrArg some (eq_of_beq he)
structure SC (cs : Scope) (ns : List Str) : Prop where
  loc : ∀ x ∈ ns, cs.names.lookup x = some .local
  nd : ns.Nodup
  dbg : ∀ x ∈ ns, (x == ("__debug__" : Str)) = false
noncomputable def LocOK (ns : List Str) (imm : Led) (m : Str → Option Value) (ρ : List V) : Prop := ∀ (i : Nat) (x : Str), ns[i]? = some x → lget ρ i = .un ∨ ∃ v, m x = some v ∧ Rp imm v (lget ρ i)
structure Cx (c : FC) (m : Str → Option Value) (ρ : List V) (a : Po) : Prop where
  sc : SC c.cs c.ns
  ok : c.Ok c.k
  lo : LocOK c.ns a.imm m ρ
  nx : Nx c m a a
theorem LocOK.mono {ns : List Str} {imm imm' : Led} {m : Str → Option Value} {ρ : List V} (h : LocOK ns imm m ρ) (hs : ∀ p ∈ imm, p ∈ imm') : LocOK ns imm' m ρ :=
  fun i x hx => (h i x hx).imp id fun ⟨v, a, b⟩ => ⟨v, a, b.mono hs⟩
theorem Nx.here {c : FC} {m : Str → Option Value} {a b : Po} (n : Nx c m a b) : Nx c m b b := ⟨fun _ h => h, n.F, n.N, rfl⟩
theorem Cx.next {c : FC} {m : Str → Option Value} {ρ : List V} {a b : Po} (cx : Cx c m ρ a) (n : Nx c m a b) : Cx c m ρ b := ⟨cx.sc, cx.ok, cx.lo.mono n.hs, n.here⟩
section
variable {c : FC} {k : Nat} {m : Str → Option Value} {ρ : List V} {a : Po}
theorem attrQ_ex {x : V} {j : Nat} {K : V → Prop} (h : attrQ x j K) : ∃ C l fs i v, x = .inst C l ∧ cTab.lookup C = some fs ∧ fs.idxOf? j = some i ∧ l[i]? = some v ∧ K v := by
  cases x with
  | inst C l =>
    replace h : (match cTab.lookup C with
      | some fs => (match fs.idxOf? j with
        | some i => (match l[i]? with | some v => K v | none => False)
        | none => False)
      | none => False) := h
    cases e1 : cTab.lookup C with
    | none => rw [e1] at h; exact h.elim
    | some fs =>
      rw [e1] at h; dsimp only at h
      cases e2 : fs.idxOf? j with
      | none => rw [e2] at h; exact h.elim
      | some i =>
        rw [e2] at h; dsimp only at h
        cases e3 : l[i]? with
        | none => rw [e3] at h; exact h.elim
        | some v => rw [e3] at h; exact ⟨C, l, fs, i, v, rfl, e1, e2, e3, h⟩
  | _ => exact h.elim
theorem attr_snd {v1 : Value} {d1 : V} {j : Nat} {Q : V → Mu → Prop} (ok : c.Ok k) (n : Nx c m a a) (h1 : Rp a.imm v1 d1) (hq : attrQ d1 j fun z => Q z a.μ) : Ev Rp c m a (getAttr v1 (atN j) true) Q := by
  intro Q' E' post
  obtain ⟨C, l, fs, i, d, rfl, e1, e2, e3, hz⟩ := attrQ_ex hq
  cases h1 with
  | inst m1 m2 m3 r =>
    obtain ⟨fs', e1', en, hh⟩ := m3
    obtain rfl : fs' = fs := Option.some.inj (e1'.symm.trans e1)
    obtain ⟨v, hv, hr⟩ := r.get e3
    have hj := idxOf_some e2
    have hc := and_ex (List.all_eq_true.mp (cls_ok c.w.params) (C, fs') (lookup_mem e1))
    have ha := and_ex (List.all_eq_true.mp hc.1 j (List.mem_of_getElem? hj))
    have ha1 := and_ex ha.1
    have a3 := ha.2
    split at a3
    · rename_i z ea
      exact get_own n.F ok.X (InstAt.of_news n.imms m1 m2) ha1.2 ha1.1 ea a3 (ents_get en (of_decide_eq_true hc.2) hj hv) (hh v (List.mem_of_getElem? hv)) (ev_ret n hr hz post _)
    · cases a3
theorem gt_ok {w : World} {j : Nat} (h : j < gtab.length) : gchk (Mine.hd.heap_1 w.params) (gtL j) = true := by
  have h1 := List.all_eq_true.mp (gtab_ok w.params) (gtL j)
  refine h1 ?_
  unfold gtL
  rw [List.getD_eq_getElem?_getD, List.getElem?_eq_getElem h]
  exact List.getElem_mem h
theorem vOf_rp {imm : Led} {v : Value} {d : V} (h : vOf v d = true) : Rp imm v d := by
  unfold vOf at h
  split at h
  · split at h
    · rw [beq_iff_eq] at h; subst h; exact .int _ _
    · first | exact no_some h | exact no_ft h | cases h
  · rw [beq_iff_eq] at h; subst h; exact .raw _
  · first | exact no_some h | exact no_ft h | cases h
theorem glbE_snd {env : Env} {j : Nat} {x : Str} {pos : Pos} {Q' E' : Value → Shared → Prop} {s : Shared} (ok : c.Ok k) (F : Fr c.h₀ c.L s.heap m) (he : env.globals = mainGlobals) (hb : env.builtins = builtinsNs) (hk : env.scope.kind = .function) (hl : env.kindOf x = some .globalImplicit)
    (hj : j < gtab.length) (hx : x = Str.ofString (gtL j).1) (post : ∀ v, vOf v (gtL j).2.1 = true → Q' v s) : wpAny c.M c.A (eval (.Name x pos) env) Q' E' s := by
  have g := gt_ok (w := c.w) hj
  unfold gchk at g
  rw [← hx] at g
  obtain ⟨g0, g⟩ := and_ex g
  have hd : (x == ("__debug__" : Str)) = false := by
    cases h : x == ("__debug__" : Str) with
    | false => rfl
    | true => rw [h] at g0; cases g0
  have T := topRead_of ok.T
  have Tg : s.heap.Ns env.globals c.mg := he ▸ T.g.keeps F.keep
  split at g
  · replace g := (and_ex g).1
    split at g
    · rename_i v e
      exact Name_function_global hk hl (loadGlobal_global Tg (mg_of ok.X T.g e) (post v g)) hd
    · cases g
  · obtain ⟨g, g3⟩ := and_ex g
    obtain ⟨g1, g2⟩ := and_ex g
    split at g3
    · rename_i v hv
      have hn : x ≠ "__name__" := fun e => by rw [e] at g2; exact absurd g2 (by decide)
      refine Name_function_global hk hl (loadGlobal_builtin Tg (mg_none_of ok.X T.g (eq_of_beq g1)) (show s.heap.Ns env.builtins c.mb from hb ▸ T.b.keeps F.keep) ((T.builtins x hn).trans (eq_of_beq (and_ex g3).1)) (post v ?_)) hd
      rw [hv]; exact beq_self_eq_true v
    · cases g3
theorem glb_snd {j : Nat} {x : Str} {pos : Pos} {Q' E' : Value → Shared → Prop} (cx : Cx c m ρ a) (hg : gnm c.cs j x = true) (post : ∀ v, vOf v (gtL j).2.1 = true → Q' v a.s) : wpAny c.M c.A (eval (.Name x pos) c.env) Q' E' a.s := by
  obtain ⟨hj, hg⟩ := and_ex hg
  obtain ⟨hx, hk⟩ := and_ex hg
  exact glbE_snd cx.ok cx.nx.F rfl rfl cx.ok.kind (eq_of_beq hk) (of_decide_eq_true hj) (eq_of_beq hx) post
theorem star_no {e : Expr} {es : List Expr} {env : Env} (h : notStar e = true) : starEach (e :: es) env = (false, eval e env) :: starEach es env := by
  cases e <;> first | rfl | cases h
theorem spl_star {cs : Scope} {ns : List Str} : ∀ {as : X} {args : List Expr} {p : Pos}, chk cs ns as false (.Tuple args 0 p) = true → ∀ (env : Env) (pos : Pos), (backTo pos (starEach args env)).any (·.1) = false := by
  intro as
  induction as with
  | nil =>
    intro args p h env pos
    have h := (and_ex h).2
    obtain rfl : args = [] := List.isEmpty_iff.mp h
    rfl
  | cons a as _ ih =>
    intro args p h env pos
    obtain ⟨z, hz, h⟩ := any_ex (show ((unc args).any fun z => notStar z.1 && (chk cs ns a true z.1 && chk cs ns as false (.Tuple z.2 0 p))) = true from (and_ex h).2)
    obtain ⟨h1, h⟩ := and_ex h
    have ih := ih (and_ex h).2 env pos
    rw [unc_eq hz, star_no h1]
    simpa [backTo] using ih
  | _ => intro args p h; exact absurd h Bool.false_ne_true
noncomputable def isBI : Value → Bool
  | .builtin _ => true
  | .type _ => true
  | _ => false
theorem g_keep {w : World} {cs : Scope} {x : Str} {j : Nat} {u : Value} (hg : gnm cs j x = true) (hu : (gtL j).2.1 = .raw u) : keepIn (Mine.hd.heap_1 w.params) u = true ∨ isBI u = true := by
  have g := gt_ok (w := w) (of_decide_eq_true (and_ex hg).1)
  unfold gchk at g
  replace g := (and_ex g).2
  rw [hu] at g
  split at g
  · exact .inl (and_ex g).2
  · exact .inr (and_ex (and_ex g).2).2
theorem args_plain {M : Model} {A : Around} {E : Value → Shared → Prop} {s : Shared} {v : Value} {l : List (Bool × Sem Value)} {Q : Args → Shared → Prop} (hst : l.any (·.1) = false) (h : wpAny M A (spliced l) (fun vs s' => Q ⟨vs, []⟩ s') E s) : wpAny M A (evalArgs v true l []) Q E s := by
  cases l with
  | nil =>
    unfold evalArgs
    show wpAny M A (spliced [] >>= _) _ _ s
    refine wpAny_bind (wpAny_mono h (fun vs s' h' => wpAny_bind (wpAny_pure ?_)) fun _ _ x => x)
    refine wpAny_holding ?_
    exact wpAny_bind (wpAny_pure (wpAny_bind (wpAny_pure (wpAny_pure h'))))
  | cons a l =>
    obtain ⟨b, x⟩ := a
    have : b = false := by cases b with
      | false => rfl
      | true => exact absurd hst (by rw [List.any_cons]; exact Bool.noConfusion)
    subst this
    exact evalArgs_plain h
theorem callW_snd {v : Value} {first : List Value} {pos : Pos} {l : List (Bool × Sem Value)} {Q' E' : Value → Shared → Prop} {s : Shared} (hf : keepIn c.K v = true ∨ isBI v = true) (hst : l.any (·.1) = false)
    (h : wpAny c.M c.A (spliced l) (fun vs s₁ => c.K.In s₁.heap ∧ wpAny c.M c.A (call v (first ++ vs)) Q' E' s₁) E' s) : wpAny c.M c.A (callWith pos v first l []) Q' E' s := by
  have hargs : wpAny c.M c.A (evalArgs v true l []) (fun a s₁ => c.K.In s₁.heap ∧ wpAny c.M c.A (call v (first ++ a.pos) a.kw) Q' E' s₁) E' s := args_plain hst h
  rcases hf with hf | hf
  · exact callWith_of (by rw [hst]; rfl) (keeps_K hf) hargs
  · have hargs' := wpAny_mono hargs (fun a s₁ h => h.2) fun _ _ x => x
    cases v with
    | builtin id => exact callWith_builtin hst hargs'
    | type T => exact PyProof.Rows.callWith_type hst hargs'
    | _ => exact absurd hf Bool.false_ne_true
end
set_option tactic.hygienic false
noncomputable def RT (n : Nat) (imm : Led) (vs : List Value) (d : V) : Prop := ∃ ds, d = .tup ds ∧ Rps imm vs ds ∧ vs.length = n
noncomputable def REq (_ : Led) (a b : Bool) : Prop := a = b
noncomputable def P1 (x : X) : Prop := ∀ (c : FC) (m : Str → Option Value) (ρ : List V) (a : Po) (Q : V → Mu → Prop) (e : Expr), chk c.cs c.ns x true e = true → Cx c m ρ a → wE c.w c.k x ρ a.μ Q → Ev Rp c m a (eval e c.env) Q
noncomputable def P2 (x : X) : Prop := ∀ (c : FC) (m : Str → Option Value) (ρ : List V) (a : Po) (Q : Bool → Mu → Prop) (e : Expr) (whole : Sem Value), chk c.cs c.ns x true e = true → whole = eval e c.env → Cx c m ρ a →
  (wE c.w c.k x ρ a.μ fun v μ' => truthQ v fun b => Q b μ') → Ev REq c m a (isTrue e c.env whole) Q
noncomputable def P3 (x : X) : Prop := ∀ (c : FC) (m : Str → Option Value) (ρ : List V) (a : Po) (Q : V → Mu → Prop) (es : List Expr) (p pos : Pos), chk c.cs c.ns x false (.Tuple es 0 p) = true → Cx c m ρ a → wE c.w c.k x ρ a.μ Q →
  Ev (RT es.length) c m a (spliced (backTo pos (starEach es c.env))) Q
noncomputable def plainT : Expr → Bool
  | .UnaryOp .Not _ _ => false
  | .BoolOp .. => false
  | .IfExp .. => false
  | .Compare .. => false
  | _ => true
theorem isTrue_plainT {e : Expr} {env : Env} {whole : Sem Value} (h : plainT e = true) : isTrue e env whole = (do let v ← whole; standAt e.pos; holding [v] (truthy v)) := by
  cases e with
  | UnaryOp op a p => cases op <;> first | rfl | cases h
  | _ => first | rfl | cases h
section
variable {c : FC} {m : Str → Option Value} {ρ : List V} {a : Po}
theorem truth_snd {v : Value} {d : V} {K : Bool → Prop} {Q' : Bool → Shared → Prop} {E' : Value → Shared → Prop} {s : Shared} {imm : Led} (hr : Rp imm v d) (hq : truthQ d K) (post : ∀ b, K b → v = .bool b → Q' b s) : wpAny c.M c.A (truthy v) Q' E' s := by
  obtain ⟨b, rfl, hq⟩ := truthQ_ex hq
  rw [rp_bool hr]
  exact wpAny_truthy_bool (post b hq (rp_bool hr))
end
theorem p2_plain {x : X} (h1 : P1 x) (hp : ∀ cs ns e, chk cs ns x true e = true → plainT e = true) : P2 x := by
  intro c m ρ a Q e whole hc hw cx hq Q' E' post
  subst hw
  refine isTrue_plain (h1 c m ρ a _ e hc cx hq _ E' fun v d b hq' hr n => ?_) (isTrue_plainT (hp _ _ _ hc))
  exact truth_snd (c := c) hr hq' fun t hb _ => post t t b hb rfl n
theorem p1_var (i : Nat) : P1 (.var i) := by
  intro c m ρ a Q e h0 cx hq Q' E' post
  obtain ⟨x, hx, hc⟩ := any_ex h0
  obtain ⟨p, rfl⟩ := uName_eq hx
  have hc' : c.ns[i]? = some x := eq_of_beq hc
  replace hq : (match lget ρ i with | .un => False | v => Q v a.μ) := hq
  rcases cx.lo i x hc' with h | ⟨v, hv, hr⟩
  · rw [h] at hq; exact hq.elim
  · have hm := List.mem_of_getElem? hc'
    refine nameX_L cx.nx.F hv ?_ cx.ok.kind (cx.sc.loc x hm) (cx.sc.dbg x hm)
    refine post v (lget ρ i) a ?_ hr cx.nx
    revert hq
    cases lget ρ i <;> first | exact id | exact False.elim
theorem p1_glb (j : Nat) : P1 (.glb j) := by
  intro c m ρ a Q e h0 cx hq Q' E' post
  obtain ⟨x, hx, hc⟩ := any_ex h0
  obtain ⟨p, rfl⟩ := uName_eq hx
  exact glb_snd cx hc fun v hv => post v _ a hq (vOf_rp hv) cx.nx
theorem p1_cint (i : Int) : P1 (.cint i) := by
  intro c m ρ a Q e hc cx hq Q' E' post
  obtain ⟨k, p, rfl⟩ := uConst_eq (eq_of_beq (show (uConst e == some (.int i)) = true from hc))
  exact wpAny_Constant_int (ev_ret cx.nx (.int _ _) hq post _)
theorem p1_cbytes (i : List UInt8) : P1 (.cbytes i) := by
  intro c m ρ a Q e hc cx hq Q' E' post
  obtain ⟨k, p, rfl⟩ := uConst_eq (eq_of_beq (show (uConst e == some (.bytes i)) = true from hc))
  exact fun _ _ _ => ev_ret cx.nx (.bytes _ _) hq post _
theorem p1_cstr (j : Nat) : P1 (.cstr j) := by
  intro c m ρ a Q e hc cx hq Q' E' post
  obtain ⟨k, p, rfl⟩ := uConst_eq (eq_of_beq (show (uConst e == some (.str (stN j))) = true from hc))
  exact fun _ _ _ => ev_ret cx.nx (.str _ _) hq post _
theorem p1_cnone : P1 .cnone := by
  intro c m ρ a Q e hc cx hq Q' E' post
  obtain ⟨k, p, rfl⟩ := uConst_eq (eq_of_beq (show (uConst e == some .none) = true from hc))
  exact fun _ _ _ => ev_ret cx.nx .none hq post _
theorem p1_cbool (b : Bool) : P1 (.cbool b) := by
  intro c m ρ a Q e hc cx hq Q' E' post
  obtain ⟨k, p, rfl⟩ := uConst_eq (eq_of_beq (show (uConst e == some (.bool b)) = true from hc))
  exact fun _ _ _ => ev_ret cx.nx (.bool _) hq post _
theorem p1_bin {op : Operator} {x y : X} (hx : P1 x) (hy : P1 y) : P1 (.bin op x y) := by
  intro c m ρ a Q e h0 cx hq Q' E' post
  obtain ⟨⟨l, o, r⟩, hu, hc⟩ := any_ex h0
  obtain ⟨p, rfl⟩ := uBin_eq hu; clear h0 hu
  obtain ⟨h1, hc⟩ := and_ex hc
  obtain ⟨h2, h3⟩ := and_ex hc
  obtain rfl : op = o := eq_of_beq h1
  refine wpAny_BinOp (hx c m ρ a _ l h2 cx hq _ _ fun v1 d1 b1 q1 r1 n1 => ?_)
  refine hy c m ρ b1 _ r h3 (cx.next n1) q1 _ _ fun v2 d2 b2 q2 r2 n2 => ?_
  exact binQ_snd n2.here (r1.mono n2.hs) r2 q2 _ _ fun v d b hq' hr n => post v d b hq' hr (n1.trans (n2.trans n))
theorem p1_neg {x : X} (hx : P1 x) : P1 (.neg x) := by
  intro c m ρ a Q e h0 cx hq Q' E' post
  obtain ⟨⟨o, l⟩, hu, hc⟩ := any_ex h0
  obtain ⟨p, rfl⟩ := uUn_eq hu; clear h0 hu
  obtain ⟨h1, h2⟩ := and_ex hc
  obtain rfl : o = .USub := eq_of_beq h1
  refine UnaryOp_ (hx c m ρ a _ l h2 cx hq _ _ fun v1 d1 b1 q1 r1 n1 => ?_)
  obtain ⟨i, rfl, q1⟩ := intQ_ex q1
  obtain ⟨t, rfl⟩ := rp_int r1
  exact PyProof.Rows.neg_int (ev_ret n1.here (.int _ _) q1 (fun v d b hq' hr n => post v d b hq' hr (n1.trans n)) _)
theorem p2_not {x : X} (hx : P2 x) : P2 (.not x) := by
  intro c m ρ a Q e whole h0 hw cx hq Q' E' post
  obtain ⟨⟨o, l⟩, hu, hc⟩ := any_ex h0
  obtain ⟨p, rfl⟩ := uUn_eq hu; clear h0 hu
  obtain ⟨h1, h2⟩ := and_ex hc
  obtain rfl : o = .Not := eq_of_beq h1
  refine isTrue_not (hx c m ρ a (fun b μ' => Q (!b) μ') l _ h2 rfl cx hq _ _ fun v1 d1 b1 q1 r1 n1 => ?_)
  cases r1
  exact post _ _ b1 q1 rfl n1
theorem p1_not {x : X} (hx : P1 x) : P1 (.not x) := by
  intro c m ρ a Q e h0 cx hq Q' E' post
  obtain ⟨⟨o, l⟩, hu, hc⟩ := any_ex h0
  obtain ⟨p, rfl⟩ := uUn_eq hu; clear h0 hu
  obtain ⟨h1, h2⟩ := and_ex hc
  obtain rfl : o = .Not := eq_of_beq h1
  refine UnaryOp_ (hx c m ρ a _ l h2 cx hq _ _ fun v1 d1 b1 q1 r1 n1 => ?_)
  exact not_of (truth_snd (c := c) r1 q1 fun b hb _ => post _ _ b1 hb (.bool _) n1)
theorem cmp_view {cs : Scope} {ns : List Str} {op : CmpOp} {x y : X} {e : Expr} (h : chk cs ns (.cmp op x y) true e = true) : ∃ l r p, e = .Compare l [op] [r] p ∧ behindInMarks op r = false ∧ chk cs ns x true l = true ∧ chk cs ns y true r = true := by
  obtain ⟨⟨l, os, rs⟩, hu, hc⟩ := any_ex h
  obtain ⟨p, rfl⟩ := uCmp_eq hu
  obtain ⟨o, ho, hc⟩ := any_ex hc
  obtain ⟨r, hr, hc⟩ := any_ex hc
  obtain rfl := one_eq ho
  obtain rfl := one_eq hr
  obtain ⟨h1, hc⟩ := and_ex hc
  obtain ⟨h2, hc⟩ := and_no hc
  obtain rfl : op = o := eq_of_beq h1
  exact ⟨l, r, p, rfl, h2, (and_ex hc).1, (and_ex hc).2⟩
theorem p1_cmp {op : CmpOp} {x y : X} (hx : P1 x) (hy : P1 y) : P1 (.cmp op x y) := by
  intro c m ρ a Q e hc cx hq Q' E' post
  obtain ⟨l, r, p, rfl, c0, h2, h3⟩ := cmp_view hc
  refine wpAny_Compare1 (hx c m ρ a _ l h2 cx hq _ _ fun v1 d1 b1 q1 r1 n1 => ?_) c0
  refine hy c m ρ b1 _ r h3 (cx.next n1) q1 _ _ fun v2 d2 b2 q2 r2 n2 => ?_
  exact cmpQ_snd cx.ok n2.here (r1.mono n2.hs) r2 q2 _ _ fun v d b hq' hr n => post v d b hq' hr (n1.trans (n2.trans n))
theorem p2_cmp {op : CmpOp} {x y : X} (hx : P1 x) (hy : P1 y) : P2 (.cmp op x y) := by
  intro c m ρ a Q e whole hc hw cx hq Q' E' post
  obtain ⟨l, r, p, rfl, c0, h2, h3⟩ := cmp_view hc
  refine wpAny_isTrue_Compare1 (hx c m ρ a _ l h2 cx hq _ _ fun v1 d1 b1 q1 r1 n1 => ?_) c0
  refine hy c m ρ b1 _ r h3 (cx.next n1) q1 _ _ fun v2 d2 b2 q2 r2 n2 => ?_
  refine cmpQ_snd (Q := fun v μ' => truthQ v fun b => Q b μ') cx.ok n2.here (r1.mono n2.hs) r2 q2 _ _ fun v d b hq' hr n => ?_
  exact truth_snd (c := c) hr hq' fun t hb _ => post t t b hb rfl (n1.trans (n2.trans n))
theorem cmp2_view {cs : Scope} {ns : List Str} {o1 o2 : CmpOp} {x y z : X} {e : Expr} (h : chk cs ns (.cmp2 o1 o2 x y z) true e = true) : ∃ l r r' p, e = .Compare l [o1, o2] [r, r'] p ∧ lastMarks [o1, o2] [r, r'] = false ∧ chk cs ns x true l = true ∧ chk cs ns y true r = true ∧ chk cs ns z true r' = true := by
  obtain ⟨⟨l, os, rs⟩, hu, hc⟩ := any_ex h
  obtain ⟨p, rfl⟩ := uCmp_eq hu
  obtain ⟨⟨p1, p2⟩, ho, hc⟩ := any_ex hc
  obtain ⟨⟨r, r'⟩, hr, hc⟩ := any_ex hc
  obtain rfl := two_eq ho
  obtain rfl := two_eq hr
  obtain ⟨h1, hc⟩ := and_ex hc
  obtain ⟨h2, hc⟩ := and_ex hc
  obtain ⟨h3, hc⟩ := and_no hc
  obtain rfl : o1 = p1 := eq_of_beq h1
  obtain rfl : o2 = p2 := eq_of_beq h2
  exact ⟨l, r, r', p, rfl, h3, (and_ex hc).1, (and_ex (and_ex hc).2).1, (and_ex (and_ex hc).2).2⟩
theorem p1_cmp2 {o1 o2 : CmpOp} {x y z : X} (hx : P1 x) (hy : P1 y) (hz : P1 z) : P1 (.cmp2 o1 o2 x y z) := by
  intro c m ρ a Q e hc cx hq Q' E' post
  obtain ⟨l, r, r', p, rfl, c0, h2, h3, h4⟩ := cmp2_view hc
  refine Compare_chain (hx c m ρ a _ l h2 cx hq _ _ fun v1 d1 b1 q1 r1 n1 => chain_link ?_) c0
  refine hy c m ρ b1 _ r h3 (cx.next n1) q1 _ _ fun v2 d2 b2 q2 r2 n2 => ?_
  refine cmpQ_snd (Q := fun v μ' => truthQ v fun t => brq t (wE c.w c.k z ρ μ' fun u μ₃ => cmpQ o2 d2 u fun z2 => Q (.bool z2) μ₃) (Q (.bool false) μ')) cx.ok n2.here (r1.mono n2.hs) r2 q2 _ _ fun v d b hq' hr n => ?_
  have n12 := n1.trans (n2.trans n)
  refine truth_snd (c := c) hr hq' fun t hb hv => ?_
  cases t with
  | false => exact post _ _ b hb (hv ▸ .bool _) n12
  | true =>
    refine chain_last (hz c m ρ b _ r' h4 (cx.next n12) hb _ _ fun v3 d3 b3 q3 r3 n3 => ?_)
    exact cmpQ_snd cx.ok n3.here (r2.mono (n.trans n3).hs) r3 q3 _ _ fun v d b hq' hr n => post v d b hq' hr (n12.trans (n3.trans n))
theorem p2_cmp2 {o1 o2 : CmpOp} {x y z : X} (hx : P1 x) (hy : P1 y) (hz : P1 z) : P2 (.cmp2 o1 o2 x y z) := by
  intro c m ρ a Q e whole hc hw cx hq Q' E' post
  obtain ⟨l, r, r', p, rfl, c0, h2, h3, h4⟩ := cmp2_view hc
  refine isTrue_chain (hx c m ρ a _ l h2 cx hq _ _ fun v1 d1 b1 q1 r1 n1 => test_link ?_) c0
  refine hy c m ρ b1 _ r h3 (cx.next n1) q1 _ _ fun v2 d2 b2 q2 r2 n2 => ?_
  refine cmpQ_snd (Q := fun v μ' => truthQ v fun t => brq t (wE c.w c.k z ρ μ' fun u μ₃ => cmpQ o2 d2 u fun z2 => Q z2 μ₃) (Q false μ')) cx.ok n2.here (r1.mono n2.hs) r2 q2 _ _ fun v d b hq' hr n => ?_
  have n12 := n1.trans (n2.trans n)
  refine truth_snd (c := c) hr hq' fun t hb hv => ?_
  cases t with
  | false => exact post _ _ b hb rfl n12
  | true =>
    refine test_last (hz c m ρ b _ r' h4 (cx.next n12) hb _ _ fun v3 d3 b3 q3 r3 n3 => ?_)
    refine cmpQ_snd (Q := fun v μ' => truthQ v fun b => Q b μ') cx.ok n3.here (r2.mono (n.trans n3).hs) r3 q3 _ _ fun v d b hq' hr n => ?_
    exact truth_snd (c := c) hr hq' fun t hb _ => post t t b hb rfl (n12.trans (n3.trans n))
theorem p1_ife {t x y : X} (ht : P2 t) (hx : P1 x) (hy : P1 y) : P1 (.ife t x y) := by
  intro c m ρ a Q e h0 cx hq Q' E' post
  obtain ⟨⟨et, ea, eb⟩, hu, hc⟩ := any_ex h0
  obtain ⟨p, rfl⟩ := uIf_eq hu; clear h0 hu
  obtain ⟨h1, hc⟩ := and_ex hc
  obtain ⟨h2, h3⟩ := and_ex hc
  refine IfExp_ (ht c m ρ a (fun z μ₁ => brq z (wE c.w c.k x ρ μ₁ Q) (wE c.w c.k y ρ μ₁ Q)) et _ h1 rfl cx hq _ _ fun v1 d1 b1 q1 r1 n1 => ?_)
  cases r1
  cases v1 with
  | true => exact hx c m ρ b1 _ ea h2 (cx.next n1) q1 _ _ fun v d b hq' hr n => post v d b hq' hr (n1.trans n)
  | false => exact hy c m ρ b1 _ eb h3 (cx.next n1) q1 _ _ fun v d b hq' hr n => post v d b hq' hr (n1.trans n)
theorem p2_ife {t x y : X} (ht : P2 t) (hx : P2 x) (hy : P2 y) : P2 (.ife t x y) := by
  intro c m ρ a Q e whole h0 hw cx hq Q' E' post
  obtain ⟨⟨et, ea, eb⟩, hu, hc⟩ := any_ex h0
  obtain ⟨p, rfl⟩ := uIf_eq hu; clear h0 hu
  obtain ⟨h1, hc⟩ := and_ex hc
  obtain ⟨h2, h3⟩ := and_ex hc
  refine isTrue_IfExp (ht c m ρ a (fun z μ₁ => brq z (wE c.w c.k x ρ μ₁ fun v μ' => truthQ v fun b => Q b μ') (wE c.w c.k y ρ μ₁ fun v μ' => truthQ v fun b => Q b μ')) et _ h1 rfl cx hq _ _ fun v1 d1 b1 q1 r1 n1 => ?_)
  cases r1
  cases v1 with
  | true => exact hx c m ρ b1 _ ea _ h2 rfl (cx.next n1) q1 _ _ fun v d b hq' hr n => post v d b hq' hr (n1.trans n)
  | false => exact hy c m ρ b1 _ eb _ h3 rfl (cx.next n1) q1 _ _ fun v d b hq' hr n => post v d b hq' hr (n1.trans n)
theorem bsp_eq {o : BoolOp} {l : List Expr} {p : Pos} {z : Expr × Expr} (h : bsp o l p = some z) : ∃ y rest, l = z.1 :: y :: rest ∧ ((rest = [] ∧ z.2 = y) ∨ (rest ≠ [] ∧ z.2 = .BoolOp o (y :: rest) p)) := by
  unfold bsp at h
  match l, h with
  | [_, _], h => cases h; exact ⟨_, [], rfl, .inl ⟨rfl, rfl⟩⟩
  | _ :: _ :: _ :: _, h => cases h; exact ⟨_, _ :: _, rfl, .inr ⟨(fun e => nomatch e), rfl⟩⟩
theorem bool_view {cs : Scope} {ns : List Str} {op : BoolOp} {x y : X} {e : Expr} (h : ((uBool e).any fun w => w.1 == op && (bsp w.1 w.2.1 w.2.2).any fun z => chk cs ns x true z.1 && chk cs ns y true z.2) = true) :
    ∃ l r rest pos, e = .BoolOp op (l :: r :: rest) pos ∧ chk cs ns x true l = true ∧ ((rest = [] ∧ chk cs ns y true r = true) ∨ (rest ≠ [] ∧ chk cs ns y true (.BoolOp op (r :: rest) pos) = true)) := by
  obtain ⟨⟨o, l, p⟩, hu, hc⟩ := any_ex h
  obtain ⟨h1, h2⟩ := and_ex hc
  obtain ⟨z, hz, h3⟩ := any_ex h2
  obtain ⟨r, rest, hl, hr⟩ := bsp_eq hz
  have e1 : o = op := eq_of_beq h1
  have h4 := (and_ex h3).2
  refine ⟨z.1, r, rest, p, by rw [uBool_eq hu, ← e1, ← show l = z.1 :: r :: rest from hl], (and_ex h3).1, ?_⟩
  rcases hr with ⟨q1, q2⟩ | ⟨q1, q2⟩
  · exact .inl ⟨q1, q2 ▸ h4⟩
  · exact .inr ⟨q1, by rw [← e1]; rw [q2] at h4; exact h4⟩
theorem eval_last {c : FC} {m : Str → Option Value} {ρ : List V} {a : Po} {Q : V → Mu → Prop} {b : X} {op : BoolOp} {y : Expr} {rest : List Expr} {pos : Pos} (hb : P1 b) (cx : Cx c m ρ a)
    (hc : (rest = [] ∧ chk c.cs c.ns b true y = true) ∨ (rest ≠ [] ∧ chk c.cs c.ns b true (.BoolOp op (y :: rest) pos) = true)) (hq : wE c.w c.k b ρ a.μ Q) : Ev Rp c m a (eval (.BoolOp op (y :: rest) pos) c.env) Q := by
  rcases hc with ⟨rfl, hc⟩ | ⟨_, hc⟩
  · exact hb c m ρ a Q y hc cx hq
  · exact hb c m ρ a Q _ hc cx hq
theorem p1_band {x y : X} (hx : P1 x) (hy : P1 y) : P1 (.band x y) := by
  intro c m ρ a Q e h0 cx hq Q' E' post
  obtain ⟨l, r, rest, pos, rfl, ca, cb⟩ := bool_view h0; clear h0
  refine BoolOp_and (hx c m ρ a _ l ca cx hq _ _ fun v1 d1 b1 q1 r1 n1 => ?_)
  refine truth_snd (c := c) r1 q1 fun t hb hv => ?_
  cases t with
  | false => exact post v1 _ b1 hb (hv ▸ .bool _) n1
  | true =>
    refine eval_last hy (cx.next n1) cb hb _ _ fun v2 d2 b2 q2 r2 n2 => ?_
    obtain ⟨u, rfl, q2⟩ := truthQ_ex q2
    exact post _ _ b2 q2 r2 (n1.trans n2)
theorem p1_bor {x y : X} (hx : P1 x) (hy : P1 y) : P1 (.bor x y) := by
  intro c m ρ a Q e h0 cx hq Q' E' post
  obtain ⟨l, r, rest, pos, rfl, ca, cb⟩ := bool_view h0; clear h0
  refine BoolOp_or (hx c m ρ a _ l ca cx hq _ _ fun v1 d1 b1 q1 r1 n1 => ?_)
  refine truth_snd (c := c) r1 q1 fun t hb hv => ?_
  cases t with
  | true => exact post v1 _ b1 hb (hv ▸ .bool _) n1
  | false =>
    refine eval_last hy (cx.next n1) cb hb _ _ fun v2 d2 b2 q2 r2 n2 => ?_
    obtain ⟨u, rfl, q2⟩ := truthQ_ex q2
    exact post _ _ b2 q2 r2 (n1.trans n2)
theorem p2_band {x y : X} (hx : P2 x) (hy : P2 y) : P2 (.band x y) := by
  intro c m ρ a Q e whole h0 hw cx hq Q' E' post
  obtain ⟨l, r, rest, pos, rfl, ca, cb⟩ := bool_view h0; clear h0
  refine isTrue_and (hx c m ρ a (fun t μ₁ => brq t (wE c.w c.k y ρ μ₁ fun y μ₂ => truthQ y fun u => Q u μ₂) (Q false μ₁)) l _ ca rfl cx hq _ _ fun v1 d1 b1 q1 r1 n1 => ?_)
  cases r1
  cases v1 with
  | false => exact post _ _ b1 q1 rfl n1
  | true =>
    rcases cb with ⟨rfl, cb⟩ | ⟨_, cb⟩
    · refine isTrue_and (hy c m ρ b1 _ r _ cb rfl (cx.next n1) q1 _ _ fun v2 d2 b2 q2 r2 n2 => ?_)
      cases r2
      cases v2 with
      | false => exact post _ _ b2 q2 rfl (n1.trans n2)
      | true => exact isTrue_and_nil (post _ _ b2 q2 rfl (n1.trans n2))
    · exact hy c m ρ b1 _ _ _ cb rfl (cx.next n1) q1 _ _ fun v2 d2 b2 q2 r2 n2 => post _ _ b2 q2 r2 (n1.trans n2)
theorem p2_bor {x y : X} (hx : P2 x) (hy : P2 y) : P2 (.bor x y) := by
  intro c m ρ a Q e whole h0 hw cx hq Q' E' post
  obtain ⟨l, r, rest, pos, rfl, ca, cb⟩ := bool_view h0; clear h0
  refine isTrue_or (hx c m ρ a (fun t μ₁ => brq t (Q true μ₁) (wE c.w c.k y ρ μ₁ fun y μ₂ => truthQ y fun u => Q u μ₂)) l _ ca rfl cx hq _ _ fun v1 d1 b1 q1 r1 n1 => ?_)
  cases r1
  cases v1 with
  | true => exact post _ _ b1 q1 rfl n1
  | false =>
    rcases cb with ⟨rfl, cb⟩ | ⟨_, cb⟩
    · refine isTrue_or (hy c m ρ b1 _ r _ cb rfl (cx.next n1) q1 _ _ fun v2 d2 b2 q2 r2 n2 => ?_)
      cases r2
      cases v2 with
      | true => exact post _ _ b2 q2 rfl (n1.trans n2)
      | false => exact isTrue_or_nil (post _ _ b2 q2 rfl (n1.trans n2))
    · exact hy c m ρ b1 _ _ _ cb rfl (cx.next n1) q1 _ _ fun v2 d2 b2 q2 r2 n2 => post _ _ b2 q2 r2 (n1.trans n2)
theorem p3_nil : P3 .nil := by
  intro c m ρ a Q es p pos h0 cx hq Q' E' post
  obtain rfl : es = [] := List.isEmpty_iff.mp h0
  exact args_nil (post [] (.tup []) a hq ⟨[], rfl, .nil, rfl⟩ cx.nx)
theorem p3_cons {x as : X} (hx : P1 x) (hs : P3 as) : P3 (.cons x as) := by
  intro c m ρ a Q es p pos h0 cx hq Q' E' post
  obtain ⟨⟨e, es'⟩, hu, hc⟩ := any_ex (show ((unc es).any fun z => notStar z.1 && (chk c.cs c.ns x true z.1 && chk c.cs c.ns as false (.Tuple z.2 0 p))) = true from h0)
  obtain rfl := unc_eq hu; clear h0 hu
  obtain ⟨c2, hc⟩ := and_ex hc
  obtain ⟨c1, c5⟩ := and_ex hc
  refine args_cons (hx c m ρ a _ e c1 cx hq _ _ fun v1 d1 b1 q1 r1 n1 => ?_) (star_no c2)
  refine hs c m ρ b1 _ es' p pos c5 (cx.next n1) q1 _ _ fun v2 d2 b2 q2 r2 n2 => ?_
  obtain ⟨ds, rfl, rr, hl⟩ := r2
  exact post _ _ b2 q2 ⟨_, rfl, .cons (r1.mono n2.hs) rr, congrArg (· + 1) hl⟩ (n1.trans n2)
theorem p1_tup {as : X} (hs : P3 as) : P1 (.tup as) := by
  intro c m ρ a Q e h0 cx hq Q' E' post
  obtain ⟨⟨es, p⟩, hu, hc⟩ := any_ex h0
  obtain ⟨k, rfl⟩ := uTup_eq hu; clear h0 hu
  obtain ⟨c1, c2⟩ := and_ex hc
  refine Tuple_ (hs c m ρ a _ es p _ c2 cx hq _ _ fun v1 d1 b1 q1 r1 n1 => ?_)
  obtain ⟨ds, rfl, rr, hl⟩ := r1
  obtain ⟨ml, N⟩ := n1.N
  refine kup_newTuple n1.F N.n (fun D h' F' N' hD => ?_) (by rw [sizeLine_eq, hl]; exact Nat.le_trans (of_decide_eq_true c1) (by decide))
  exact post _ _ (b1.new D _ h' b1.s.toks) q1 (.tup (.head _) (rr.mono fun _ h => .tail _ h)) (n1.trans (Nx.grow N.r N.ap hD F' N'))
theorem lst_view {cs : Scope} {ns : List Str} {as : X} {e : Expr} (h : ((uLst e).any fun y => decide (y.length ≤ 1000) && chk cs ns as false (.Tuple y 0 ⟨0, 0, 0, 0⟩)) = true) : ∃ es p, e = .List es p ∧ es.length ≤ 1000 ∧ chk cs ns as false (.Tuple es 0 ⟨0, 0, 0, 0⟩) = true := by
  obtain ⟨es, hu, hc⟩ := any_ex h
  obtain ⟨p, e⟩ := uLst_eq hu
  exact ⟨es, p, e, of_decide_eq_true (and_ex hc).1, (and_ex hc).2⟩
theorem p1_lst {as : X} (hs : P3 as) : P1 (.lst as) := by
  intro c m ρ a Q e h0 cx hq Q' E' post
  obtain ⟨es, p, rfl, c1, c2⟩ := lst_view h0; clear h0
  refine List_ (hs c m ρ a _ es _ _ c2 cx hq _ _ fun v1 d1 b1 q1 r1 n1 => ?_)
  obtain ⟨ds, rfl, rr, hl⟩ := r1
  obtain ⟨ml, N⟩ := n1.N
  refine newList_N n1.F N.n (fun h' F' N' => ?_) (by rw [sizeLine_eq, hl]; exact Nat.le_trans c1 (by decide))
  exact post _ _ (b1.new _ _ h' b1.s.toks) q1 (.list (k := 0) (.head _) (rr.mono fun _ h => .tail _ h)) (n1.trans (Nx.grow N.r N.ap (fun p hp => Heap.lt_size (N.n p hp).1) F' N'))
theorem Nx.owned {c : FC} {m : Str → Option Value} {a : Po} {ml : Led} {h' : Heap} {tk : Nat} {D : Addr} {o : Obj} {cl : Cell} (r : MR a.imm a.μ ml) (ap : Apart ml a.imm) (hD : ∀ p ∈ ml ++ a.imm, p.1 < D) (F : Fr c.h₀ c.L h' m) (N : News c.h₀ c.L h' ((D, o) :: (ml ++ a.imm)))
    (hc : CR a.imm cl [(D, o)]) : Nx c m a ⟨cl :: a.μ, a.imm, { a.s with heap := h', toks := tk }⟩ := by
  refine ⟨fun _ h => h, F, ⟨[(D, o)] ++ ml, .cons hc r, N, ?_, fun p hp q hq => ?_⟩, rfl⟩
  · show (D :: ml.map (·.1)).Nodup
    refine List.nodup_cons.mpr ⟨fun hm => ?_, ap.1⟩
    obtain ⟨p, hp, e⟩ := List.mem_map.mp hm
    exact absurd (hD p (List.mem_append_left _ hp)) (e ▸ Nat.lt_irrefl _)
  · rcases List.mem_cons.mp hp with rfl | hp
    · exact Ne.symm (Nat.ne_of_lt (hD q (List.mem_append_right _ hq)))
    · exact ap.2 p hp q hq
theorem p1_own {as : X} (hs : P3 as) : P1 (.own as) := by
  intro c m ρ a Q e h0 cx hq Q' E' post
  obtain ⟨es, p, rfl, c1, c2⟩ := lst_view h0; clear h0
  refine List_ (hs c m ρ a _ es _ _ c2 cx hq _ _ fun v1 d1 b1 q1 r1 n1 => ?_)
  obtain ⟨ds, rfl, rr, hl⟩ := r1
  obtain ⟨ml, N⟩ := n1.N
  refine newList_N n1.F N.n (fun h' F' N' => ?_) (by rw [sizeLine_eq, hl]; exact Nat.le_trans c1 (by decide))
  exact post _ _ ⟨_, b1.imm, { b1.s with heap := h', toks := b1.s.toks }⟩ (q1 _) (.raw _) (n1.trans (Nx.owned N.r N.ap (fun p hp => Heap.lt_size (N.n p hp).1) F' N' ⟨v1, 0, rfl, rr⟩))
theorem p1_sub {x y : X} (hx : P1 x) (hy : P1 y) : P1 (.sub x y) := by
  intro c m ρ a Q e h0 cx hq Q' E' post
  obtain ⟨⟨l, r, p⟩, hu, hc⟩ := any_ex h0
  obtain rfl := uSub_eq hu; clear h0 hu
  obtain ⟨h1, hc⟩ := and_ex hc
  obtain ⟨h2, h3⟩ := and_ex hc
  refine Subscript_ (hx c m ρ a _ l h2 cx hq _ _ fun v1 d1 b1 q1 r1 n1 => ?_)
  refine hy c m ρ b1 _ r h3 (cx.next n1) q1 _ _ fun v2 d2 b2 q2 r2 n2 => ?_
  exact subQ_snd n2.here (r1.mono n2.hs) r2 h1 q2 _ _ fun v d b hq' hr n => post v d b hq' hr (n1.trans (n2.trans n))
theorem p1_call {j : Nat} {as : X} (hs : P3 as) : P1 (.call j as) := by
  intro c m ρ a Q e h0 cx hq Q' E' post
  obtain ⟨⟨f, args, ks, p⟩, hu, hc⟩ := any_ex h0
  obtain rfl := uCall_eq hu; clear h0 hu
  obtain ⟨h1, hc⟩ := and_ex hc
  obtain ⟨h2, hc⟩ := and_ex hc
  obtain ⟨h3, h4⟩ := and_ex hc
  obtain rfl : ks = [] := List.isEmpty_iff.mp h1
  obtain ⟨x, hx, hg⟩ := any_ex h2
  obtain ⟨xp, rfl⟩ := uName_eq hx
  refine Call_ (glb_snd cx hg fun v hv => ?_)
  cases hu : (gtL j).2.1 with
  | raw u =>
    rw [hu] at hv
    obtain rfl : v = u := eq_of_beq hv
    refine callW_snd (g_keep hg hu) (spl_star h4 _ _) (hs c m ρ a _ args p _ h4 cx hq _ _ fun v1 d1 b1 q1 r1 n1 => ?_)
    obtain ⟨ds, rfl, rr, hl⟩ := r1
    replace q1 : (match (gtL j).2.1 with | .raw f => CallOK c.w c.k f ds b1.μ Q | _ => False) := q1
    rw [hu] at q1
    refine ⟨cx.ok.X.keeps n1.F.keep, ?_⟩
    exact q1.go c m b1 v1 rfl cx.ok rfl n1.here rr _ _ fun v d b hq' hr n => post v d b hq' hr (n1.trans n)
  | _ => rw [hu] at h3; exact absurd h3 Bool.false_ne_true
section
variable {c : FC} {m : Str → Option Value} {ρ : List V} {a : Po}
theorem attrBase {ob : Expr} {name : Str} {env : Env} {whole : Sem Value} (h : notSuper ob = true) : attributeBase ob name env whole = whole := by
  cases ob with
  | Call f args kws p =>
    cases f with
    | Name x xp =>
      cases args with
      | nil => cases kws with
        | nil => first | exact no_some h | exact no_ft h | cases h
        | cons _ _ => rfl
      | cons _ _ => rfl
    | _ => rfl
  | _ => rfl
theorem meth_snd {ob : Expr} {name : Str} {ap pos : Pos} {args : List Expr} {Q' E' : Value → Shared → Prop} {s : Shared} (hs : notSuper ob = true) (hst : (backTo pos (starEach args c.env)).any (·.1) = false) (hl : args.length < 30) (hp : (ap.endLine == pos.line) = true)
    (h : wpAny c.M c.A (eval ob c.env) (fun ov s₁ => wpAny c.M c.A (getMethod ov name (do return (← importBound ob c.env).getD true)) (fun fx s₂ => wpAny c.M c.A (callWith pos fx.1 fx.2 (backTo pos (starEach args c.env)) []) Q' E' s₂) E' s₁) E' s) :
    wpAny c.M c.A (eval (.Call (.Attribute ob name ap) args [] pos) c.env) Q' E' s := by
  refine MethodCall_ h ?_
  have hform : methodCallForm (args.length + 0) (backTo pos (starEach args c.env)) [] = true := by
    unfold methodCallForm
    have : (backTo pos (starEach args c.env)).all (!·.1) = true := by
      rw [List.all_eq_true]
      intro x hx
      cases hb : x.1 with
      | false => rfl
      | true => rw [List.any_eq_false] at hst; exact absurd hb (by simpa using hst x hx)
    rw [this]; simp; omega
  show (do
    let ov ← attributeBase ob name c.env (eval ob c.env)
    standAt ap.atName
    methodCall ob name ap pos c.env ov (args.length + 0) (backTo pos (starEach args c.env)) []) = _
  rw [attrBase hs]
  congr 1; funext ov; congr 1; funext _
  unfold methodCall
  rw [hform]
  congr 1; funext fx
  show (methodCallPos true ob c.env ap pos >>= _) = _
  unfold methodCallPos
  rw [if_pos (by simpa using hp)]
  rfl
theorem methQ_ex {x : V} {j : Nat} {K : Value → Prop} (h : methQ x j K) : (∃ C l f, x = .inst C l ∧ mTab.lookup (C, j) = some f ∧ K (.ref f)) ∨ (∃ i, x = .int i ∧ ((j = 26 ∧ K (.builtin "int.to_bytes")) ∨ (j = 27 ∧ K (.builtin "int.bit_length")))) := by
  cases x with
  | inst C l =>
    replace h : (match mTab.lookup (C, j) with | some f => K (.ref f) | none => False) := h
    cases e : mTab.lookup (C, j) with
    | none => rw [e] at h; exact h.elim
    | some f => rw [e] at h; exact .inl ⟨C, l, f, rfl, e, h⟩
  | int i =>
    replace h : if j = 26 then K (.builtin "int.to_bytes") else if j = 27 then K (.builtin "int.bit_length") else False := h
    refine .inr ⟨i, rfl, ?_⟩
    by_cases e : j = 26
    · rw [if_pos e] at h; exact .inl ⟨e, h⟩
    · rw [if_neg e] at h
      by_cases e2 : j = 27
      · rw [if_pos e2] at h; exact .inr ⟨e2, h⟩
      · rw [if_neg e2] at h; exact h.elim
  | _ => exact h.elim
theorem methQ_snd {k : Nat} {v1 : Value} {d1 : V} {j : Nat} {K : Value → Prop} {pl : Sem Bool} {Q' : Value × List Value → Shared → Prop} {E' : Value → Shared → Prop} (ok : c.Ok k) (n : Nx c m a a) (h1 : Rp a.imm v1 d1)
    (hq : methQ d1 j K) (post : ∀ f tk, K f → (keepIn c.K f = true ∨ isBI f = true) → Q' (f, [v1]) { a.s with toks := tk }) : wpAny c.M c.A (getMethod v1 (atN j) pl) Q' E' a.s := by
  rcases methQ_ex hq with ⟨C, l, f, rfl, e2, hk⟩ | ⟨i, rfl, ⟨rfl, hk⟩ | ⟨rfl, hk⟩⟩
  · cases h1 with
    | inst m1 m2 m3 r =>
      obtain ⟨fs, e1, en, hh⟩ := m3
      obtain ⟨hc, a5⟩ := and_ex (List.all_eq_true.mp (mth_ok c.w.params) ((C, j), f) (lookup_mem e2))
      obtain ⟨hc, a4⟩ := and_ex hc
      obtain ⟨hc, a3⟩ := and_ex hc
      obtain ⟨a1, a2⟩ := and_ex hc
      rw [e1] at a5
      exact method_inst n.F ok.X (InstAt.of_news n.imms m1 m2) a1 (eq_of_beq a2) a3 (ents_none en fun i hi => by
        have := List.all_eq_true.mp a5 i hi
        intro q; rw [q] at this; simp at this) (post _ _ hk (.inl a4))
  · obtain ⟨t, rfl⟩ := rp_int h1; exact KTBy.method (post _ _ hk (.inr rfl))
  · obtain ⟨t, rfl⟩ := rp_int h1; exact getMethod_int_bit_length (post _ _ hk (.inr rfl))
end
theorem p1_attr {o : X} {j : Nat} (ho : P1 o) : P1 (.attr o j) := by
  intro c m ρ a Q e h0 cx hq Q' E' post
  obtain ⟨⟨ob, name, pos⟩, hu, hc⟩ := any_ex h0
  obtain rfl := uAttr_eq hu; clear h0 hu
  obtain ⟨c1, hc⟩ := and_ex hc
  obtain ⟨c2, c3⟩ := and_ex hc
  obtain rfl : name = atN j := eq_of_beq c1
  refine Attribute_any_ (ho c m ρ a _ ob c3 cx hq _ _ fun v1 d1 b1 q1 r1 n1 => ?_) (by
    show (do
      let ov ← attributeBase ob (atN j) c.env (eval ob c.env)
      standAt pos.atName
      let r ← holding [ov] (getAttr ov (atN j) true)
      letTemporaryGo ob ov r
      pure r) = _
    rw [attrBase c2])
  exact attr_snd cx.ok n1.here r1 q1 _ _ fun v d b hq' hr n => post v d b hq' hr (n1.trans n)
theorem p1_meth {o : X} {j : Nat} {as : X} (ho : P1 o) (hs : P3 as) : P1 (.meth o j as) := by
  intro c m ρ a Q e h0 cx hq Q' E' post
  obtain ⟨⟨f, args, ks, p⟩, hu, hc⟩ := any_ex h0
  obtain rfl := uCall_eq hu; clear h0 hu
  obtain ⟨h1, hc⟩ := and_ex hc
  obtain rfl : ks = [] := List.isEmpty_iff.mp h1
  obtain ⟨⟨ob, name, ap⟩, hu, hc⟩ := any_ex hc
  obtain rfl : f = .Attribute ob name ap := uAttr_eq hu
  clear hu
  obtain ⟨c1, hc⟩ := and_ex hc
  obtain ⟨c2, hc⟩ := and_ex hc
  obtain ⟨c3, hc⟩ := and_ex hc
  obtain ⟨c4, hc⟩ := and_ex hc
  obtain ⟨c5, c8⟩ := and_ex hc
  obtain rfl : name = atN j := eq_of_beq c1
  refine meth_snd c2 (spl_star c8 _ _) (of_decide_eq_true c4) c3 (ho c m ρ a _ ob c5 cx hq _ _ fun v1 d1 b1 q1 r1 n1 => ?_)
  refine methQ_snd cx.ok n1.here r1 q1 fun f tk hf hk => ?_
  have n1' : Nx c m b1 ⟨b1.μ, b1.imm, { b1.s with toks := tk }⟩ := ⟨fun _ h => h, n1.F, n1.N, rfl⟩
  refine callW_snd hk (spl_star c8 _ _) (hs c m ρ ⟨b1.μ, b1.imm, { b1.s with toks := tk }⟩ _ args p _ c8 (cx.next (n1.trans n1')) hf _ _ fun v2 d2 b2 q2 r2 n2 => ?_)
  obtain ⟨ds, rfl, rr, hl⟩ := r2
  refine ⟨cx.ok.X.keeps n2.F.keep, ?_⟩
  exact CallOK.go q2 c m b2 (v1 :: v2) rfl cx.ok rfl n2.here (.cons (r1.mono n2.hs) rr) _ _ fun v d b hq' hr n => post v d b hq' hr (n1.trans (n1'.trans (n2.trans n)))
theorem bslice_V {w : World} {A : Around} {E : Value → Shared → Prop} {s : Shared} {value : Expr} {kc : Nat} {lp sp : Pos} {b : List UInt8} {t u : Tok} {n : Nat} {h₀ : Heap} {L : Addr} {m : Str → Option Value} {news : Led} {Q : Value → Shared → Prop}
    (hF : Fr h₀ L s.heap m) (hN : News h₀ L s.heap news) (hz : b.length ≤ 16777216) (h : ∀ h' t' k, Fr h₀ L h' m → News h₀ L h' news → Q (.bytes (b.drop n).toArray t') { s with heap := h', toks := k }) :
    wpAny (model PR w) A (subscriptTail value (.Slice (some (.Constant (.int (n : Int)) kc lp)) none none sp) (.bytes b.toArray t) (.ref s.heap.objs.size)) Q E { s with heap := s.heap.push { cls := .type "slice", data := .fields #[.int (n : Int) u, .none, .none] } } := by
  refine KBc.slice_K (lo := some (n : Int)) (hi := none) hF hN rfl (by constructor) (by constructor) (by rw [KBw.ints_length]; simpa using hz) (fun h' t' k F' N' _ => ?_) (by with_unfolding_all rfl) (fun _ => by cases value <;> rfl)
  rw [KBc.picked_eq]
  simp only [Option.elim, clipAt_nat]
  have e : List.take ((b.toArray.size) - min n b.toArray.size) (List.drop (min n b.toArray.size) b.toArray.toList) = b.drop n := by
    simp only [List.size_toArray]
    by_cases hn : n ≤ b.length
    · rw [Nat.min_eq_left hn, List.take_of_length_le (by rw [List.length_drop]; (first | lia | omega))]
    · rw [Nat.min_eq_right (by (first | lia | omega)), List.drop_of_length_le (by (first | lia | omega)), List.drop_of_length_le (by (first | lia | omega))]; simp
  rw [e]
  exact h _ _ _ F' N'
theorem Nx.turn {c : FC} {m : Str → Option Value} {a : Po} {ml : Led} {h' : Heap} {tk : Nat} (N : NW c a.s.heap a.μ a.imm ml) (F : Fr c.h₀ c.L h' m) (N' : News c.h₀ c.L h' (ml ++ a.imm)) : Nx c m a ⟨a.μ, a.imm, { a.s with heap := h', toks := tk }⟩ :=
  ⟨fun _ h => h, F, ⟨ml, N.r, N', N.ap⟩, rfl⟩
theorem p1_slb {o : X} {n : Nat} (ho : P1 o) : P1 (.slb o n) := by
  intro c m ρ a Q e h0 cx hq Q' E' post
  obtain ⟨⟨l, ix, p⟩, hu, hc⟩ := any_ex h0
  obtain rfl := uSub_eq hu; clear h0 hu
  obtain ⟨⟨lo, up, st⟩, hu, hc⟩ := any_ex hc
  obtain ⟨sp, hix⟩ := uSl_eq hu
  replace hix : ix = .Slice lo up st sp := hix
  subst hix; clear hu
  obtain ⟨h1, hc⟩ := and_ex hc
  obtain ⟨h2, hc⟩ := and_ex hc
  obtain ⟨h3, hc⟩ := and_ex hc
  have h5 := (and_ex hc).2
  obtain ⟨lit, rfl, h1⟩ := any_ex h1
  obtain ⟨k, lp, rfl⟩ := uConst_eq (eq_of_beq h1)
  obtain rfl : up = none := Option.isNone_iff_eq_none.mp h2
  obtain rfl : st = none := Option.isNone_iff_eq_none.mp h3
  refine Subscript_ (ho c m ρ a _ l h5 cx hq _ _ fun v1 d1 b1 q1 r1 n1 => ?_)
  obtain ⟨b, rfl, hlen, q1⟩ := bytQ_ex q1
  obtain ⟨t, rfl⟩ := rp_bytes r1
  obtain ⟨ml, N⟩ := n1.N
  refine wpAny_Slice (wpAny_Constant_int (k := k) (pos := lp) (wpAny_pure (wpAny_pure ?_)))
  refine bslice_V (s := { b1.s with toks := b1.s.toks + 1 }) n1.F N.n (Nat.le_trans hlen (by decide)) fun h' t' k' F' N' => ?_
  exact post _ _ ⟨b1.μ, b1.imm, { b1.s with heap := h', toks := k' }⟩ q1 (.bytes _ _) (n1.trans (Nx.turn N F' N'))
theorem rps_take {n : Led} : ∀ (k : Nat) {vs : List Value} {ds : List V}, Rps n vs ds → Rps n (vs.take k) (ds.take k) := by
  intro k vs
  induction vs generalizing k with
  | nil => intro ds h; cases h; rw [List.take_nil, List.take_nil]; exact .nil
  | cons v vs ih => intro ds h; cases h with
    | cons a b => cases k with
      | zero => exact .nil
      | succ k => exact .cons a (ih k b)
theorem p1_slt {o : X} {n : Nat} (ho : P1 o) : P1 (.slt o n) := by
  intro c m ρ a Q e h0 cx hq Q' E' post
  obtain ⟨⟨l, ix, p⟩, hu, hc⟩ := any_ex h0
  obtain rfl := uSub_eq hu; clear h0 hu
  obtain ⟨⟨lo, up, st⟩, hu, hc⟩ := any_ex hc
  obtain ⟨sp, hix⟩ := uSl_eq hu
  replace hix : ix = .Slice lo up st sp := hix
  subst hix; clear hu
  obtain ⟨h1, hc⟩ := and_ex hc
  obtain ⟨h2, hc⟩ := and_ex hc
  obtain ⟨h3, hc⟩ := and_ex hc
  obtain ⟨h4, hc⟩ := and_ex hc
  obtain ⟨h6, h5⟩ := and_ex hc
  obtain ⟨lit, rfl, h2⟩ := any_ex h2
  obtain ⟨k, lp, rfl⟩ := uConst_eq (eq_of_beq h2)
  obtain rfl : lo = none := Option.isNone_iff_eq_none.mp h1
  obtain rfl : st = none := Option.isNone_iff_eq_none.mp h3
  obtain ⟨x, hx⟩ := Option.isSome_iff_exists.mp h6
  obtain ⟨xp, hxe⟩ := uName_eq hx
  replace hxe : l = .Name x xp := hxe
  refine Subscript_ (ho c m ρ a _ l h5 cx hq _ _ fun v1 d1 b1 q1 r1 n1 => ?_)
  obtain ⟨ds, rfl, hlen, q1⟩ := listQ_ex q1
  obtain ⟨y, vs, k2, rfl, hm, rr⟩ := rp_list r1
  obtain ⟨ml, N⟩ := n1.N
  refine wpAny_Slice (wpAny_pure (wpAny_Constant_int (k := k) (pos := lp) (wpAny_pure ?_)))
  refine kms_slice_lit (s := { b1.s with toks := b1.s.toks + 1 }) (lo := none) (hi := some (n : Int)) (zs := vs.take n) n1.F N.n (N.n.isList (List.mem_append_right _ hm)) (by constructor) (by constructor) ?_ (fun D h' F' N' hD => ?_) (by with_unfolding_all rfl) (fun r => by rw [hxe]; rfl) (by rw [List.size_toArray, rr.length, sizeLine_eq]; exact Nat.le_trans hlen (by decide))
  · have e : kms_hi (some (n : Int)) vs.length = min n vs.length := by
      unfold kms_hi
      dsimp only
      rw [if_neg (by (first | lia | omega)), Int.toNat_natCast]
    show (vs.drop 0).take (kms_hi (some (n : Int)) vs.length - 0) = _
    rw [e, List.drop_zero, Nat.sub_zero]
    by_cases h : n ≤ vs.length
    · rw [Nat.min_eq_left h]
    · rw [Nat.min_eq_right (by (first | lia | omega)), List.take_length, List.take_of_length_le (by (first | lia | omega))]
  · exact post _ _ (b1.new D _ h' (b1.s.toks + 1)) q1 (.list (.head _) ((rps_take n rr).mono fun _ h => .tail _ h)) (n1.trans (Nx.grow N.r N.ap hD F' N'))
theorem p1_dct : P1 .dct := by
  intro c m ρ a Q e h0 cx hq Q' E' post
  obtain ⟨p, rfl⟩ : ∃ p, e = .Dict [] [] p := by
    replace h0 : uDct e = true := h0
    unfold uDct at h0
    split at h0
    · exact ⟨_, rfl⟩
    · first | exact no_some h0 | exact no_ft h0 | cases h0
  obtain ⟨ml, N⟩ := cx.nx.N
  refine wpAny_Dict_empty ?_
  exact post _ _ ⟨_, a.imm, { a.s with heap := _, toks := a.s.toks }⟩ (hq a.s.heap.objs.size (beq_false_of_ne (Nat.ne_of_gt (Nat.lt_of_lt_of_le (modules_low cx.ok.T.nolimit) (Nat.le_trans cx.nx.F.above (Nat.le_of_lt cx.nx.F.ns.lt)))))) (.raw _) (Nx.owned (o := dictOf [] 0) N.r N.ap (fun p hp => Heap.lt_size (N.n p hp).1) (cx.nx.F.push _) (N.n.push cx.nx.F _) rfl)
theorem frb_view {cs : Scope} {ns : List Str} {as : X} {e : Expr} (h : chk cs ns (.frb as) true e = true) : ∃ z zp ap r rest p, e = .Call (.Attribute (.Name z zp) (Str.ofString "from_bytes") ap) (r :: rest) [] p ∧ gnm cs 57 z = true ∧ (ap.endLine == p.line) = true ∧ (r :: rest).length < 30 ∧ notStar r = true ∧ chk cs ns as false (.Tuple (r :: rest) 0 p) = true := by
  obtain ⟨⟨f, args, ks, p⟩, hu, hc⟩ := any_ex h
  obtain ⟨h1, hc⟩ := and_ex hc
  obtain ⟨⟨ob, name, ap⟩, hv, hc⟩ := any_ex hc
  obtain ⟨h2, hc⟩ := and_ex hc
  obtain ⟨h3, hc⟩ := and_ex hc
  obtain ⟨h4, hc⟩ := and_ex hc
  obtain ⟨h5, hc⟩ := and_ex hc
  obtain ⟨h6, h7⟩ := and_ex hc
  obtain ⟨z, hz, hg⟩ := any_ex h3
  obtain ⟨zp, e1⟩ := uName_eq hz
  obtain ⟨⟨r, rest⟩, hr, hs⟩ := any_ex h6
  have e2 := unc_eq hr
  have e3 : ks = [] := List.isEmpty_iff.mp h1
  have e4 : name = Str.ofString "from_bytes" := eq_of_beq h2
  dsimp only at e1 e2 h7 h5
  rw [e2] at h7 h5
  refine ⟨z, zp, ap, r, rest, p, ?_, hg, h4, of_decide_eq_true h5, hs, h7⟩
  have e5 : f = .Attribute ob name ap := uAttr_eq hv
  rw [uCall_eq hu]
  dsimp only
  rw [e5, e1, e2, e3, e4]
theorem frbQ_ex {l : List V} {K : Int → Prop} (h : frbQ l K) : ∃ b, l = [.bytes b, .str (stN 0)] ∧ b.length ≤ 100000 ∧ K (ofBE b : Int) := by
  unfold frbQ at h
  match l, h with
  | [v, u], h =>
    obtain ⟨b, rfl, rfl, h1, h2⟩ := bytQ_ex h
    exact ⟨b, rfl, h1, h2⟩
theorem fb_cls (P : Params) : findCls (Mine.hd.heap_1 P) (.type "int") (.type "type") (Str.ofString "from_bytes") = some (.get (.builtin "classmethod_descriptor.__get__") (.builtin "int.from_bytes") .none (.type "int")) := by rfl
theorem p1_frb {as : X} (hs : P3 as) : P1 (.frb as) := by
  intro c m ρ a Q e h0 cx hq Q' E' post
  obtain ⟨z, zp, ap, r, rest, p, rfl, hg, c3, c4, c5, c8⟩ := frb_view h0; clear h0
  have hst := spl_star c8 c.env p
  refine meth_snd rfl hst c4 c3 (glb_snd cx hg fun v hv => ?_)
  obtain rfl : v = .type "int" := eq_of_beq hv
  obtain ⟨ml, N⟩ := cx.nx.N
  refine KFB.getm cx.nx.F N.n cx.ok.X (fb_cls _) fun y h' F' N' hy => ?_
  have n0 : Nx c m a (a.new y KFB.bound h' (a.s.toks + 1)) := Nx.grow N.r N.ap hy F' N'
  refine KFB.callWith_fields hst (args_plain hst (hs c m ρ (a.new y KFB.bound h' (a.s.toks + 1)) _ (r :: rest) p p c8 (cx.next n0) hq _ _ fun v1 d1 b1 q1 r1 n1 => ?_))
  obtain ⟨ds, rfl, rr, hl⟩ := r1
  replace q1 : frbQ ds fun n => Q (.int n) b1.μ := q1
  obtain ⟨b, rfl, hb, q2⟩ := frbQ_ex q1
  obtain ⟨ml1, N1⟩ := n1.N
  have hy : (y, KFB.bound) ∈ ml1 ++ b1.imm := List.mem_append_right _ (n1.hs _ (.head _))
  refine ⟨KFB.at_of N1.n hy, ?_⟩
  cases rr with
  | cons ra rr => cases rr with
    | cons rb rr => cases rr with
      | nil =>
        obtain ⟨t, rfl⟩ := rp_bytes ra
        cases rb
        exact from_bytes_big N1.n hy (Nat.le_trans hb (by decide)) fun t' k' => ev_ret n1.here (.int _ _) q2 (fun v d b hq' hr n => post v d b hq' hr (n0.trans (n1.trans n))) k'
theorem clos_nil {sc : Scope} {env : Env} (h : ∀ y ∈ sc.names, y.2 ≠ .free) : closureFor sc env = pure [] := by
  unfold closureFor
  have key : ∀ (l : List (Str × NameKind)) (cs : List (Str × Addr)), (∀ y ∈ l, y.2 ≠ .free) → (forIn l cs fun x r => (if (x.2 == NameKind.free) = true then do
        let a ← cellOf env x.1
        pure (ForInStep.yield ((x.1, a) :: r))
      else pure (ForInStep.yield r) : Sem (ForInStep (List (Str × Addr))))) = (pure cs : Sem (List (Str × Addr))) := by
    intro l
    induction l with
    | nil => intro cs _; rfl
    | cons y l ih =>
      intro cs hl
      rw [List.forIn_cons, if_neg (by have := hl y (.head _); cases q : y.2 <;> simp_all)]
      exact ih cs fun z hz => hl z (.tail _ hz)
  exact (congrArg (fun t : Sem (List (Str × Addr)) => t >>= fun s => pure s) (key sc.names [] h)).trans rfl
theorem relabel_id {sc : Scope} {env : Env} (h : ∀ y ∈ sc.names, y.2 ≠ .free) : relabel sc env = sc := by
  unfold relabel
  have : (sc.names.map fun x => match x with | (n, k) => if (k == .free && env.scope.kind == .function && env.kindOf n == some .cell) = true then (n, NameKind.cell) else (n, k)) = sc.names := by
    refine (List.map_congr_left fun y hy => ?_).trans (List.map_id _)
    obtain ⟨n, k⟩ := y
    have := h _ hy
    cases k <;> first | rfl | exact absurd rfl this
  rw [this]
theorem notSet_folded {it : Expr} {env : Env} (h : notSet it = true) (x : Value) : foldedSetIterable it env x = pure x := by
  cases it <;> first | rfl | exact absurd h Bool.false_ne_true
structure CompSc (sc : Scope) (x : Str) : Prop where
  free : ∀ y ∈ sc.names, y.2 ≠ .free
  cell : ∀ y ∈ sc.names, y.2 ≠ .cell
  kind : sc.kind = .function
  names : ∀ y ∈ sc.names, y.2 = .local → sc.names.lookup y.1 = some .local
  loc : sc.names.lookup x = some .local
  dbg : (x == ("__debug__" : Str)) = false
theorem compSc {sc : Scope} {x : Str} (h1 : (sc.names.all fun y => y.2 == .local && sc.names.lookup y.1 == some .local || y.2 == .globalImplicit) = true) (h2 : (sc.kind == .function) = true) (h3 : (sc.names.lookup x == some .local) = true) (h4 : (!(x == ("__debug__" : Str))) = true) : CompSc sc x := by
  have key : ∀ y ∈ sc.names, (y.2 = .local ∧ sc.names.lookup y.1 = some .local) ∨ y.2 = .globalImplicit := fun y hy => by
    have := List.all_eq_true.mp h1 y hy
    rcases Bool.or_eq_true_iff.mp this with h | h
    · exact .inl ⟨eq_of_beq (and_ex h).1, eq_of_beq (and_ex h).2⟩
    · exact .inr (eq_of_beq h)
  refine ⟨fun y hy e => ?_, fun y hy e => ?_, eq_of_beq h2, fun y hy e => ?_, eq_of_beq h3, by simpa using h4⟩
  · rcases key y hy with ⟨q, _⟩ | q <;> rw [q] at e <;> cases e
  · rcases key y hy with ⟨q, _⟩ | q <;> rw [q] at e <;> cases e
  · rcases key y hy with ⟨_, q⟩ | q
    · exact q
    · rw [q] at e; cases e
theorem map_view {cs : Scope} {j : Nat} {elt : Expr} {gs : List Comprehension} {sc : Scope} {it : Expr} (h : chkMap cs j elt gs sc = some it) :
    ∃ x px f fp xp p, gs = [⟨.Name x px, it, [], 0⟩] ∧ notSet it = true ∧ CompSc sc x ∧ elt = .Call (.Name f fp) [.Name x xp] [] p ∧ gnm sc j f = true ∧ isRaw (gtL j).2.1 = true := by
  obtain ⟨⟨x, it', fs⟩, hg, h⟩ := bind_ex h
  obtain ⟨hc, rfl⟩ := ift_ex h
  clear h
  obtain ⟨px, e0⟩ := uGen_eq hg
  clear hg
  obtain ⟨hc, h6⟩ := and_ex hc
  obtain ⟨h6, h7⟩ := and_ex h6
  obtain ⟨hc, h5⟩ := and_ex hc
  obtain ⟨hc, h4⟩ := and_ex hc
  obtain ⟨hc, h3⟩ := and_ex hc
  obtain ⟨hc, h2⟩ := and_ex hc
  obtain ⟨h0, h1⟩ := and_ex hc
  obtain ⟨⟨f, as, ks, p⟩, hu, hz⟩ := any_ex h5
  obtain ⟨e1, hz⟩ := and_ex hz
  obtain ⟨e2, e3⟩ := and_ex hz
  obtain ⟨z, hz, hg⟩ := any_ex e2
  obtain ⟨fp, e4⟩ := uName_eq hz
  obtain ⟨y, hy, e5⟩ := any_ex e3
  obtain ⟨xp, e7⟩ := uName_eq (eq_of_beq e5)
  refine ⟨x, px, z, fp, xp, p, ?_, h0, compSc h1 h2 h3 h4, ?_, hg, h6⟩
  · rw [e0, show fs = [] from List.isEmpty_iff.mp h7]
  · rw [uCall_eq hu, show f = _ from e4, show as = [y] from one_eq hy, e7, show ks = [] from List.isEmpty_iff.mp e1]
theorem off3_of {I C D : Addr} : ∀ {l : Led}, (∀ p ∈ l, p.1 ≠ I ∧ p.1 ≠ C ∧ p.1 ≠ D) → LCg.Off3 I C D l
  | [], _ => trivial
  | p :: l, h => ⟨h p (.head _), off3_of fun q hq => h q (.tail _ hq)⟩
theorem mr_obj {imm : Led} {p : Addr × Obj} {μ : Mu} {ml : Led} (h : MR imm (.obj p :: μ) ml) : ∃ ml', ml = p :: ml' ∧ MR imm μ ml' := by
  cases h with
  | cons a b => rw [show _ = [p] from a]; exact ⟨_, rfl, b⟩
theorem map_rest {c : FC} {m : Str → Option Value} {sc : Scope} {x fn : Str} {fp xp p : Pos} {j : Nat} {f : Value} {s : Shared} {imm₁ : Led} {ax : Addr} {kk : Nat} {Fin : List Value → Led → Prop} {vs : List Value} {μ : Mu}
    (sx : CompSc sc x) (hg : gnm sc j fn = true) (hu : (gtL j).2.1 = .raw f) (ok : c.Ok c.k) (hax : (ax, listOf vs.toArray kk) ∈ imm₁) :
    ∀ {dr br : List V}, MapOK c.w c.k f dr br → ∀ {i : Nat} {ys : List Value} {yd : List V} {ml imm : Led}, Rps imm₁ (vs.drop i) dr → Rps [] ys yd → MR imm μ ml → Apart ml imm → (∀ p ∈ imm₁, p ∈ imm) →
      (∀ ys' ml' imm', Rps [] ys' (yd ++ br) → MR imm' μ ml' → Apart ml' imm' → (∀ p ∈ imm₁, p ∈ imm') → Fin ys' (ml' ++ imm')) →
      LCg.CompRest PR c.w c.A c.h₀ c.L m c.env (.Call (.Name fn fp) [.Name x xp] [] p) x sc [] s (LCg.SrcAt c.h₀ ax vs.toArray) (fun i v => vs.toArray[i]? = some v) Fin dr.length i ys (ml ++ imm) := by
  intro dr br hm
  induction hm with
  | nil =>
    intro i ys yd ml imm hr hy r ap hs fin
    rw [List.append_nil] at fin
    exact fin ys ml imm hy r ap hs
  | @cons v0 b0 dr br hcall _ ih =>
    intro i ys yd ml imm hr hy r ap hs fin
    refine LCg.CompRest.succ fun v I oI C oC D m₂ h tk E' hv hC hx F N off ne => ?_
    have hv' : vs[i]? = some v := by simpa using hv
    have hi := (List.getElem?_eq_some_iff.mp hv').1
    have hd : vs.drop i = v :: vs.drop (i + 1) := by rw [List.drop_eq_getElem_cons hi, (List.getElem?_eq_some_iff.mp hv').2]
    rw [hd] at hr
    cases hr with
    | cons hr1 hr2 =>
    have ho := LCg.Off3.mem off
    have n0 : Nx c m ⟨.obj (I, oI) :: .obj (C, oC) :: .obj (D, LCg.lst ys) :: μ, imm, { s with heap := h, toks := tk }⟩ ⟨.obj (I, oI) :: .obj (C, oC) :: .obj (D, LCg.lst ys) :: μ, imm, { s with heap := h, toks := tk }⟩ := by
      refine ⟨fun _ h => h, F, ⟨(I, oI) :: (C, oC) :: (D, LCg.lst ys) :: ml, .cons (n1 := [(I, oI)]) rfl (.cons (n1 := [(C, oC)]) rfl (.cons (n1 := [(D, LCg.lst ys)]) rfl r)), N, ⟨?_, ?_⟩⟩, rfl⟩
      · have e : ∀ p ∈ ml, p.1 ≠ I ∧ p.1 ≠ C ∧ p.1 ≠ D := fun p hp => ho p (List.mem_append_left _ hp)
        refine List.nodup_cons.mpr ⟨fun q => ?_, List.nodup_cons.mpr ⟨fun q => ?_, List.nodup_cons.mpr ⟨fun q => ?_, ap.1⟩⟩⟩
        · rcases List.mem_cons.mp q with q | q
          · exact ne.1 q
          · rcases List.mem_cons.mp q with q | q
            · exact ne.2.1 q
            · obtain ⟨z, hz, q⟩ := List.mem_map.mp q; exact (e z hz).1 q
        · rcases List.mem_cons.mp q with q | q
          · exact ne.2.2 q
          · obtain ⟨z, hz, q⟩ := List.mem_map.mp q; exact (e z hz).2.1 q
        · obtain ⟨z, hz, q⟩ := List.mem_map.mp q; exact (e z hz).2.2 q
      · intro q hq z hz
        have e := ho z (List.mem_append_right _ hz)
        rcases List.mem_cons.mp hq with rfl | hq
        · exact Ne.symm e.1
        · rcases List.mem_cons.mp hq with rfl | hq
          · exact Ne.symm e.2.1
          · rcases List.mem_cons.mp hq with rfl | hq
            · exact Ne.symm e.2.2
            · exact ap.2 q hq z hz
    obtain ⟨hj, hg'⟩ := and_ex hg
    obtain ⟨hx', hk'⟩ := and_ex hg'
    have hrl := relabel_id (env := c.env) sx.free
    have hkk : (compEnvC sc [] C c.env).scope.kind = .function := sx.kind
    refine Call_ (glbE_snd ok F rfl rfl hkk (by show (relabel sc c.env).names.lookup fn = _; rw [hrl]; exact eq_of_beq hk') (of_decide_eq_true hj) (eq_of_beq hx') fun w hw => ?_)
    rw [hu] at hw
    obtain rfl : w = f := eq_of_beq hw
    refine callW_snd (g_keep hg hu) rfl (args_cons (ldVarK (hC.ns (N.get (.tail _ (.head _)))) hx (args_nil ⟨ok.X.keeps F.keep, ?_⟩) hkk (by show (relabel sc c.env).names.lookup x = _; rw [hrl]; exact sx.loc) sx.dbg) rfl)
    refine (hcall _).go c m _ [v] rfl ok rfl n0 (.cons (hr1.mono hs) .nil) _ _ fun y d b hq hrr n => ?_
    obtain ⟨rfl, hμ⟩ := hq
    obtain ⟨t, rfl⟩ := rp_bytes hrr
    obtain ⟨ml', N'⟩ := n.N
    obtain ⟨μ', imm', s'⟩ := b
    dsimp only at hμ N' n hrr
    subst hμ
    obtain ⟨l1, rfl, r1⟩ := mr_obj N'.r
    obtain ⟨l2, rfl, r2⟩ := mr_obj r1
    obtain ⟨l3, rfl, r3⟩ := mr_obj r2
    have nd := N'.ap.1
    obtain ⟨d1, nd⟩ := List.nodup_cons.mp nd
    obtain ⟨d2, nd⟩ := List.nodup_cons.mp nd
    obtain ⟨d3, nd⟩ := List.nodup_cons.mp nd
    have a2 := N'.ap.2
    refine ⟨s'.heap, s'.toks, l3 ++ imm', n.e, n.F, N'.n, off3_of fun q hq => ?_, .inr ⟨_, List.mem_append_right _ (n.hs _ (hs _ hax)), rfl, _, rfl⟩, ?_⟩
    · rcases List.mem_append.mp hq with hq | hq
      · have hm := List.mem_map_of_mem (f := (·.1)) hq
        exact ⟨fun e => d1 (.tail _ (.tail _ (e ▸ hm))), fun e => d2 (.tail _ (e ▸ hm)), fun e => d3 (e ▸ hm)⟩
      · exact ⟨Ne.symm (a2 _ (.head _) q hq), Ne.symm (a2 _ (.tail _ (.head _)) q hq), Ne.symm (a2 _ (.tail _ (.tail _ (.head _))) q hq)⟩
    · refine ih hr2 (rps_app hy (.cons (.bytes _ _) .nil)) r3 ⟨nd, fun q hq => a2 q (.tail _ (.tail _ (.tail _ hq)))⟩ (fun q hq => n.hs q (hs q hq)) fun ys' ml' imm' h1 h2 h3 h4 => fin ys' ml' imm' (by simpa using h1) h2 h3 h4
theorem off1_apart {D : Addr} : ∀ {l : Led}, LCg.Off1 D l → ∀ p ∈ l, p.1 ≠ D
  | [], _, _, h => nomatch h
  | _ :: _, h, p, hp => by
    rcases List.mem_cons.mp hp with rfl | hp
    · exact h.1
    · exact off1_apart h.2 p hp
theorem Nx.grow' {c : FC} {m : Str → Option Value} {a : Po} {s : Shared} {ml imm : Led} {h' : Heap} {tk : Nat} {D : Addr} {o : Obj} (r : MR imm a.μ ml) (ap : Apart ml imm) (hs : ∀ p ∈ a.imm, p ∈ imm) (hD : ∀ p ∈ ml ++ imm, p.1 ≠ D) (F : Fr c.h₀ c.L h' m) (N : News c.h₀ c.L h' ((D, o) :: (ml ++ imm))) (e : s = { a.s with heap := s.heap, toks := s.toks }) :
    Nx c m a ⟨a.μ, (D, o) :: imm, { s with heap := h', toks := tk }⟩ := by
  refine ⟨fun _ h => .tail _ (hs _ h), F, ⟨ml, r.mono fun _ h _ => .tail _ h, fun p hp => N p ?_, ap.1, fun p hp q hq => ?_⟩, by rw [e]⟩
  · rcases List.mem_append.mp hp with hp | hp
    · exact .tail _ (List.mem_append_left _ hp)
    · rcases List.mem_cons.mp hp with rfl | hp
      · exact .head _
      · exact .tail _ (List.mem_append_right _ hp)
  · rcases List.mem_cons.mp hq with rfl | hq
    · exact hD p (List.mem_append_left _ hp)
    · exact ap.2 p hp q hq
theorem MapOK.len {w : World} {k : Nat} {f : Value} {ds ys : List V} (h : MapOK w k f ds ys) : ds.length = ys.length := by
  induction h with
  | nil => rfl
  | cons _ _ ih => exact congrArg (· + 1) ih
theorem p1_map {j : Nat} {x : X} (hx : P1 x) : P1 (.map j x) := by
  intro c m ρ a Q e h0 cx hq Q' E' post
  obtain ⟨⟨elt, gs, sc⟩, hu, hc⟩ := any_ex h0
  obtain ⟨p, rfl⟩ := uLC_eq hu; clear h0 hu
  obtain ⟨it, hit, h1⟩ := any_ex hc
  clear hc
  obtain ⟨y, px, fn, fp, xp, p2, e1, hns, sx, e2, hg, hr⟩ := map_view hit
  dsimp only at e1 e2 ⊢
  subst e1 e2; clear hit
  refine LCg.ListComp_U cx.nx.F (clos_nil sx.free) sx.cell sx.kind sx.names sx.loc (hx c m ρ a _ it h1 cx hq _ _ fun v1 d1 b1 q1 r1 n1 => ?_) (notSet_folded hns)
  obtain ⟨ds, rfl, q1⟩ := listQ_ex q1
  cases hu : (gtL j).2.1 with
  | raw f =>
    rw [hu] at q1
    obtain ⟨hlen, ys, hm, hq2⟩ := q1
    obtain ⟨z, vs, k2, rfl, hmem, rr⟩ := rp_list r1
    obtain ⟨ml, N⟩ := n1.N
    refine LCg.CompSrc.ledger rfl n1.F N.n (List.mem_append_right _ hmem) (by rw [List.size_toArray, rr.length, sizeLine_eq]; exact Nat.le_trans hlen (by decide)) fun g => ?_
    rw [List.size_toArray, rr.length]
    refine map_rest (m := m) sx hg hu cx.ok hmem hm (yd := []) (by rw [List.drop_zero]; exact rr) .nil N.r N.ap (fun _ h => h) fun ys' ml' imm' h1 h2 h3 h4 D h tk F' N' off => ?_
    exact post _ _ ⟨b1.μ, (D, LCg.lst ys') :: imm', { b1.s with heap := h, toks := tk }⟩ hq2 (.list (k := ys'.length) (.head _) (h1.mono fun _ h => absurd h List.not_mem_nil)) (n1.trans (Nx.grow' h2 h3 h4 (off1_apart off) F' N' rfl))
  | _ => rw [hu] at hr; exact absurd hr Bool.false_ne_true
theorem comp_none {w : World} {A : Around} {h₀ : Heap} {L : Addr} {m : Str → Option Value} {env : Env} {ct elt : Expr} {x : Str} {scope : Scope} {cl : List (Str × Addr)} {s : Shared} {S : Led → Prop} {Fin : List Value → Led → Prop} {vs : List Value} {news : Led} (hS : S news)
    (turn : ∀ (i : Nat) (v : Value) I oI C oC D m₂ h tk (E' : Value → Shared → Prop), vs[i]? = some v → LCg.NsObj oC m₂ → m₂ x = some v → Fr h₀ L h m → News h₀ L h ((I, oI) :: (C, oC) :: (D, LCg.lst []) :: news) → LCg.Off3 I C D news →
      wpAny (model PR w) A (isTrue ct (compEnvC scope cl C env) (eval ct (compEnvC scope cl C env))) (fun ok s' => ok = false ∧ LCg.CompEnd h₀ L m { s with heap := h, toks := tk } I oI C oC D (LCg.lst []) S (fun _ n' => n' = news) Value.none s') E' { s with heap := h, toks := tk })
    (fin : Fin [] news) :
    LCt.CompRestT PR w A h₀ L m env ct elt x scope cl s S (fun i v => vs.toArray[i]? = some v) Fin vs.toArray.size 0 [] news := by
  have key : ∀ (k i : Nat), i + k = vs.length → LCt.CompRestT PR w A h₀ L m env ct elt x scope cl s S (fun i v => vs.toArray[i]? = some v) Fin k i [] news := by
    intro k
    induction k with
    | zero => intro i hi; exact fin
    | succ k ih =>
      intro i hi v I oI C oC D m₂ h tk E' hv hC hx F N off ne
      have hv' : vs[i]? = some v := by simpa using hv
      refine wpAny_mono (turn i v I oI C oC D m₂ h tk E' hv' hC hx F N off) (fun ok s' q => ?_) fun _ _ x => x
      obtain ⟨rfl, h', tk', n', e, F', N', off', hS', rfl⟩ := q
      exact ⟨h', tk', n', e, F', N', off', hS', ih (i + 1) (by (first | lia | omega))⟩
  have e : vs.toArray.size = vs.length := by simp
  rw [e]
  exact key vs.length 0 (by simp)
theorem flt_view {cs : Scope} {j : Nat} {elt : Expr} {gs : List Comprehension} {sc : Scope} {it : Expr} (h : chkFlt cs j elt gs sc = some it) :
    ∃ x px k0 p0 xp wn wp p1 p2, gs = [⟨.Name x px, it, [.UnaryOp .Not (.Compare (.Constant (.int 0) k0 p0) [.LtE, .Lt] [.Name x xp, .Name wn wp] p1) p2], 0⟩] ∧ notSet it = true ∧ CompSc sc x ∧ gnm sc j wn = true := by
  obtain ⟨⟨x, it', fs⟩, hg, h⟩ := bind_ex h
  obtain ⟨hc, rfl⟩ := ift_ex h
  clear h
  obtain ⟨px, e0⟩ := uGen_eq hg
  clear hg
  obtain ⟨hc, h5⟩ := and_ex hc
  obtain ⟨hc, h4⟩ := and_ex hc
  obtain ⟨hc, h3⟩ := and_ex hc
  obtain ⟨hc, h2⟩ := and_ex hc
  obtain ⟨h0, h1⟩ := and_ex hc
  have h6 := compSc h1 h2 h3 h4
  clear h1 h2 h3 h4 hc
  dsimp only at e0 h5 h0 h6 ⊢
  suffices q : ∃ k0 p0 xp wn wp p1 p2, fs = [.UnaryOp .Not (.Compare (.Constant (.int 0) k0 p0) [.LtE, .Lt] [.Name x xp, .Name wn wp] p1) p2] ∧ gnm sc j wn = true by
    obtain ⟨k0, p0, xp, wn, wp, p1, p2, e, hg⟩ := q
    exact ⟨x, px, k0, p0, xp, wn, wp, p1, p2, by rw [e0, e], h0, h6, hg⟩
  clear h0 h6 e0
  obtain ⟨ct, hf, h5⟩ := any_ex h5
  obtain ⟨⟨o, w⟩, hu, hz⟩ := any_ex h5
  obtain ⟨e1, hz⟩ := and_ex hz
  obtain ⟨⟨l, os, rs⟩, hu2, hz⟩ := any_ex hz
  obtain ⟨hz, e4⟩ := and_ex hz
  obtain ⟨e2, e3⟩ := and_ex hz
  obtain ⟨⟨o1, o2⟩, ho, e3⟩ := any_ex e3
  obtain ⟨⟨r1, r2⟩, hr, e4⟩ := any_ex e4
  obtain ⟨e5, e6⟩ := and_ex e4
  obtain ⟨wn, hw, hg⟩ := any_ex e6
  obtain ⟨p2, e7⟩ := uUn_eq hu
  obtain ⟨p1, e8⟩ := uCmp_eq hu2
  obtain ⟨k0, p0, e9⟩ := uConst_eq (eq_of_beq e2)
  obtain ⟨xp, e10⟩ := uName_eq (eq_of_beq e5)
  obtain ⟨wp, e11⟩ := uName_eq hw
  refine ⟨k0, p0, xp, wn, wp, p1, p2, ?_, hg⟩
  rw [one_eq hf, e7, show o = .Not from eq_of_beq e1, show w = _ from e8, show l = _ from e9, show os = [o1, o2] from two_eq ho, show rs = [r1, r2] from two_eq hr, show r1 = _ from e10, show r2 = _ from e11, show o1 = .LtE from eq_of_beq (and_ex e3).1, show o2 = .Lt from eq_of_beq (and_ex e3).2]
  rfl
theorem allIn_get {lo hi : Int} {n : Led} : ∀ {ds : List V} {vs : List Value}, Rps n vs ds → allIn lo hi ds → ∀ (i : Nat) (v : Value), vs[i]? = some v → ∃ k t, v = .int k t ∧ lo ≤ k ∧ k < hi := by
  intro ds
  induction ds with
  | nil => intro vs h _ i v hv; cases h; cases hv
  | cons d ds ih =>
    intro vs h ha i v hv
    cases h with
    | cons a b =>
      cases i with
      | zero =>
        cases hv
        obtain ⟨k, rfl, h1⟩ := intQ_ex ha.1
        obtain ⟨t, rfl⟩ := rp_int a
        exact ⟨k, t, rfl, h1⟩
      | succ i => exact ih b ha.2 i v hv
theorem p1_flt {j : Nat} {x : X} (hx : P1 x) : P1 (.flt j x) := by
  intro c m ρ a Q e h0 cx hq Q' E' post
  obtain ⟨⟨elt, gs, sc⟩, hu, hc⟩ := any_ex h0
  obtain ⟨p, rfl⟩ := uLC_eq hu; clear h0 hu
  obtain ⟨it, hit, h1⟩ := any_ex hc
  clear hc
  obtain ⟨y, px, k0, p0, xp, wn, wp, p1, p2, e1, hns, sx, hg⟩ := flt_view hit
  dsimp only at e1 ⊢
  subst e1; clear hit
  refine LCt.ListComp_T cx.nx.F (clos_nil sx.free) sx.cell sx.kind sx.names sx.loc (hx c m ρ a _ it h1 cx hq _ _ fun v1 d1 b1 q1 r1 n1 => ?_) (notSet_folded hns)
  obtain ⟨ds, rfl, q1⟩ := listQ_ex q1
  cases hu : (gtL j).2.1 with
  | int hi =>
    rw [hu] at q1
    obtain ⟨⟨hlen, hall⟩, hq2⟩ := q1
    obtain ⟨z, vs, k2, rfl, hmem, rr⟩ := rp_list r1
    obtain ⟨ml, N⟩ := n1.N
    refine LCt.CompSrcT.ledger rfl n1.F N.n (List.mem_append_right _ hmem) (by rw [List.size_toArray, rr.length, sizeLine_eq]; exact Nat.le_trans hlen (by decide)) fun g => ?_
    refine comp_none (.inr ⟨_, List.mem_append_right _ hmem, rfl, _, rfl⟩) (fun i v I oI C oC D m₂ h tk E2 hv hC hxv F N' off => ?_) fun D h tk F' N' off => ?_
    · obtain ⟨n, t, rfl, hn0, hn1⟩ := allIn_get rr hall i v hv
      have hrl := relabel_id (env := c.env) sx.free
      have hkk : (compEnvC sc [] C c.env).scope.kind = .function := sx.kind
      obtain ⟨hj, hg'⟩ := and_ex hg
      obtain ⟨hx', hk'⟩ := and_ex hg'
      refine isTrue_not (isTrue_chain (wpAny_Constant_int (k := k0) (pos := p0) (test_link ?_)) (by with_unfolding_all rfl))
      refine ldVarK (hC.ns (N'.get (.tail _ (.head _)))) hxv (PyProof.Rows.le_int (wpAny_truthy_bool ?_)) hkk (by show (relabel sc c.env).names.lookup y = _; rw [hrl]; exact sx.loc) sx.dbg
      rw [decide_eq_true hn0]
      refine test_last (glbE_snd cx.ok F rfl rfl hkk (by show (relabel sc c.env).names.lookup wn = _; rw [hrl]; exact eq_of_beq hk') (of_decide_eq_true hj) (eq_of_beq hx') fun w hw => ?_)
      rw [hu] at hw
      obtain ⟨u, rfl⟩ := rp_int (vOf_rp (imm := []) hw)
      refine PyProof.Rows.lt_int (wpAny_truthy_bool ⟨by rw [decide_eq_true hn1]; rfl, h, _, _, rfl, F, N', off, .inr ⟨_, List.mem_append_right _ hmem, rfl, _, rfl⟩, rfl⟩)
    · exact post _ _ ⟨b1.μ, (D, LCg.lst []) :: b1.imm, { b1.s with heap := h, toks := tk }⟩ hq2 (.list (k := 0) (.head _) .nil) (n1.trans (Nx.grow' N.r N.ap (fun _ h => h) (off1_apart off) F' N' rfl))
  | _ => rw [hu] at q1; exact q1.elim
theorem chk_plain {x : X} (h : (match x with | .not _ => false | .band _ _ => false | .bor _ _ => false | .ife _ _ _ => false | .cmp _ _ _ => false | .cmp2 _ _ _ _ _ => false | .nil => false | .cons _ _ => false | _ => true) = true) :
    ∀ cs ns e, chk cs ns x true e = true → plainT e = true := by
  intro cs ns e hc
  cases e with
  | UnaryOp op a p => cases op <;> first | rfl | (cases x <;> first | exact absurd h Bool.false_ne_true | exact absurd hc Bool.false_ne_true)
  | BoolOp => cases x <;> first | exact absurd h Bool.false_ne_true | exact absurd hc Bool.false_ne_true
  | IfExp => cases x <;> first | exact absurd h Bool.false_ne_true | exact absurd hc Bool.false_ne_true
  | Compare => cases x <;> first | exact absurd h Bool.false_ne_true | exact absurd hc Bool.false_ne_true
  | _ => rfl
theorem p3_no {x : X} (h : ∀ cs ns e, chk cs ns x false e = false) : P3 x := fun c m ρ a Q es p pos h0 => by rw [h] at h0; cases h0
theorem plainP {x : X} (h1 : P1 x) (hp : ∀ cs ns e, chk cs ns x true e = true → plainT e = true) (h : ∀ cs ns e, chk cs ns x false e = false) : P1 x ∧ P2 x ∧ P3 x := ⟨h1, p2_plain h1 hp, p3_no h⟩
theorem p1_nil : P1 .nil := fun c m ρ a Q e h0 => absurd h0 Bool.false_ne_true
theorem p2_nil : P2 .nil := fun c m ρ a Q e w h0 => absurd h0 Bool.false_ne_true
theorem p1_cons {x y : X} : P1 (.cons x y) := fun c m ρ a Q e h0 => absurd h0 Bool.false_ne_true
theorem p2_cons {x y : X} : P2 (.cons x y) := fun c m ρ a Q e w h0 => absurd h0 Bool.false_ne_true
theorem sound : ∀ x : X, P1 x ∧ P2 x ∧ P3 x
  | .var i => plainP (p1_var i) (chk_plain rfl) fun _ _ _ => rfl
  | .glb i => plainP (p1_glb i) (chk_plain rfl) fun _ _ _ => rfl
  | .cint i => plainP (p1_cint i) (chk_plain rfl) fun _ _ _ => rfl
  | .cbytes i => plainP (p1_cbytes i) (chk_plain rfl) fun _ _ _ => rfl
  | .cstr i => plainP (p1_cstr i) (chk_plain rfl) fun _ _ _ => rfl
  | .cnone => plainP (p1_cnone) (chk_plain rfl) fun _ _ _ => rfl
  | .cbool i => plainP (p1_cbool i) (chk_plain rfl) fun _ _ _ => rfl
  | .bin _ x y => plainP (p1_bin (sound x).1 (sound y).1) (chk_plain rfl) fun _ _ _ => rfl
  | .neg x => plainP (p1_neg (sound x).1) (chk_plain rfl) fun _ _ _ => rfl
  | .call _ x => plainP (p1_call (sound x).2.2) (chk_plain rfl) fun _ _ _ => rfl
  | .meth o _ x => plainP (p1_meth (sound o).1 (sound x).2.2) (chk_plain rfl) fun _ _ _ => rfl
  | .attr o _ => plainP (p1_attr (sound o).1) (chk_plain rfl) fun _ _ _ => rfl
  | .sub x y => plainP (p1_sub (sound x).1 (sound y).1) (chk_plain rfl) fun _ _ _ => rfl
  | .slb x _ => plainP (p1_slb (sound x).1) (chk_plain rfl) fun _ _ _ => rfl
  | .slt x _ => plainP (p1_slt (sound x).1) (chk_plain rfl) fun _ _ _ => rfl
  | .frb x => plainP (p1_frb (sound x).2.2) (chk_plain rfl) fun _ _ _ => rfl
  | .tup x => plainP (p1_tup (sound x).2.2) (chk_plain rfl) fun _ _ _ => rfl
  | .lst x => plainP (p1_lst (sound x).2.2) (chk_plain rfl) fun _ _ _ => rfl
  | .own x => plainP (p1_own (sound x).2.2) (chk_plain rfl) fun _ _ _ => rfl
  | .dct => plainP (p1_dct) (chk_plain rfl) fun _ _ _ => rfl
  | .map _ x => plainP (p1_map (sound x).1) (chk_plain rfl) fun _ _ _ => rfl
  | .flt _ x => plainP (p1_flt (sound x).1) (chk_plain rfl) fun _ _ _ => rfl
  | .not x => ⟨p1_not (sound x).1, p2_not (sound x).2.1, p3_no fun _ _ _ => rfl⟩
  | .cmp _ x y => ⟨p1_cmp (sound x).1 (sound y).1, p2_cmp (sound x).1 (sound y).1, p3_no fun _ _ _ => rfl⟩
  | .cmp2 _ _ x y z => ⟨p1_cmp2 (sound x).1 (sound y).1 (sound z).1, p2_cmp2 (sound x).1 (sound y).1 (sound z).1, p3_no fun _ _ _ => rfl⟩
  | .band x y => ⟨p1_band (sound x).1 (sound y).1, p2_band (sound x).2.1 (sound y).2.1, p3_no fun _ _ _ => rfl⟩
  | .bor x y => ⟨p1_bor (sound x).1 (sound y).1, p2_bor (sound x).2.1 (sound y).2.1, p3_no fun _ _ _ => rfl⟩
  | .ife x y z => ⟨p1_ife (sound x).2.1 (sound y).1 (sound z).1, p2_ife (sound x).2.1 (sound y).2.1 (sound z).2.1, p3_no fun _ _ _ => rfl⟩
  | .nil => ⟨p1_nil, p2_nil, p3_nil⟩
  | .cons x y => ⟨p1_cons, p2_cons, p3_cons (sound x).1 (sound y).2.2⟩
set_option genInjectivity false
set_option genSizeOf false
set_option genSizeOfSpec false
inductive Out where
  | next | ret (v : V) | exc
noncomputable def asgQ : List Nat → List V → List V → (List V → Prop) → Prop
  | [], [], ρ, K => K ρ
  | i :: is, v :: vs, ρ, K => asgQ is vs (lset ρ i v) K
  | _, _, _, _ => False
noncomputable abbrev PS := Out → List V → Mu → Prop
noncomputable def thn (K : List V → Mu → Prop) (R : PS) : PS := fun r ρ μ => match r with
  | .next => K ρ μ
  | r => R r ρ μ
/-- the same where no exception may come out -/
noncomputable def thnL (K : List V → Mu → Prop) (R : PS) : PS := fun r ρ μ => match r with
  | .next => K ρ μ
  | .ret v => R (.ret v) ρ μ
  | .exc => False
noncomputable def whlQ (C : List V → Mu → (Bool → Mu → Prop) → Prop) (B : List V → Mu → PS → Prop) (K : List V → Mu → Prop) (R : PS) : Nat → List V → Mu → Prop
  | 0, _, _ => False
  | n + 1, ρ, μ => C ρ μ fun z μ' => brq z (B ρ μ' (thnL (whlQ C B K R n) R)) (K ρ μ')
noncomputable def tgtQ (is : List Nat) (v : V) (ρ : List V) (K : List V → Prop) : Prop := match is with
  | [i] => K (lset ρ i v)
  | _ => tupQ v fun l => asgQ is l ρ K
noncomputable def forQ (is : List Nat) (B : List V → Mu → PS → Prop) (K : List V → Mu → Prop) (R : PS) : List V → List V → Mu → Prop
  | [], ρ, μ => K ρ μ
  | v :: l, ρ, μ => tgtQ is v ρ fun ρ' => B ρ' μ (thnL (forQ is B K R l) R)
noncomputable def seqQ (v : V) (K : List V → Prop) : Prop := match v with
  | .tup l => K l
  | .list l => K l
  | _ => False
noncomputable def rawQ (v : V) (K : Addr → Prop) : Prop := match v with
  | .raw r => refQ r K
  | _ => False
noncomputable def hnd (v : V) : Bool := match v with
  | .un => false
  | .raw r => handedIn r
  | _ => true
/-- an owned list is turned -/
noncomputable def cellQ (μ : Mu) (a : Addr) (f : List V → List V → Prop) (K : Mu → Prop) : Prop := ∃ μ1 l l' μ2, μ = μ1 ++ .lst a l :: μ2 ∧ l.length ≤ 1000 ∧ f l l' ∧ K (μ1 ++ .lst a l' :: μ2)
noncomputable def wS (w : World) (k : Nat) : T → List V → Mu → PS → Prop
  | .done, ρ, μ, R => R .next ρ μ
  | .asg i e t, ρ, μ, R => wE w k e ρ μ fun v μ' => wS w k t (lset ρ i v) μ' R
  | .asgT sw is e t, ρ, μ, R => wE w k e ρ μ fun v μ' => tupQ v fun l => (match sw with
    | false => asgQ is l ρ fun ρ' => wS w k t ρ' μ' R
    | true => asgQ is.reverse l.reverse ρ fun ρ' => wS w k t ρ' μ' R)
  | .asgN is js e t, ρ, μ, R => wE w k e ρ μ fun v μ' => tupQ v fun l => ∃ l1 l2, l = l1 ++ [.tup l2] ∧ asgQ is l1 ρ fun ρ' => asgQ js l2 ρ' fun ρ'' => wS w k t ρ'' μ' R
  | .ret e, ρ, μ, R => wE w k e ρ μ fun v μ' => R (.ret v) ρ μ'
  | .retF _ e, ρ, μ, R => wE w k e ρ μ fun v μ' => rawQ v fun a => ∃ μ1 l μ2, μ' = μ1 ++ .lst a l :: μ2 ∧ R (.ret (.list l)) ρ (μ1 ++ μ2)
  | .ife c a b t, ρ, μ, R => wE w k c ρ μ fun v μ' => truthQ v fun z => brq z (wS w k a ρ μ' (thn (fun ρ' μ'' => wS w k t ρ' μ'' R) R)) (wS w k b ρ μ' (thn (fun ρ' μ'' => wS w k t ρ' μ'' R) R))
  | .expr e t, ρ, μ, R => wE w k e ρ μ fun _ μ' => wS w k t ρ μ' R
  | .dead, _, _, _ => False
  | .exc, ρ, μ, R => 3 ≤ k ∧ R .exc ρ μ
  | .whl c b t, ρ, μ, R => ∃ n, whlQ (fun ρ μ K => wE w k c ρ μ fun v μ' => truthQ v fun z => K z μ') (fun ρ μ R => wS w k b ρ μ R) (fun ρ μ => wS w k t ρ μ R) R n ρ μ
  | .forV is e b t, ρ, μ, R => wE w k e ρ μ fun v μ' => seqQ v fun l => forQ is (fun ρ μ R => wS w k b ρ μ R) (fun ρ μ => wS w k t ρ μ R) R l ρ μ'
  | .forR lo i e b t, ρ, μ, R => wE w k e ρ μ fun v μ' => intQ v fun n => (((lo : Int) ≤ n ∧ n ≤ 1000) ∧ lo ≤ 1000) ∧ ∃ J : Nat → List V → Mu → Prop, J 0 ρ μ' ∧ (∀ (j : Nat) ρ₁ μ₁, (lo : Int) + j < n → J j ρ₁ μ₁ → wS w k b (lset ρ₁ i (.int (lo + j))) μ₁ fun r ρ₂ μ₂ => r = .next ∧ J (j + 1) ρ₂ μ₂) ∧
      ∀ ρ₁ μ₁, J (n - lo).toNat ρ₁ μ₁ → wS w k t ρ₁ μ₁ R
  | .setI i n e t, ρ, μ, R => wE w k e ρ μ fun v μ' => rawQ (lget ρ i) fun a => cellQ μ' a (fun l l' => n < l.length ∧ l' = lset l n v) fun μ'' => wS w k t ρ μ'' R
  | .setII i n1 n2 e t, ρ, μ, R => wE w k e ρ μ fun v μ' => rawQ (lget ρ i) fun a => ∃ v1 v2, v = .tup [v1, v2] ∧ cellQ μ' a (fun l l' => (n1 < l.length ∧ n2 < l.length) ∧ l' = lset (lset l n1 v1) n2 v2) fun μ'' => wS w k t ρ μ'' R
  | .app i e t, ρ, μ, R => rawQ (lget ρ i) fun a => (∃ l, Cell.lst a l ∈ μ) ∧ wE w k e ρ μ fun v μ' => cellQ μ' a (fun l l' => l' = l ++ [v]) fun μ'' => wS w k t ρ μ'' R
  | .setA i j e t, ρ, μ, R => wE w k e ρ μ fun v μ' => rawQ (lget ρ i) fun a => ∃ C js l μ1 μ2, μ' = μ1 ++ .ins a C js l :: μ2 ∧ ((∃ fs, cTab.lookup C = some fs ∧ fs.take (js.length + 1) = js ++ [j]) ∧ js.length ≤ 30) ∧ hnd v = true ∧ wS w k t ρ (μ1 ++ .ins a C (js ++ [j]) (l ++ [v]) :: μ2) R
noncomputable def vAsg (s : Stmt) : Option (List Expr × Expr × Pos) := match s with
  | .Assign ts v p => some (ts, v, p)
  | _ => none
noncomputable def vRet (s : Stmt) : Option Expr := match s with
  | .Return v _ => v
  | _ => none
noncomputable def vIf (s : Stmt) : Option (Expr × List Stmt × List Stmt) := match s with
  | .If t x y _ => some (t, x, y)
  | _ => none
noncomputable def vExp (s : Stmt) : Option (Expr × Pos) := match s with
  | .Expr v p => some (v, p)
  | _ => none
noncomputable def vWhl (s : Stmt) : Option (Expr × List Stmt × List Stmt) := match s with
  | .While t x y _ => some (t, x, y)
  | _ => none
noncomputable def vFor (s : Stmt) : Option (Expr × Expr × List Stmt × List Stmt) := match s with
  | .For y it x z _ => some (y, it, x, z)
  | _ => none
noncomputable def vRai (s : Stmt) : Option Expr := match s with
  | .Raise v none _ => v
  | _ => none
theorem vAsg_eq {s : Stmt} {y : List Expr × Expr × Pos} (h : vAsg s = some y) : s = .Assign y.1 y.2.1 y.2.2 := by
  cases s <;> first | exact noS h | (cases h; rfl)
theorem vRet_eq {s : Stmt} {y : Expr} (h : vRet s = some y) : ∃ p, s = .Return (some y) p := by
  cases s <;> first | exact noS h | (cases h; exact ⟨_, rfl⟩)
theorem vIf_eq {s : Stmt} {y : Expr × List Stmt × List Stmt} (h : vIf s = some y) : ∃ p, s = .If y.1 y.2.1 y.2.2 p := by
  cases s <;> first | exact noS h | (cases h; exact ⟨_, rfl⟩)
theorem vExp_eq {s : Stmt} {y : Expr × Pos} (h : vExp s = some y) : s = .Expr y.1 y.2 := by
  cases s <;> first | exact noS h | (cases h; rfl)
theorem vWhl_eq {s : Stmt} {y : Expr × List Stmt × List Stmt} (h : vWhl s = some y) : ∃ p, s = .While y.1 y.2.1 y.2.2 p := by
  cases s <;> first | exact noS h | (cases h; exact ⟨_, rfl⟩)
theorem vFor_eq {s : Stmt} {y : Expr × Expr × List Stmt × List Stmt} (h : vFor s = some y) : ∃ p, s = .For y.1 y.2.1 y.2.2.1 y.2.2.2 p := by
  cases s <;> first | exact noS h | (cases h; exact ⟨_, rfl⟩)
theorem vRai_eq {s : Stmt} {y : Expr} (h : vRai s = some y) : ∃ p, s = .Raise (some y) none p := by
  cases s with
  | Raise v c p => cases c with
    | none => exact ⟨p, by rw [show v = some y from h]⟩
    | some _ => exact noS h
  | _ => exact noS h
noncomputable def swM (cs : Scope) (ts : List Expr) (v : Expr) : Option (Option (List Str)) := match v with
  | .Tuple vs _ _ =>
    if (!(ts.length == 2 || ts.length == 3) || vs.length != ts.length) = true then some none
    else if (vs.any fun | .Starred .. => true | _ => false) = true then some none
    else
      let line := (Option.map (fun x => x.pos.line) ts.head?).getD 0
      let names := List.filterMap (fun | .Name id pos => if (cs.names.lookup id == some .local && pos.line == line) = true then some id else none | _ => none) ts
      if (names.length != ts.length || names.eraseDups.length != names.length) = true then some none
      else if vs.all (foldedForSure 8) = true then some none
      else if vs.all (constantsAlone 8) = true then none else some (some names)
  | _ => some none
theorem swM_snd {cs : Scope} {ts : List Expr} {v : Expr} {r : Option (List Str)} {env : Env} {kd : Nat} {p : Pos} (h : swM cs ts v = some r) (he : env.scope = cs) (hk : cs.kind = .function) : swappedStores [.Tuple ts kd p] v env = pure r := by
  have hb : env.blockKind = .function := by unfold Env.blockKind; rw [he, hk]; rfl
  cases v with
  | Tuple vs k2 p2 =>
    unfold swM at h
    unfold swappedStores
    dsimp only at h ⊢
    rw [hb]
    simp only [bne_self_eq_false, Bool.or_false]
    have hkind : ∀ id, env.kindOf id = cs.names.lookup id := fun id => by unfold Env.kindOf; rw [he]
    simp only [hkind]
    split at h
    · rename_i c; cases h; exact if_pos c
    · rename_i c; refine (if_neg c).trans ?_
      split at h
      · rename_i c; cases h; exact if_pos c
      · rename_i c; refine (if_neg c).trans ?_
        split at h
        · rename_i c; cases h; exact if_pos c
        · rename_i c; refine (if_neg c).trans ?_
          split at h
          · rename_i c; cases h; exact if_pos c
          · rename_i c; refine (if_neg c).trans ?_
            split at h
            · first | exact no_some h | exact no_ft h | cases h
            · rename_i c; cases h; exact if_neg c
  | _ => cases h; rfl
noncomputable def notComp : Expr → Bool
  | .ListComp .. => false
  | .SetComp .. => false
  | .DictComp .. => false
  | _ => true
noncomputable def tgt (ns : List Str) : List Nat → List Expr → Bool
  | [], [] => true
  | i :: is, e :: es => (uName e).any (fun x => ns[i]? == some x) && tgt ns is es
  | _, _ => false
noncomputable def tgtN (ns : List Str) : List Nat → List Str → Bool
  | [], [] => true
  | i :: is, x :: xs => ns[i]? == some x && tgtN ns is xs
  | _, _ => false
noncomputable def swOK (cs : Scope) (ns : List Str) (sw : Bool) (is : List Nat) (ts : List Expr) (v : Expr) : Bool := match swM cs ts v with
  | some none => !sw
  | some (some names) => sw && tgtN ns is.reverse names.reverse
  | none => false
noncomputable def tgtE (ns : List Str) (is : List Nat) (e : Expr) : Bool := match is with
  | [i] => (uName e).any fun x => ns[i]? == some x
  | is => (uTup e).any fun ts => tgt ns is ts.1
/-- xs[n] as a target -/
noncomputable def subT (ns : List Str) (i n : Nat) (e : Expr) : Bool := (uSub e).any fun y => (uName y.1).any (fun x => ns[i]? == some x) && cNat y.2.1 n
noncomputable def rngA (lo : Nat) (as : List Expr) : Option Expr := match lo with
  | 0 => one as
  | lo => (two as).bind fun z => if cNat z.1 lo then some z.2 else none
noncomputable def rng (cs : Scope) (lo : Nat) (e : Expr) : Option Expr := (uCall e).bind fun y => if y.2.2.1.isEmpty && (uName y.1).any (gnm cs 58) then rngA lo y.2.1 else none
noncomputable def appC (ns : List Str) (i : Nat) (e : Expr) : Option Expr := (uCall e).bind fun y => if y.2.2.1.isEmpty && ((uAttr y.1).any fun z => z.2.1 == Str.ofString "append" && ((uName z.1).any (fun x => ns[i]? == some x) && z.2.2.endLine == y.2.2.2.line)) then one y.2.1 else none
noncomputable def raiseS (cs : Scope) (e : Expr) : Bool := (uCall e).any fun y => y.2.2.1.isEmpty && ((uName y.1).any (fun x => x == Str.ofString "TxFault" && cs.names.lookup x == some .globalImplicit) && ((one y.2.1).any fun a => uConst a == some (.str (stN 2))))
noncomputable def chkS (cs : Scope) (ns : List Str) : T → List Stmt → Bool
  | .done, b => b.isEmpty
  | .dead, _ => true
  | .asg i e t, b => (unc b).any fun z => (vAsg z.1).any fun y => (one y.1).any fun g => (uName g).any (fun x => ns[i]? == some x) && (notComp y.2.1 && (chk cs ns e true y.2.1 && chkS cs ns t z.2))
  | .asgT sw is e t, b => (unc b).any fun z => (vAsg z.1).any fun y => (one y.1).any fun g => (uTup g).any fun ts => tgt ns is ts.1 && (swOK cs ns sw is ts.1 y.2.1 && (notComp y.2.1 && (chk cs ns e true y.2.1 && chkS cs ns t z.2)))
  | .asgN is js e t, b => (unc b).any fun z => (vAsg z.1).any fun y => (one y.1).any fun g => (uTup g).any fun ts => (uTup (ts.1.getLastD g)).any fun us => !ts.1.isEmpty && (tgt ns is ts.1.dropLast && (tgt ns js us.1 && (swM cs ts.1 y.2.1 == some none && (notComp y.2.1 && (chk cs ns e true y.2.1 && chkS cs ns t z.2)))))
  | .ret e, b => (unc b).any fun z => (vRet z.1).any fun v => chk cs ns e true v
  | .retF _ e, b => (unc b).any fun z => (vRet z.1).any fun v => chk cs ns e true v
  | .ife c x y t, b => (unc b).any fun z => (vIf z.1).any fun u => chk cs ns c true u.1 && (chkS cs ns x u.2.1 && (chkS cs ns y u.2.2 && chkS cs ns t z.2))
  | .expr e t, b => (unc b).any fun z => (vExp z.1).any fun u => notComp u.1 && (chk cs ns e true u.1 && chkS cs ns t z.2)
  | .exc, b => (unc b).any fun z => (vRai z.1).any (raiseS cs)
  | .whl c x t, b => (unc b).any fun z => (vWhl z.1).any fun u => u.2.2.isEmpty && (chk cs ns c true u.1 && (chkS cs ns x u.2.1 && chkS cs ns t z.2))
  | .forV is e x t, b => (unc b).any fun z => (vFor z.1).any fun u => u.2.2.2.isEmpty && (tgtE ns is u.1 && (notSet u.2.1 && (chk cs ns e true u.2.1 && (chkS cs ns x u.2.2.1 && chkS cs ns t z.2))))
  | .forR lo i e x t, b => (unc b).any fun z => (vFor z.1).any fun u => (rng cs lo u.2.1).any fun a => u.2.2.2.isEmpty && (tgtE ns [i] u.1 && (notStar a && (chk cs ns e true a && (chkS cs ns x u.2.2.1 && chkS cs ns t z.2))))
  | .setI i n e t, b => (unc b).any fun z => (vAsg z.1).any fun y => (one y.1).any fun g => subT ns i n g && (notComp y.2.1 && (chk cs ns e true y.2.1 && chkS cs ns t z.2))
  | .setII i n1 n2 e t, b => (unc b).any fun z => (vAsg z.1).any fun y => (one y.1).any fun g => (uTup g).any fun ts => (two ts.1).any fun gg => subT ns i n1 gg.1 && (subT ns i n2 gg.2 && (swM cs ts.1 y.2.1 == some none && (notComp y.2.1 && (chk cs ns e true y.2.1 && chkS cs ns t z.2))))
  | .app i e t, b => (unc b).any fun z => (vExp z.1).any fun u => (appC ns i u.1).any fun a => notStar a && (chk cs ns e true a && chkS cs ns t z.2)
  | .setA i j e t, b => (unc b).any fun z => (vAsg z.1).any fun y => (one y.1).any fun g => (uAttr g).any fun h => h.2.1 == atN j && ((uName h.1).any (fun x => ns[i]? == some x) && (notComp y.2.1 && (chk cs ns e true y.2.1 && chkS cs ns t z.2)))
theorem lget_set : ∀ (ρ : List V) (i : Nat) (d : V), lget (lset ρ i d) i = .un ∨ lget (lset ρ i d) i = d
  | [], _, _ => .inl rfl
  | _ :: _, 0, _ => .inr rfl
  | _ :: l, i + 1, d => lget_set l i d
theorem lget_ne : ∀ (ρ : List V) (i j : Nat) (d : V), j ≠ i → lget (lset ρ i d) j = lget ρ j
  | [], _, _, _, _ => rfl
  | _ :: _, 0, 0, _, h => absurd rfl h
  | _ :: _, 0, _ + 1, _, _ => rfl
  | _ :: _, _ + 1, 0, _, _ => rfl
  | _ :: l, i + 1, j + 1, d, h => lget_ne l i j d fun e => h (congrArg (· + 1) e)
theorem LocOK.store {ns : List Str} {imm : Led} {m : Str → Option Value} {ρ : List V} {i : Nat} {x : Str} {v : Value} {d : V} (h : LocOK ns imm m ρ) (nd : ns.Nodup) (hx : ns[i]? = some x) (hr : Rp imm v d) :
    LocOK ns imm (fun y => if y = x then some v else m y) (lset ρ i d) := by
  intro j y hy
  by_cases e : j = i
  · subst e
    rw [hx] at hy; cases hy
    rcases lget_set ρ j d with q | q
    · exact .inl q
    · exact .inr ⟨v, if_pos rfl, by rw [q]; exact hr⟩
  · rw [lget_ne ρ i j d e]
    refine (h j y hy).imp id fun ⟨u, a, b⟩ => ⟨u, ?_, b⟩
    have : y ≠ x := fun q => by
      subst q
      obtain ⟨hj, ej⟩ := List.getElem?_eq_some_iff.mp hy
      obtain ⟨hi, ei⟩ := List.getElem?_eq_some_iff.mp hx
      exact e ((List.getElem_inj nd).mp (ej.trans ei.symm))
    exact (if_neg this).trans a
noncomputable def RF (imm : Led) (f : Flow) (r : Out) : Prop := match r with
  | .next => f = .next
  | .ret d => ∃ v, f = .ret v ∧ Rp imm v d
  | .exc => False
/-- the ledger of a TxFault("signature") -/
noncomputable def TxE (e t dx : Addr) (h0 : Int) (tk0 tk1 : Tok) : Led := [(e, { cls := .ref 105, dict := some dx, data := .fields #[.ref t, .none, .none, .none, .bool false, .none] }), (dx, dictOf [⟨h0, .str (Str.ofString "word") tk0, .str (Str.ofString "signature") tk1⟩] 1), (t, tupO [.str (Str.ofString "signature") tk1])]
/-- the exception that flies in its own frame -/
structure Fly (c : FC) (m : Str → Option Value) (a b : Po) (e : Value) : Prop where
  ex : ∃ (x t dx : Addr) (h0 : Int) (tk0 tk1 : Tok) (ml : Led), e = .ref x ∧ Fr c.h₀ c.L b.s.heap m ∧ MR b.imm b.μ ml ∧ Apart ml b.imm ∧ (∀ p ∈ a.imm, p ∈ b.imm) ∧ News c.h₀ c.L b.s.heap (TxE x t dx h0 tk0 tk1 ++ (ml ++ b.imm)) ∧ (∀ p ∈ ml ++ b.imm, p.1 ≠ x) ∧ b.s = { a.s with heap := b.s.heap, toks := b.s.toks }
noncomputable def EvS (c : FC) (a : Po) (t : Sem Flow) (R : PS) : Prop :=
  ∀ (Q' : Flow → Shared → Prop) (E' : Value → Shared → Prop), (∀ f r ρ m b, R r ρ b.μ → RF b.imm f r → LocOK c.ns b.imm m ρ → Nx c m a b → Q' f b.s) → (∀ e ρ m b, R .exc ρ b.μ → Fly c m a b e → E' e b.s) → wpAny c.M c.A t Q' E' a.s
noncomputable def PSt (t : T) : Prop := ∀ (c : FC) (m : Str → Option Value) (ρ : List V) (a : Po) (R : PS) (body : List Stmt), chkS c.cs c.ns t body = true → Cx c m ρ a → wS c.w c.k t ρ a.μ R → EvS c a (execs body c.env) R
section
variable {c : FC} {m : Str → Option Value} {ρ : List V} {a : Po}
noncomputable abbrev PostS (c : FC) (a : Po) (R : PS) (Q' : Flow → Shared → Prop) : Prop := ∀ f r ρ m b, R r ρ b.μ → RF b.imm f r → LocOK c.ns b.imm m ρ → Nx c m a b → Q' f b.s
noncomputable abbrev ExcS (c : FC) (a : Po) (R : PS) (E' : Value → Shared → Prop) : Prop := ∀ e ρ m b, R .exc ρ b.μ → Fly c m a b e → E' e b.s
theorem Fly.from {m' : Str → Option Value} {b d : Po} {e : Value} (n : Nx c m' a b) (h : Fly c m b d e) : Fly c m a d e := by
  obtain ⟨x, t, dx, h0, tk0, tk1, ml, e1, e2, e3, e4, e5, e6, e7, e8⟩ := h.ex
  exact ⟨x, t, dx, h0, tk0, tk1, ml, e1, e2, e3, e4, fun p hp => e5 p (n.hs p hp), e6, e7, by rw [e8, n.e]⟩
theorem store_snd {i : Nat} {x : Str} {v : Value} {d : V} {Q' : Unit → Shared → Prop} {E' : Value → Shared → Prop} (cx : Cx c m ρ a) (hx : c.ns[i]? = some x) (hr : Rp a.imm v d)
    (post : ∀ m' b, Cx c m' (lset ρ i d) b → Nx c m' a b → b.μ = a.μ → Q' () b.s) : wpAny c.M c.A (storeName c.env x v) Q' E' a.s := by
  obtain ⟨ml, N⟩ := cx.nx.N
  refine storeX_L cx.nx.F N.n (fun h' F' N' => ?_) cx.ok.kind (cx.sc.loc x (List.mem_of_getElem? hx))
  exact post _ ⟨a.μ, a.imm, { a.s with heap := h', toks := _ }⟩ ⟨cx.sc, cx.ok, cx.lo.store cx.sc.nd hx hr, ⟨fun _ h => h, F', ⟨ml, N.r, N', N.ap⟩, rfl⟩⟩ ⟨fun _ h => h, F', ⟨ml, N.r, N', N.ap⟩, rfl⟩ rfl
theorem notComp_swaps {v : Expr} {t : Option Expr} {l : Nat} {env : Env} (h : notComp v = true) : swapsWith v t l env = pure false := by
  cases v <;> first | rfl | exact absurd h Bool.false_ne_true
theorem st_done : PSt .done := by
  intro c m ρ a R body h0 cx hq Q' E' post exc
  obtain rfl : body = [] := List.isEmpty_iff.mp h0
  exact wpAny_execs_nil (post _ .next ρ m a hq rfl cx.lo cx.nx)
theorem st_dead : PSt .dead := fun _ _ _ _ _ _ _ _ hq => False.elim hq
/-- the continuation of a statement -/
theorem st_next {t : T} {rest : List Stmt} {Q' : Flow → Shared → Prop} {E' : Value → Shared → Prop} {R : PS} {m' : Str → Option Value} {b : Po} (ht : PSt t) (hc : chkS c.cs c.ns t rest = true) (cx : Cx c m ρ b) (n : Nx c m' a b) (hq : wS c.w c.k t ρ b.μ R)
    (post : PostS c a R Q') (exc : ExcS c a R E') : wpAny c.M c.A (execs rest c.env) Q' E' b.s :=
  ht c m ρ b R rest hc cx hq Q' E' (fun f r ρ m d hR hf hl n2 => post f r ρ m d hR hf hl (n.trans n2)) fun e ρ m d hR hf => exc e ρ m d hR (hf.from n)
theorem st_asg {i : Nat} {e : X} {t : T} (ht : PSt t) : PSt (.asg i e t) := by
  intro c m ρ a R body h0 cx hq Q' E' post exc
  obtain ⟨⟨st, r⟩, hu, hc⟩ := any_ex h0
  obtain rfl := unc_eq hu; clear h0 hu
  obtain ⟨⟨ts, v, vp⟩, hu, hc⟩ := any_ex hc
  obtain ⟨g, hg, hc⟩ := any_ex hc
  obtain ⟨c1, hc⟩ := and_ex hc
  obtain ⟨c2, hc⟩ := and_ex hc
  obtain ⟨c4, c5⟩ := and_ex hc
  obtain ⟨x, hx, c1⟩ := any_ex c1
  obtain ⟨xp, hxe⟩ := uName_eq hx
  have e0 : ts = [g] := one_eq hg
  have e1 : st = .Assign [.Name x xp] v vp := (vAsg_eq hu).trans (by rw [← hxe, ← e0])
  dsimp only
  rw [e1]
  refine wpAny_execs_cons (wpAny_Assign_Name ((sound e).1 c m ρ a _ v c4 cx hq _ _ fun v1 d1 b1 q1 r1 n1 => ?_) (notComp_swaps c2))
  refine store_snd (cx.next n1) (eq_of_beq c1) r1 fun m' b cx' n' hμ => ?_
  exact st_next ht c5 cx' (n1.trans n') (hμ ▸ q1) post exc
end
theorem one_stmt {b : List Stmt} {p : Stmt × List Stmt → Bool} (h : ((unc b).any p) = true) : ∃ s r, b = s :: r ∧ p (s, r) = true := by
  obtain ⟨⟨s, r⟩, hu, hc⟩ := any_ex h
  exact ⟨s, r, unc_eq hu, hc⟩
theorem st_expr {e : X} {t : T} (ht : PSt t) : PSt (.expr e t) := by
  intro c m ρ a R body h0 cx hq Q' E' post exc
  obtain ⟨st, r, rfl, hc⟩ := one_stmt h0; clear h0
  obtain ⟨⟨v, vp⟩, hu, hz⟩ := any_ex hc
  obtain rfl := vExp_eq hu; clear hu hc
  obtain ⟨c2, hz⟩ := and_ex hz
  obtain ⟨c4, c5⟩ := and_ex hz
  have hi : interactive c.env = false := by
    show (c.cs.kind == ScopeKind.module && _) = false
    rw [cx.ok.kind]; rfl
  refine wpAny_execs_cons (wpAny_Expr_any ((sound e).1 c m ρ a _ v c4 cx hq _ _ fun v1 d1 b1 q1 r1 n1 => ?_) hi (notComp_swaps c2))
  exact st_next ht c5 (cx.next n1) n1 q1 post exc
theorem st_ret {e : X} : PSt (.ret e) := by
  intro c m ρ a R body h0 cx hq Q' E' post exc
  obtain ⟨st, r, rfl, hc⟩ := one_stmt h0; clear h0
  obtain ⟨v, hu, hz⟩ := any_ex hc
  obtain ⟨p, rfl⟩ := vRet_eq hu; clear hu hc
  refine wpAny_execs_cons (wpAny_Return_some ((sound e).1 c m ρ a _ v hz cx hq _ _ fun v1 d1 b1 q1 r1 n1 => ?_))
  exact post _ (.ret d1) ρ m b1 q1 ⟨v1, rfl, r1⟩ (cx.lo.mono n1.hs) n1
theorem rf_cases {imm : Led} {f : Flow} {r : Out} (h : RF imm f r) : (r = .next ∧ f = .next) ∨ ∃ d v, r = .ret d ∧ f = .ret v ∧ Rp imm v d := by
  cases r with
  | next => exact .inl ⟨rfl, h⟩
  | ret d => obtain ⟨v, rfl, hr⟩ := h; exact .inr ⟨d, v, rfl, rfl, hr⟩
  | exc => exact h.elim
theorem st_ife {e : X} {x y t : T} (ha : PSt x) (hb : PSt y) (ht : PSt t) : PSt (.ife e x y t) := by
  intro c m ρ a R body h0 cx hq Q' E' post exc
  obtain ⟨st, r, rfl, hc⟩ := one_stmt h0; clear h0
  obtain ⟨⟨tst, bx, by_⟩, hu, hz⟩ := any_ex hc
  obtain ⟨p, rfl⟩ := vIf_eq hu; clear hu hc
  obtain ⟨c2, hz⟩ := and_ex hz
  obtain ⟨c3, hz⟩ := and_ex hz
  obtain ⟨c4, c5⟩ := and_ex hz
  refine wpAny_execs_cons (wpAny_If ((sound e).2.1 c m ρ a (fun z μ' => brq z (wS c.w c.k x ρ μ' (thn (fun ρ' μ'' => wS c.w c.k t ρ' μ'' R) R)) (wS c.w c.k y ρ μ' (thn (fun ρ' μ'' => wS c.w c.k t ρ' μ'' R) R))) tst _ c2 rfl cx hq _ _ fun v1 d1 b1 q1 r1 n1 => ?_))
  cases r1
  have fin : ∀ (u : T) (bu : List Stmt), PSt u → chkS c.cs c.ns u bu = true → wS c.w c.k u ρ b1.μ (thn (fun ρ' μ'' => wS c.w c.k t ρ' μ'' R) R) →
      wpAny c.M c.A (execs bu c.env) (fun f s' => match f with | .next => wpAny c.M c.A (execs r c.env) Q' E' s' | f => Q' f s') E' b1.s := by
    intro u bu hu cu qu
    refine hu c m ρ b1 _ bu cu (cx.next n1) qu _ _ (fun f rr ρ' m' b hR hf hl n => ?_) fun e ρ' m' b hR hf => exc e ρ' m' b hR (hf.from n1)
    rcases rf_cases hf with ⟨rfl, rfl⟩ | ⟨d, v, rfl, rfl, hr⟩
    · exact st_next ht c5 ⟨cx.sc, cx.ok, hl, n.here⟩ (n1.trans n) hR post exc
    · exact post _ (.ret d) ρ' m' b hR ⟨v, rfl, hr⟩ hl (n1.trans n)
  cases v1 with
  | true => exact fin x bx ha c3 q1
  | false => exact fin y by_ hb c4 q1
section
variable {c : FC}
theorem tgt_snd : ∀ {is : List Nat} {ts : List Expr} {vs : List Value} {ds : List V} {m : Str → Option Value} {ρ : List V} {a : Po} {K : List V → Prop} {Q' : Unit → Shared → Prop} {E' : Value → Shared → Prop}, tgt c.ns is ts = true → Cx c m ρ a → Rps a.imm vs ds → asgQ is ds ρ K →
    (∀ m' ρ' b, K ρ' → Cx c m' ρ' b → Nx c m' a b → b.μ = a.μ → Q' () b.s) → wpAny c.M c.A (assignInOrder ((assignEach ts c.env).map (·.2)) vs) Q' E' a.s := by
  intro is
  induction is with
  | nil =>
    intro ts vs ds m ρ a K Q' E' ht cx hr hq post
    cases ts with
    | cons _ _ => exact absurd ht Bool.false_ne_true
    | nil => cases hr with
      | nil => exact assignInOrder_nil (post m ρ a hq cx cx.nx rfl)
      | cons _ _ => exact hq.elim
  | cons i is ih =>
    intro ts vs ds m ρ a K Q' E' ht cx hr hq post
    cases ts with
    | nil => exact absurd ht Bool.false_ne_true
    | cons e ts => cases hr with
      | nil => exact hq.elim
      | cons h1 h2 =>
        obtain ⟨t1, t2⟩ := and_ex ht
        obtain ⟨x, hx, t1⟩ := any_ex t1
        obtain ⟨xp, rfl⟩ := uName_eq hx
        refine assignInOrder_cons (PyProof.Rows.assign_Name (store_snd cx (eq_of_beq t1) h1 fun m' b cx' n' hμ => ?_))
        exact ih t2 cx' (h2.mono n'.hs) hq fun m'' ρ' d hK cx'' n'' hμ' => post m'' ρ' d hK cx'' (n'.trans n'') (hμ'.trans hμ)
theorem tgtN_snd : ∀ {is : List Nat} {xs : List Str} {vs : List Value} {ds : List V} {m : Str → Option Value} {ρ : List V} {a : Po} {K : List V → Prop} {Q' : Unit → Shared → Prop} {E' : Value → Shared → Prop}, tgtN c.ns is xs = true → Cx c m ρ a → Rps a.imm vs ds → asgQ is ds ρ K →
    (∀ m' ρ' b, K ρ' → Cx c m' ρ' b → Nx c m' a b → b.μ = a.μ → Q' () b.s) → wpAny c.M c.A (assignInOrder (xs.map fun n => bindName c.env n) vs) Q' E' a.s := by
  intro is
  induction is with
  | nil =>
    intro xs vs ds m ρ a K Q' E' ht cx hr hq post
    cases xs with
    | cons _ _ => exact absurd ht Bool.false_ne_true
    | nil => cases hr with
      | nil => exact assignInOrder_nil (post m ρ a hq cx cx.nx rfl)
      | cons _ _ => exact hq.elim
  | cons i is ih =>
    intro xs vs ds m ρ a K Q' E' ht cx hr hq post
    cases xs with
    | nil => exact absurd ht Bool.false_ne_true
    | cons x xs => cases hr with
      | nil => exact hq.elim
      | cons h1 h2 =>
        obtain ⟨t1, t2⟩ := and_ex ht
        refine assignInOrder_cons (bindName_ (store_snd cx (eq_of_beq t1) h1 fun m' b cx' n' hμ => ?_))
        exact ih t2 cx' (h2.mono n'.hs) hq fun m'' ρ' d hK cx'' n'' hμ' => post m'' ρ' d hK cx'' (n'.trans n'') (hμ'.trans hμ)
theorem rps_rev {n : Led} {vs : List Value} {ds : List V} (h : Rps n vs ds) : Rps n vs.reverse ds.reverse := by
  induction vs generalizing ds with
  | nil => cases h; exact .nil
  | cons v vs ih => cases h with | cons a b => rw [List.reverse_cons, List.reverse_cons]; exact rps_app (ih b) (.cons a .nil)
theorem asgQ_len : ∀ {is : List Nat} {ds ρ : List V} {K : List V → Prop}, asgQ is ds ρ K → is.length = ds.length
  | [], [], _, _, _ => rfl
  | _ :: is, _ :: ds, _, _, h => congrArg (· + 1) (asgQ_len (is := is) (ds := ds) h)
  | [], _ :: _, _, _, h => h.elim
  | _ :: _, [], _, _, h => h.elim
end
set_option tactic.hygienic true
theorem assignEach_tgt {ns : List Str} {env : Env} : ∀ {is : List Nat} {ts : List Expr}, tgt ns is ts = true → (assignEach ts env).length = is.length ∧ (assignEach ts env).findIdx? (·.1) = none
  | [], [], _ => ⟨rfl, rfl⟩
  | i :: is, e :: ts, h => by
    obtain ⟨h1, h2⟩ := and_ex h
    have ih := assignEach_tgt (env := env) h2
    obtain ⟨x, hx, _⟩ := any_ex h1
    obtain ⟨xp, rfl⟩ := uName_eq hx
    refine ⟨congrArg (· + 1) ih.1, ?_⟩
    show ((false, assign (.Name x xp) env) :: assignEach ts env).findIdx? (·.1) = none
    rw [List.findIdx?_cons, ih.2]; rfl
  | [], _ :: _, h => nomatch h
  | _ :: _, [], h => nomatch h
theorem tgtN_len {ns : List Str} : ∀ {is : List Nat} {xs : List Str}, tgtN ns is xs = true → is.length = xs.length
  | [], [], _ => rfl
  | _ :: is, _ :: xs, h => congrArg (· + 1) (tgtN_len (is := is) (xs := xs) (and_ex h).2)
  | [], _ :: _, h => nomatch h
  | _ :: _, [], h => nomatch h
section
variable {c : FC} {m : Str → Option Value} {ρ : List V} {a : Po}
/-- a tuple that lies in the ledger is unpacked to names -/
theorem unp_snd {ts : List Expr} {is : List Nat} {v : Value} {ds : List V} {K : List V → Prop} {Q' : Unit → Shared → Prop} {E' : Value → Shared → Prop} {kd : Nat} {tp : Pos} (hc : tgt c.ns is ts = true) (cx : Cx c m ρ a) (hr : Rp a.imm v (.tup ds)) (hq : asgQ is ds ρ K)
    (post : ∀ m' ρ' b, K ρ' → Cx c m' ρ' b → Nx c m' a b → b.μ = a.μ → Q' () b.s) : wpAny c.M c.A (assign (.Tuple ts kd tp) c.env v) Q' E' a.s := by
  cases hr with
  | tup hm rr =>
    rename_i x vs
    have hl := rr.length
    have hq2 := asgQ_len hq
    obtain ⟨ml, N⟩ := cx.nx.N
    refine unpackN_ cx.nx.F N.n (N.n.isTup (List.mem_append_right _ hm)) rfl ?_ (assignEach_tgt hc).2 fun h' F' N' => ?_
    · rw [(assignEach_tgt hc).1, List.size_toArray, hl]; exact hq2
    · have n : Nx c m a ⟨a.μ, a.imm, { a.s with heap := h' }⟩ := ⟨fun _ h => h, F', ⟨ml, N.r, N', N.ap⟩, rfl⟩
      exact tgt_snd hc (cx.next n) (rr : Rps a.imm vs ds) hq fun m' ρ' b hK cx' n' hμ => post m' ρ' b hK cx' (n.trans n') hμ
end
theorem st_asgT {sw : Bool} {is : List Nat} {e : X} {t : T} (ht : PSt t) : PSt (.asgT sw is e t) := by
  intro c m ρ a R body h0 cx hq Q' E' post exc
  obtain ⟨st, r, rfl, hc⟩ := one_stmt h0; clear h0
  obtain ⟨⟨ts0, v, vp⟩, hu, hz⟩ := any_ex hc
  obtain rfl := vAsg_eq hu; clear hu hc
  obtain ⟨g, hg, hz⟩ := any_ex hz
  obtain rfl : ts0 = [g] := one_eq hg
  clear hg
  obtain ⟨⟨ts, tp⟩, hg, hz⟩ := any_ex hz
  obtain ⟨kd, rfl⟩ := uTup_eq hg; clear hg
  obtain ⟨c1, hz⟩ := and_ex hz
  obtain ⟨c2, hz⟩ := and_ex hz
  obtain ⟨c3, hz⟩ := and_ex hz
  obtain ⟨c4, c5⟩ := and_ex hz
  clear hz
  dsimp only at c1 c2 c3 c4 c5 ⊢
  have hsw : swapsWithSole [.Tuple ts kd tp] v vp.line c.env = pure false := (show swapsWith v (some (.Tuple ts kd tp)) vp.line c.env = pure false from notComp_swaps c3)
  unfold swOK at c2
  have he := (sound e).1 c m ρ a _ v c4 cx hq
  cases hw : swM c.cs ts v with
  | none => rw [hw] at c2; cases c2
  | some o =>
    rw [hw] at c2
    have hss := swM_snd (kd := kd) (p := tp) (env := c.env) hw rfl cx.ok.kind
    cases o with
    | none =>
      dsimp only at c2
      refine wpAny_execs_cons (Assign_Tuple (he _ _ fun v1 d1 b1 q1 r1 n1 => ?_) hsw hss)
      obtain ⟨ds, rfl, q2⟩ := tupQ_ex q1; clear q1
      have hf : sw = false := by simpa using c2
      subst hf
      exact unp_snd (K := fun ρ' => wS c.w c.k t ρ' b1.μ R) c1 (cx.next n1) r1 q2 fun m' ρ' b hK cx' n' hμ => st_next ht c5 cx' (n1.trans n') (hμ ▸ hK) post exc
    | some names =>
      dsimp only at c2
      obtain ⟨hf, c2⟩ := and_ex c2
      refine wpAny_execs_cons (Assign_Tuple_swapped (he _ _ fun v1 d1 b1 q1 r1 n1 => ?_) hsw hss)
      obtain ⟨ds, rfl, q2⟩ := tupQ_ex q1; clear q1
      subst hf
      cases r1 with
      | tup hm rr =>
        rename_i x vs
        have hl := rr.length
        have hq := asgQ_len q2
        have hn := tgtN_len c2
        simp only [List.length_reverse] at hq hn
        obtain ⟨ml, N⟩ := n1.N
        refine unpackItemsN_ n1.F N.n (N.n.isTup (List.mem_append_right _ hm)) rfl (by rw [List.size_toArray]; (first | lia | omega)) fun h' F' N' => ?_
        have n : Nx c m b1 ⟨b1.μ, b1.imm, { b1.s with heap := h' }⟩ := ⟨fun _ h => h, F', ⟨ml, N.r, N', N.ap⟩, rfl⟩
        refine tgtN_snd (K := fun ρ' => wS c.w c.k t ρ' b1.μ R) c2 ((cx.next n1).next n) (rps_rev (rr : Rps b1.imm vs ds)) q2 fun m' ρ' b hK cx' n' hμ => ?_
        exact st_next ht c5 cx' ((n1.trans n).trans n') ((hμ : b.μ = b1.μ) ▸ hK) post exc
section
variable {c : FC}
theorem tgtL_snd {g : Expr} {K : List V → Prop} {Q' : Unit → Shared → Prop} {E' : Value → Shared → Prop} {d : V} {u : Value} {K2 : List V → Prop}
    (last : ∀ {Q'' : Unit → Shared → Prop} {m : Str → Option Value} {ρ : List V} {a : Po}, Cx c m ρ a → Rp a.imm u d → K ρ → (∀ m' ρ' b, K2 ρ' → Cx c m' ρ' b → Nx c m' a b → b.μ = a.μ → Q'' () b.s) → wpAny c.M c.A (assign g c.env u) Q'' E' a.s) (hg : ∀ env, assignEach [g] env = [(false, assign g env)]) :
    ∀ {is : List Nat} {ts : List Expr} {vs : List Value} {ds : List V} {m : Str → Option Value} {ρ : List V} {a : Po}, tgt c.ns is ts = true → Cx c m ρ a → Rps a.imm vs ds → Rp a.imm u d → asgQ is ds ρ K →
    (∀ m' ρ' b, K2 ρ' → Cx c m' ρ' b → Nx c m' a b → b.μ = a.μ → Q' () b.s) → wpAny c.M c.A (assignInOrder ((assignEach (ts ++ [g]) c.env).map (·.2)) (vs ++ [u])) Q' E' a.s := by
  intro is
  induction is with
  | nil =>
    intro ts vs ds m ρ a ht cx hr hu hq post
    cases ts with
    | cons _ _ => exact absurd ht Bool.false_ne_true
    | nil => cases hr with
      | nil =>
        rw [List.nil_append, hg]
        exact assignInOrder_cons (last cx hu hq fun m' ρ' b k2 cx' n hμ => assignInOrder_nil (post m' ρ' b k2 cx' n hμ))
      | cons _ _ => exact hq.elim
  | cons i is ih =>
    intro ts vs ds m ρ a ht cx hr hu hq post
    cases ts with
    | nil => exact absurd ht Bool.false_ne_true
    | cons e ts => cases hr with
      | nil => exact hq.elim
      | cons h1 h2 =>
        obtain ⟨t1, t2⟩ := and_ex ht
        obtain ⟨x, hx, t1⟩ := any_ex t1
        obtain ⟨xp, rfl⟩ := uName_eq hx
        refine assignInOrder_cons (PyProof.Rows.assign_Name (store_snd cx (eq_of_beq t1) h1 fun m' b cx' n' hμ => ?_))
        exact ih t2 cx' (h2.mono n'.hs) (hu.mono n'.hs) hq fun m'' ρ' d hK cx'' n'' hμ' => post m'' ρ' d hK cx'' (n'.trans n'') (hμ'.trans hμ)
end
theorem mr_app {imm : Led} {μ1 μ2 : Mu} {l1 l2 : Led} (h1 : MR imm μ1 l1) (h2 : MR imm μ2 l2) : MR imm (μ1 ++ μ2) (l1 ++ l2) := by
  induction h1 with
  | nil => exact h2
  | cons a _ ih => rw [List.cons_append, List.append_assoc]; exact .cons a ih
theorem mr_split {imm : Led} {cl : Cell} {μ2 : Mu} : ∀ {μ1 : Mu} {ml : Led}, MR imm (μ1 ++ cl :: μ2) ml → ∃ l1 n l2, ml = l1 ++ (n ++ l2) ∧ MR imm μ1 l1 ∧ CR imm cl n ∧ MR imm μ2 l2 := by
  intro μ1
  induction μ1 with
  | nil => intro ml h; cases h with | cons a b => exact ⟨[], _, _, rfl, .nil, a, b⟩
  | cons x μ1 ih => intro ml h; cases h with
    | cons a b =>
      obtain ⟨l1, n, l2, rfl, h1, h2, h3⟩ := ih b
      exact ⟨_ ++ l1, n, l2, by rw [List.append_assoc], .cons a h1, h2, h3⟩
theorem apart_keys {ml ml' imm : Led} (h : Apart ml imm) (e : ml'.map (·.1) = ml.map (·.1)) : Apart ml' imm := by
  refine ⟨e ▸ h.1, fun p hp q hq => ?_⟩
  obtain ⟨p', hp', e'⟩ := List.mem_map.mp (e ▸ List.mem_map_of_mem hp : p.1 ∈ ml.map (·.1))
  exact e' ▸ h.2 p' hp' q hq
/-- no other cell has the address -/
theorem apart_off {pre post imm : Led} {x : Addr} {o : Obj} (h : Apart (pre ++ (x, o) :: post) imm) : (∀ p ∈ pre, p.1 ≠ x) ∧ ∀ p ∈ post ++ imm, p.1 ≠ x := by
  have h1 := h.1
  rw [List.map_append, List.map_cons, List.nodup_append, List.nodup_cons] at h1
  obtain ⟨-, ⟨h3, -⟩, h4⟩ := h1
  refine ⟨fun p hp => h4 _ (List.mem_map_of_mem hp) _ (.head _), fun p hp e => ?_⟩
  rcases List.mem_append.mp hp with hp | hp
  · exact h3 (e ▸ (List.mem_map_of_mem (f := (·.1)) hp : p.1 ∈ post.map (·.1)))
  · exact h.2 (x, o) (List.mem_append_right _ (.head _)) p hp e.symm
/-- one object of a cell is turned: what the heap must hold, and what then stands -/
theorem cell_turn {c : FC} {m : Str → Option Value} {a : Po} {μ1 μ2 : Mu} {cl cl' : Cell} {l1 l2 pre post : Led} {x : Addr} {o o' : Obj} (n : Nx c m a a) (hμ : a.μ = μ1 ++ cl :: μ2) (r1 : MR a.imm μ1 l1) (r2 : MR a.imm μ2 l2) (ap : Apart (l1 ++ ((pre ++ (x, o) :: post) ++ l2)) a.imm) (hc : CR a.imm cl' (pre ++ (x, o') :: post)) :
    (∀ p ∈ l1 ++ pre, p.1 ≠ x) ∧ (∀ p ∈ post ++ l2 ++ a.imm, p.1 ≠ x) ∧ ∀ h' tk m', Fr c.h₀ c.L h' m' → News c.h₀ c.L h' ((l1 ++ pre) ++ (x, o') :: (post ++ l2 ++ a.imm)) → Nx c m' a ⟨μ1 ++ cl' :: μ2, a.imm, { a.s with heap := h', toks := tk }⟩ := by
  have e0 : l1 ++ ((pre ++ (x, o) :: post) ++ l2) = (l1 ++ pre) ++ (x, o) :: (post ++ l2) := by simp
  obtain ⟨a1, a2⟩ := apart_off (e0 ▸ ap)
  refine ⟨a1, by simpa using a2, fun h' tk m' F' N' => ⟨fun _ h => h, F', ⟨l1 ++ ((pre ++ (x, o') :: post) ++ l2), mr_app r1 (.cons hc r2), ?_, apart_keys ap (by simp)⟩, rfl⟩⟩
  have e1 : (l1 ++ pre) ++ (x, o') :: (post ++ l2 ++ a.imm) = (l1 ++ ((pre ++ (x, o') :: post) ++ l2)) ++ a.imm := by simp
  exact e1 ▸ N'
theorem cell_news {c : FC} {h : Heap} {l1 l2 pre post imm : Led} {x : Addr} {o : Obj} (N : News c.h₀ c.L h ((l1 ++ ((pre ++ (x, o) :: post) ++ l2)) ++ imm)) : News c.h₀ c.L h ((l1 ++ pre) ++ (x, o) :: (post ++ l2 ++ imm)) := by
  have e1 : (l1 ++ pre) ++ (x, o) :: (post ++ l2 ++ imm) = (l1 ++ ((pre ++ (x, o) :: post) ++ l2)) ++ imm := by simp
  exact e1 ▸ N
theorem st_retF {j : Nat} {e : X} : PSt (.retF j e) := by
  intro c m ρ a R body h0 cx hq Q' E' post exc
  obtain ⟨st, r, rfl, hc⟩ := one_stmt h0; clear h0
  obtain ⟨v, hu, hz⟩ := any_ex hc
  obtain ⟨p, rfl⟩ := vRet_eq hu; clear hu hc
  refine wpAny_execs_cons (wpAny_Return_some ((sound e).1 c m ρ a _ v hz cx hq _ _ fun v1 d1 b1 q1 r1 n1 => ?_))
  obtain ⟨x, rfl, μ1, l, μ2, hμ, q2⟩ : ∃ x, d1 = .raw (.ref x) ∧ ∃ μ1 l μ2, b1.μ = μ1 ++ .lst x l :: μ2 ∧ R (.ret (.list l)) ρ (μ1 ++ μ2) := by
    cases d1 <;> first | exact q1.elim | skip
    rename_i y
    cases y <;> first | exact q1.elim | exact ⟨_, rfl, q1⟩
  clear q1 hq
  have hv : v1 = .ref x := by cases r1; rfl
  subst hv
  obtain ⟨μb, imm, s⟩ := b1
  dsimp only at hμ
  subst hμ
  obtain ⟨ml, N⟩ := n1.N
  obtain ⟨l1, n, l2, rfl, r2, r3, r4⟩ := mr_split N.r
  obtain ⟨vs, k, rfl, rr⟩ := r3
  dsimp only at N rr r2 r4
  have ap := N.ap
  obtain ⟨a1, a2⟩ := apart_off (post := l2) ap
  have hsb : ∀ p ∈ imm, p ∈ (x, listOf vs.toArray k) :: imm := fun _ h => .tail _ h
  refine post _ (.ret (.list l)) ρ m ⟨μ1 ++ μ2, (x, listOf vs.toArray k) :: imm, s⟩ q2 ⟨_, rfl, .list (.head _) (rr.mono hsb)⟩ ((cx.lo.mono n1.hs).mono hsb) ⟨fun p hp => hsb p (n1.hs p hp), n1.F, ⟨l1 ++ l2, (mr_app r2 r4).mono fun p hp _ => hsb p hp, ?_, ?_, ?_⟩, n1.e⟩
  · intro p hp
    refine N.n p ?_
    rcases List.mem_append.mp hp with hp | hp
    · rcases List.mem_append.mp hp with hp | hp
      · exact List.mem_append_left _ (List.mem_append_left _ hp)
      · exact List.mem_append_left _ (List.mem_append_right _ (.tail _ hp))
    · rcases List.mem_cons.mp hp with rfl | hp
      · exact List.mem_append_left _ (List.mem_append_right _ (.head _))
      · exact List.mem_append_right _ hp
  · refine ap.1.sublist (List.Sublist.map _ ?_)
    exact List.Sublist.append (List.Sublist.refl _) (List.sublist_cons_self _ _)
  · intro p hp q hq
    rcases List.mem_cons.mp hq with rfl | hq
    · rcases List.mem_append.mp hp with hp | hp
      · exact a1 p hp
      · exact a2 p (List.mem_append_left _ hp)
    · refine ap.2 p ?_ q hq
      rcases List.mem_append.mp hp with hp | hp
      · exact List.mem_append_left _ hp
      · exact List.mem_append_right _ (.tail _ hp)
set_option tactic.hygienic false
theorem rps_set {imm : Led} {v : Value} {d : V} (hr : Rp imm v d) : ∀ {vs : List Value} {l : List V} {n : Nat}, Rps imm vs l → Rps imm (vs.set n v) (lset l n d)
  | _, _, _, .nil => .nil
  | _ :: _, _ :: _, 0, .cons _ b => .cons hr b
  | _ :: _, _ :: _, _ + 1, .cons a b => .cons a (rps_set hr b)
theorem lset_len : ∀ {l : List V} {n : Nat} {d : V}, (lset l n d).length = l.length
  | [], _, _ => rfl
  | _ :: _, 0, _ => rfl
  | _ :: l, n + 1, d => congrArg (· + 1) (lset_len (l := l) (n := n) (d := d))
section
variable {c : FC} {m : Str → Option Value} {ρ : List V} {a : Po}
theorem set_snd {x : Addr} {l : List V} {μ1 μ2 : Mu} {n : Nat} {v : Value} {d : V} {t : Tok} {Q' : Unit → Shared → Prop} {E' : Value → Shared → Prop} (n1 : Nx c m a a) (hμ : a.μ = μ1 ++ .lst x l :: μ2) (hl : l.length ≤ 1000) (hn : n < l.length) (hr : Rp a.imm v d)
    (post : ∀ b, b.μ = μ1 ++ .lst x (lset l n d) :: μ2 → Nx c m a b → Q' () b.s) : wpAny c.M c.A (setItem (.ref x) (.int (n : Int) t) v) Q' E' a.s := by
  obtain ⟨ml, N⟩ := n1.N
  have r := N.r
  rw [hμ] at r
  obtain ⟨l1, nn, l2, rfl, r2, r3, r4⟩ := mr_split r
  obtain ⟨vs, k, rfl, rr⟩ := r3
  have hvl := rr.length
  obtain ⟨a1, a2, fin⟩ := cell_turn (pre := []) (post := []) (o := listOf vs.toArray k) (o' := listOf (vs.set n v).toArray k) (cl' := .lst x (lset l n d)) n1 hμ r2 r4 N.ap ⟨vs.set n v, k, rfl, rps_set hr rr⟩
  have NN := cell_news (pre := []) (post := []) N.n
  have z := NN (x, listOf vs.toArray k) (List.mem_append_right _ (.head _))
  have ho : vs.toArray.setIfInBounds n v = (vs.set n v).toArray := by apply Array.toList_inj.mp; simp
  refine ki_setAt z.1 (Int.natCast_nonneg n) (by (first | lia | omega)) (by rw [List.size_toArray]; (first | lia | omega)) ?_
  exact post ⟨μ1 ++ .lst x (lset l n d) :: μ2, a.imm, _⟩ rfl (fin _ a.s.toks m (n1.F.change (Heap.SameBut.update ..) z.2.1 z.2.2) (ki_turn _ NN a1 a2 ho (by simp)))
theorem app_snd {x : Addr} {l : List V} {μ1 μ2 : Mu} {v : Value} {d : V} {Q' E' : Value → Shared → Prop} (n1 : Nx c m a a) (hμ : a.μ = μ1 ++ .lst x l :: μ2) (hl : l.length ≤ 1000) (hr : Rp a.imm v d)
    (post : ∀ b, b.μ = μ1 ++ .lst x (l ++ [d]) :: μ2 → Nx c m a b → Q' .none b.s) : wpAny c.M c.A (call (.builtin "list.append") [.ref x, v]) Q' E' a.s := by
  obtain ⟨ml, N⟩ := n1.N
  have r := N.r
  rw [hμ] at r
  obtain ⟨l1, nn, l2, rfl, r2, r3, r4⟩ := mr_split r
  obtain ⟨vs, k, rfl, rr⟩ := r3
  have hvl := rr.length
  obtain ⟨a1, a2, fin⟩ := cell_turn (pre := []) (post := []) (o := listOf vs.toArray k) (o' := listOf (vs ++ [v]).toArray (k + 1)) (cl' := .lst x (l ++ [d])) n1 hμ r2 r4 N.ap ⟨vs ++ [v], k + 1, rfl, rps_app rr (.cons hr .nil)⟩
  have NN := cell_news (pre := []) (post := []) N.n
  have z := NN (x, listOf vs.toArray k) (List.mem_append_right _ (.head _))
  have ho : vs.toArray.push v = (vs ++ [v]).toArray := by simp
  refine append_at (hsz := by rw [List.size_toArray, PySem.sizeLine_eq]; (first | lia | omega)) z.1 fun h' hs ho' => ?_
  rw [ho] at ho'
  exact post ⟨μ1 ++ .lst x (l ++ [d]) :: μ2, a.imm, { a.s with heap := h' }⟩ rfl (fin h' a.s.toks m (n1.F.change hs z.2.1 z.2.2) (news_set NN a1 a2 hs ho'))
theorem varR_snd {i : Nat} {x : Str} {p : Pos} {y : Addr} {Q' E' : Value → Shared → Prop} (cx : Cx c m ρ a) (hx : c.ns[i]? = some x) (hv : lget ρ i = .raw (.ref y)) (h : Q' (.ref y) a.s) : wpAny c.M c.A (eval (.Name x p) c.env) Q' E' a.s := by
  rcases cx.lo i x hx with e | ⟨v, e, hr⟩
  · rw [e] at hv; cases hv
  · rw [hv] at hr
    cases hr
    have hm := List.mem_of_getElem? hx
    exact nameX_L cx.nx.F e h cx.ok.kind (cx.sc.loc x hm) (cx.sc.dbg x hm)
/-- x[n] = v -/
theorem subT_snd {i n : Nat} {g : Expr} {y : Addr} {l : List V} {μ1 μ2 : Mu} {v : Value} {d : V} {Q' : Unit → Shared → Prop} {E' : Value → Shared → Prop} (hc : subT c.ns i n g = true) (cx : Cx c m ρ a) (hv : lget ρ i = .raw (.ref y)) (hμ : a.μ = μ1 ++ .lst y l :: μ2) (hl : l.length ≤ 1000) (hn : n < l.length) (hr : Rp a.imm v d)
    (post : ∀ b, b.μ = μ1 ++ .lst y (lset l n d) :: μ2 → Nx c m a b → Q' () b.s) : wpAny c.M c.A (assign g c.env v) Q' E' a.s := by
  obtain ⟨⟨o, ix, p⟩, hu, hc⟩ := any_ex hc
  obtain rfl := uSub_eq hu; clear hu
  obtain ⟨h1, h2⟩ := and_ex hc
  obtain ⟨x, hx, h1⟩ := any_ex h1
  obtain ⟨xp, hxe⟩ := uName_eq hx
  replace hxe : o = .Name x xp := hxe
  subst hxe
  obtain ⟨kk, cp, hce⟩ := uConst_eq (eq_of_beq h2)
  replace hce : ix = .Constant (.int n) kk cp := hce
  subst hce
  refine kas_sub (varR_snd cx (eq_of_beq h1) hv (wpAny_Constant_int ?_))
  have n2 : Nx c m a ⟨a.μ, a.imm, { a.s with toks := a.s.toks + 1 }⟩ := ⟨fun _ h => h, cx.nx.F, cx.nx.N, rfl⟩
  exact set_snd (a := ⟨a.μ, a.imm, { a.s with toks := a.s.toks + 1 }⟩) (cx.next n2).nx hμ hl hn hr fun b e n => post b e (n2.trans n)
end
set_option tactic.hygienic true
theorem rps_last {imm : Led} {d : V} : ∀ {l : List V} {vs : List Value}, Rps imm vs (l ++ [d]) → ∃ us u, vs = us ++ [u] ∧ Rps imm us l ∧ Rp imm u d
  | [], _, r => by
    cases r with
    | cons h r => cases r; exact ⟨[], _, rfl, .nil, h⟩
  | _ :: l, _, r => by
    cases r with
    | cons h r =>
      obtain ⟨us, u, rfl, h1, h2⟩ := rps_last r
      exact ⟨_ :: us, u, rfl, .cons h h1, h2⟩
theorem assignEach_app {env : Env} {ns : List Str} {g : Expr} (hg : assignEach [g] env = [(false, assign g env)]) : ∀ {is : List Nat} {ts : List Expr}, tgt ns is ts = true → (assignEach (ts ++ [g]) env).length = is.length + 1 ∧ (assignEach (ts ++ [g]) env).findIdx? (·.1) = none
  | [], [], _ => by rw [List.nil_append, hg]; exact ⟨rfl, rfl⟩
  | i :: is, e :: ts, h => by
    obtain ⟨h1, h2⟩ := and_ex h
    have ih := assignEach_app (env := env) hg h2
    obtain ⟨x, hx, _⟩ := any_ex h1
    obtain ⟨xp, rfl⟩ := uName_eq hx
    refine ⟨congrArg (· + 1) ih.1, ?_⟩
    show ((false, assign (.Name x xp) env) :: assignEach (ts ++ [g]) env).findIdx? (·.1) = none
    rw [List.findIdx?_cons, ih.2]; rfl
  | [], _ :: _, h => nomatch h
  | _ :: _, [], h => nomatch h
theorem rawQ_ex {v : V} {K : Addr → Prop} (h : rawQ v K) : ∃ a, v = .raw (.ref a) ∧ K a := by
  cases v <;> first | exact h.elim | skip
  rename_i r
  cases r <;> first | exact h.elim | exact ⟨_, rfl, h⟩
/-- the head of an assignment with one target -/
theorem asg_view {st : Stmt} {p : List Expr × Expr × Pos → Expr → Bool} (h : ((vAsg st).any fun y => (one y.1).any fun g => p y g) = true) : ∃ g v vp, st = .Assign [g] v vp ∧ p ([g], v, vp) g = true := by
  obtain ⟨⟨ts, v, vp⟩, hu, hz⟩ := any_ex h
  obtain rfl := vAsg_eq hu
  obtain ⟨g, hg, hz⟩ := any_ex hz
  obtain rfl : ts = [g] := one_eq hg
  exact ⟨g, v, vp, rfl, hz⟩
theorem Assign_one {M : Model} {A : Around} {E : Value → Shared → Prop} {s : Shared} {env : Env} {g value : Expr} {pos : Pos} {Q : Flow → Shared → Prop}
    (h : wpAny M A (eval value env) (fun v s₁ => wpAny M A (assign g env v) (fun _ => Q .next) E s₁) E s) (hs : swapsWithSole [g] value pos.line env = pure false) (hw : swappedStores [g] value env = pure none) (hg : assignEach [g] env = [(false, assign g env)]) :
    wpAny M A (exec (.Assign [g] value pos) env) Q E s := by
  rw [exec_Assign]
  refine wpAny_bind (wpAny_standAt ?_)
  rw [hs]
  refine wpAny_bind (wpAny_pure ?_)
  rw [if_neg (by decide)]
  refine wpAny_bind (wpAny_mono h (fun v s₁ h₁ => ?_) fun _ _ x => x)
  rw [hw]
  refine wpAny_bind (wpAny_pure ?_)
  rw [hg]
  show wpAny M A (do assignAll v [assign g env]; pure .next) Q E s₁
  exact wpAny_bind (wpAny_mono h₁ (fun _ _ x => wpAny_pure x) fun _ _ x => x)
theorem subT_sub {ns : List Str} {i n : Nat} {g : Expr} (h : subT ns i n g = true) : ∃ o ix p, g = .Subscript o ix p := by
  obtain ⟨⟨o, ix, p⟩, hu, _⟩ := any_ex h
  exact ⟨o, ix, p, uSub_eq hu⟩
theorem st_setI {i n : Nat} {e : X} {t : T} (ht : PSt t) : PSt (.setI i n e t) := by
  intro c m ρ a R body h0 cx hq Q' E' post exc
  obtain ⟨st, r, rfl, hc⟩ := one_stmt h0; clear h0
  obtain ⟨g, v, vp, rfl, hz⟩ := asg_view hc; clear hc
  obtain ⟨c1, hz⟩ := and_ex hz
  obtain ⟨c3, hz⟩ := and_ex hz
  obtain ⟨c4, c5⟩ := and_ex hz
  dsimp only at c3 c4 c5
  obtain ⟨o, ix, p, rfl⟩ := subT_sub c1
  refine wpAny_execs_cons (Assign_one ((sound e).1 c m ρ a _ v c4 cx hq _ _ fun v1 d1 b1 q1 r1 n1 => ?_) (show swapsWith v (some (.Subscript o ix p)) vp.line c.env = pure false from notComp_swaps c3) rfl rfl)
  obtain ⟨y, hy, μ1, l, l', μ2, hμ, hl, ⟨hn, rfl⟩, q2⟩ := rawQ_ex q1
  exact subT_snd c1 (cx.next n1) hy hμ hl hn r1 fun b e n => st_next ht c5 ((cx.next n1).next n) (n1.trans n) (e ▸ q2) post exc
theorem st_setII {i n1 n2 : Nat} {e : X} {t : T} (ht : PSt t) : PSt (.setII i n1 n2 e t) := by
  intro c m ρ a R body h0 cx hq Q' E' post exc
  obtain ⟨st, r, rfl, hc⟩ := one_stmt h0; clear h0
  obtain ⟨g, v, vp, rfl, hz⟩ := asg_view hc; clear hc
  obtain ⟨⟨ts, tp⟩, hg, hz⟩ := any_ex hz
  obtain ⟨kd, rfl⟩ := uTup_eq hg; clear hg
  obtain ⟨⟨g1, g2⟩, hg, hz⟩ := any_ex hz
  obtain rfl : ts = [g1, g2] := two_eq hg
  obtain ⟨c1, hz⟩ := and_ex hz
  obtain ⟨c2, hz⟩ := and_ex hz
  obtain ⟨cw, hz⟩ := and_ex hz
  obtain ⟨c3, hz⟩ := and_ex hz
  obtain ⟨c4, c5⟩ := and_ex hz
  clear hz hg
  dsimp only at c1 c2 cw c3 c4 c5 ⊢
  obtain ⟨o1, ix1, p1, rfl⟩ := subT_sub c1
  obtain ⟨o2, ix2, p2, rfl⟩ := subT_sub c2
  refine wpAny_execs_cons (Assign_Tuple ((sound e).1 c m ρ a _ v c4 cx hq _ _ fun v1 d1 b1 q1 r1 nx1 => ?_) (show swapsWith v (some (.Tuple [.Subscript o1 ix1 p1, .Subscript o2 ix2 p2] kd tp)) vp.line c.env = pure false from notComp_swaps c3) (swM_snd (eq_of_beq cw) rfl cx.ok.kind))
  obtain ⟨y, hy, e1, e2, rfl, μ1, l, l', μ2, hμ, hl, ⟨⟨hn1, hn2⟩, rfl⟩, q2⟩ := rawQ_ex q1
  cases r1 with
  | tup hm rr =>
    cases rr with
    | cons r1 rr => cases rr with
      | cons r2 rr => cases rr with
        | nil =>
          obtain ⟨ml, N⟩ := nx1.N
          refine unpackN_ nx1.F N.n (N.n.isTup (List.mem_append_right _ hm)) rfl rfl rfl fun h' F' N' => ?_
          have n : Nx c m b1 ⟨b1.μ, b1.imm, { b1.s with heap := h' }⟩ := ⟨fun _ h => h, F', ⟨ml, N.r, N', N.ap⟩, rfl⟩
          have cxn := (cx.next nx1).next n
          refine assignInOrder_cons (subT_snd c1 cxn hy hμ hl hn1 r1 fun b3 hb3 nn3 => ?_)
          refine assignInOrder_cons (subT_snd c2 (cxn.next nn3) hy hb3 (by rw [lset_len]; exact hl) (by rw [lset_len]; exact hn2) (r2.mono nn3.hs) fun b4 hb4 nn4 => assignInOrder_nil ?_)
          exact st_next ht c5 ((cxn.next nn3).next nn4) (((nx1.trans n).trans nn3).trans nn4) (hb4 ▸ q2) post exc
theorem if_some {α : Type} {b : Bool} {x : Option α} {a : α} (h : (if b = true then x else none) = some a) : b = true ∧ x = some a := by
  cases b with
  | true => exact ⟨rfl, h⟩
  | false => first | exact no_some h | exact no_ft h | cases h
theorem appC_eq {ns : List Str} {i : Nat} {u a : Expr} (h : appC ns i u = some a) : ∃ x xp ap p, u = .Call (.Attribute (.Name x xp) (Str.ofString "append") ap) [a] [] p ∧ ns[i]? = some x ∧ (ap.endLine == p.line) = true := by
  obtain ⟨⟨f, as, ks, p⟩, hu, h⟩ := Option.bind_eq_some_iff.mp (show (uCall u).bind _ = some a from h)
  obtain rfl := uCall_eq hu
  obtain ⟨hc, h⟩ := if_some h
  obtain ⟨h1, h2⟩ := and_ex hc
  obtain rfl : ks = [] := List.isEmpty_iff.mp h1
  obtain ⟨⟨o, nm, ap⟩, hu2, h3⟩ := any_ex h2
  obtain rfl : f = .Attribute o nm ap := uAttr_eq hu2
  obtain ⟨h4, h5⟩ := and_ex h3
  obtain ⟨h6, h7⟩ := and_ex h5
  obtain ⟨x, hx, h8⟩ := any_ex h6
  obtain ⟨xp, rfl⟩ : ∃ xp, o = .Name x xp := uName_eq hx
  obtain rfl : nm = Str.ofString "append" := eq_of_beq h4
  obtain rfl : as = [a] := one_eq h
  exact ⟨x, xp, ap, p, rfl, eq_of_beq h8, h7⟩
theorem st_app {i : Nat} {e : X} {t : T} (ht : PSt t) : PSt (.app i e t) := by
  intro c m ρ a R body h0 cx hq Q' E' post exc
  obtain ⟨st, r, rfl, hc⟩ := one_stmt h0; clear h0
  obtain ⟨⟨v, vp⟩, hu, hz⟩ := any_ex hc
  obtain rfl := vExp_eq hu; clear hu hc
  obtain ⟨ar, har, hz⟩ := any_ex hz
  obtain ⟨x, xp, ap, p, hv, hx, hline⟩ := appC_eq har
  replace hv : v = _ := hv
  subst hv
  obtain ⟨c2, hz⟩ := and_ex hz
  obtain ⟨c4, c5⟩ := and_ex hz
  have hi : interactive c.env = false := by
    show (c.cs.kind == ScopeKind.module && _) = false
    rw [cx.ok.kind]; rfl
  have hst : (backTo p (starEach [ar] c.env)).any (·.1) = false := by rw [star_no c2]; rfl
  obtain ⟨y, hy, ⟨l0, hl0⟩, q0⟩ := rawQ_ex hq
  obtain ⟨ml, N⟩ := cx.nx.N
  obtain ⟨ll, hcr, hsub⟩ := mr_cell N.r hl0
  obtain ⟨vs0, k0, rfl, _⟩ := hcr
  refine wpAny_execs_cons (wpAny_Expr_any ?_ hi rfl)
  refine meth_snd rfl hst (show 1 < 30 from Nat.le_of_ble_eq_true rfl) hline (varR_snd cx hx hy (listMethod_K N.n (List.mem_append_left _ (hsub _ (.head _))) PySem.F.slot_list_append PySem.F.type_list_append ?_))
  refine callW_snd (.inr rfl) hst ?_
  have hsp : chk c.cs c.ns (.cons e .nil) false (.Tuple [ar] 0 p) = true := by
    show ((unc [ar]).any fun z => notStar z.1 && (chk c.cs c.ns e true z.1 && chk c.cs c.ns .nil false (.Tuple z.2 0 p))) = true
    show (notStar ar && (chk c.cs c.ns e true ar && true)) = true
    rw [c2, c4]; rfl
  refine (sound (.cons e .nil)).2.2 c m ρ a (fun vs μ' => tupQ vs fun l => match l with | v :: _ => cellQ μ' y (fun l l' => l' = l ++ [v]) fun μ'' => wS c.w c.k t ρ μ'' R | [] => False) [ar] p p hsp cx q0 _ _ fun v2 d2 b2 q2 r2 n2 => ?_
  obtain ⟨ds, rfl, rr, hl⟩ := r2
  refine ⟨cx.ok.X.keeps n2.F.keep, ?_⟩
  cases rr with
  | nil => exact q2.elim
  | cons r1 rr =>
    cases rr with
    | cons _ _ => exact absurd hl (fun h => by cases h)
    | nil =>
      obtain ⟨μ1, l, l', μ2, hμ, hll, rfl, q3⟩ := q2
      exact app_snd n2.here hμ hll r1 fun b e n => st_next ht c5 ((cx.next n2).next n) (n2.trans n) (e ▸ q3) post exc
theorem st_asgN {is js : List Nat} {e : X} {t : T} (ht : PSt t) : PSt (.asgN is js e t) := by
  intro c m ρ a R body h0 cx hq Q' E' post exc
  obtain ⟨st, r, rfl, hc⟩ := one_stmt h0; clear h0
  obtain ⟨g, v, vp, rfl, hz⟩ := asg_view hc; clear hc
  obtain ⟨⟨ts, tp⟩, hg, hz⟩ := any_ex hz
  obtain ⟨kd, rfl⟩ := uTup_eq hg; clear hg
  obtain ⟨⟨us, up⟩, hg, hz⟩ := any_ex hz
  obtain ⟨kd2, hg2⟩ := uTup_eq hg; clear hg
  obtain ⟨c0, hz⟩ := and_ex hz
  obtain ⟨c1, hz⟩ := and_ex hz
  obtain ⟨c2, hz⟩ := and_ex hz
  obtain ⟨cw, hz⟩ := and_ex hz
  obtain ⟨c3, hz⟩ := and_ex hz
  obtain ⟨c4, c5⟩ := and_ex hz
  clear hz
  dsimp only at c0 c1 c2 cw c3 c4 c5 hg2 ⊢
  have hts : ts = ts.dropLast ++ [.Tuple us kd2 up] := by
    cases ts with
    | nil => cases c0
    | cons t0 ts =>
      have := List.dropLast_concat_getLast (l := t0 :: ts) (List.cons_ne_nil _ _)
      rw [← hg2, List.getLastD_cons, ← List.getLast_eq_getLastD]
      exact this.symm
  refine wpAny_execs_cons (Assign_Tuple ((sound e).1 c m ρ a _ v c4 cx hq _ _ fun v1 d1 b1 q1 r1 n1 => ?_) (show swapsWith v (some (.Tuple ts kd tp)) vp.line c.env = pure false from notComp_swaps c3) (swM_snd (eq_of_beq cw) rfl cx.ok.kind))
  obtain ⟨ds, rfl, l1, l2, rfl, q2⟩ := tupQ_ex q1; clear q1
  cases r1 with
  | tup hm rr =>
    rename_i x vs
    obtain ⟨us', u, rfl, rr1, ru⟩ := rps_last (show Rps b1.imm vs (l1 ++ [.tup l2]) from rr)
    have hq2 := asgQ_len q2
    have hl := rr1.length
    obtain ⟨ml, N⟩ := n1.N
    have hA := assignEach_app (env := c.env) (g := .Tuple us kd2 up) rfl c1
    rw [hts]
    refine unpackN_ n1.F N.n (N.n.isTup (List.mem_append_right _ hm)) rfl ?_ hA.2 fun h' F' N' => ?_
    · rw [hA.1, List.size_toArray, List.length_append, hl, ← hq2]; rfl
    · have n : Nx c m b1 ⟨b1.μ, b1.imm, { b1.s with heap := h' }⟩ := ⟨fun _ h => h, F', ⟨ml, N.r, N', N.ap⟩, rfl⟩
      refine tgtL_snd (K2 := fun ρ'' => wS c.w c.k t ρ'' b1.μ R) (fun cx2 r2 q3 post2 => unp_snd c2 cx2 r2 q3 post2) (fun _ => rfl) c1 ((cx.next n1).next n) rr1 ru q2 fun m' ρ' b hK cx' n' hμ => ?_
      exact st_next ht c5 cx' ((n1.trans n).trans n') ((hμ : b.μ = b1.μ) ▸ hK) post exc
set_option tactic.hygienic false
theorem st_whl {e : X} {b t : T} (hb : PSt b) (ht : PSt t) : PSt (.whl e b t) := by
  intro c m ρ a R body h0 cx hq Q' E' post exc
  obtain ⟨st, r, rfl, hc⟩ := one_stmt h0; clear h0
  obtain ⟨⟨tst, bx, oe⟩, hu, hz⟩ := any_ex hc
  obtain ⟨p, rfl⟩ := vWhl_eq hu; clear hu hc
  obtain ⟨c1, hz⟩ := and_ex hz
  obtain ⟨c2, hz⟩ := and_ex hz
  obtain ⟨c3, c4⟩ := and_ex hz
  clear hz
  dsimp only at c1 c2 c3 c4 ⊢
  obtain rfl : oe = [] := List.isEmpty_iff.mp c1
  obtain ⟨n, hq⟩ := hq
  refine wpAny_execs_cons (wpAny_While (codeAny_whileLoop (fun n s' => ∃ ρ m d, s' = d.s ∧ Nx c m a d ∧ Cx c m ρ d ∧
    whlQ (fun ρ μ K => wE c.w c.k e ρ μ fun v μ' => truthQ v fun z => K z μ') (fun ρ μ R => wS c.w c.k b ρ μ R) (fun ρ μ => wS c.w c.k t ρ μ R) R n ρ d.μ) (fun n s' hI => ?_) n ⟨ρ, m, a, rfl, cx.nx, cx, hq⟩))
  obtain ⟨ρ1, m1, d, rfl, n1, cx1, hw⟩ := hI
  cases n with
  | zero => exact hw.elim
  | succ n =>
    refine (sound e).2.1 c m1 ρ1 d (fun z μ' => brq z (wS c.w c.k b ρ1 μ' (thnL (whlQ (fun ρ μ K => wE c.w c.k e ρ μ fun v μ' => truthQ v fun z => K z μ') (fun ρ μ R => wS c.w c.k b ρ μ R) (fun ρ μ => wS c.w c.k t ρ μ R) R n) R)) (wS c.w c.k t ρ1 μ' R)) tst _ c2 rfl cx1 hw _ _ fun v2 d2 b2 q2 r2 n2 => ?_
    cases r2
    cases v2 with
    | true =>
      refine hb c m1 ρ1 b2 _ bx c3 (cx1.next n2) q2 _ _ (fun f rr ρ' m' b' hR hf hl n' => ?_) fun e ρ m b hR _ => hR.elim
      have nn := (n1.trans n2).trans n'
      rcases rf_cases hf with ⟨rfl, rfl⟩ | ⟨dv, v, rfl, rfl, hr⟩
      · exact ⟨n, Nat.lt_succ_self _, ρ', m', b', rfl, nn, ⟨cx1.sc, cx1.ok, hl, n'.here⟩, hR⟩
      · exact post _ (.ret dv) ρ' m' b' hR ⟨v, rfl, hr⟩ hl nn
    | false => exact wpAny_execs_nil (st_next ht c4 (cx1.next n2) (n1.trans n2) q2 post exc)
section
variable {c : FC} {m : Str → Option Value} {ρ : List V} {a : Po}
theorem tgtE_snd {is : List Nat} {y : Expr} {v : Value} {d : V} {K : List V → Prop} {Q' : Unit → Shared → Prop} {E' : Value → Shared → Prop} (hc : tgtE c.ns is y = true) (cx : Cx c m ρ a) (hr : Rp a.imm v d) (hq : tgtQ is d ρ K)
    (post : ∀ m' ρ' b, K ρ' → Cx c m' ρ' b → Nx c m' a b → b.μ = a.μ → Q' () b.s) : wpAny c.M c.A (assign y c.env v) Q' E' a.s := by
  have tup : ((uTup y).any fun ts => tgt c.ns is ts.1) = true → (tupQ d fun l => asgQ is l ρ K) → wpAny c.M c.A (assign y c.env v) Q' E' a.s := by
    intro hc hq
    obtain ⟨⟨ts, p⟩, hu, hz⟩ := any_ex hc
    obtain ⟨kd, rfl⟩ := uTup_eq hu
    obtain ⟨ds, rfl, q2⟩ := tupQ_ex hq
    exact unp_snd hz cx hr q2 post
  match is, hc, hq, tup with
  | [i], hc, hq, _ =>
    obtain ⟨x, hx, h1⟩ := any_ex hc
    obtain ⟨xp, rfl⟩ := uName_eq hx
    exact PyProof.Rows.assign_Name (store_snd cx (eq_of_beq h1) hr fun m' b cx' n' hμ => post m' _ b hq cx' n' hμ)
  | [], hc, hq, tup => exact tup hc hq
  | _ :: _ :: _, hc, hq, tup => exact tup hc hq
end
theorem it_ne {o o' : Obj} (hc : o.cls = .type "list_iterator" ∨ o.cls = .type "tuple_iterator" ∨ o.cls = .type "range_iterator") (h : RpT o') : o' ≠ o := by
  rintro rfl
  rcases h with ⟨vs, rfl⟩ | ⟨vs, k, rfl⟩ | ⟨C, dx, rfl⟩ | ⟨es, k, rfl⟩
  · rcases hc with hc | hc | hc <;> exact absurd (show Value.type "tuple" = _ from hc) (by decide)
  · rcases hc with hc | hc | hc <;> exact absurd (show Value.type "list" = _ from hc) (by decide)
  · rcases hc with hc | hc | hc <;> cases hc
  · rcases hc with hc | hc | hc <;> exact absurd (show Value.type "dict" = _ from hc) (by decide)
/-- a turn's end: the iterator leaves the ledger -/
theorem nw_off {c : FC} {h : Heap} {μ : Mu} {imm ml : Led} {I : Addr} {o : Obj} (N : NW c h μ imm ml) (hI : (I, o) ∈ imm) (hc : o.cls = .type "list_iterator" ∨ o.cls = .type "tuple_iterator" ∨ o.cls = .type "range_iterator") :
    (∀ p ∈ imm, RpT p.2 → p ∈ imm.filter fun p => decide (p.1 ≠ I)) ∧ NW c h μ (imm.filter fun p => decide (p.1 ≠ I)) ml ∧ (∀ p ∈ ml ++ imm.filter (fun p => decide (p.1 ≠ I)), p.1 ≠ I) := by
  have hIm := (N.n _ (List.mem_append_right ml hI)).1
  have key : ∀ p ∈ imm, RpT p.2 → p ∈ imm.filter fun p => decide (p.1 ≠ I) := fun p hp ht => List.mem_filter.mpr ⟨hp, decide_eq_true fun e => by
    have := (N.n _ (List.mem_append_right ml hp)).1
    rw [e, hIm] at this
    exact it_ne hc ht (Option.some.inj this).symm⟩
  refine ⟨key, ⟨N.r.mono key, fun p hp => N.n p ?_, N.ap.1, fun p hp q hq => N.ap.2 p hp q (List.mem_filter.mp hq).1⟩, fun p hp => ?_⟩
  · rcases List.mem_append.mp hp with hp | hp
    · exact List.mem_append_left _ hp
    · exact List.mem_append_right _ (List.mem_filter.mp hp).1
  · rcases List.mem_append.mp hp with hp | hp
    · exact N.ap.2 p hp _ hI
    · exact of_decide_eq_true (List.mem_filter.mp hp).2
theorem news_mid {h₀ h : Heap} {L : Addr} {ml imm : Led} {p : Addr × Obj} (N : News h₀ L h (p :: (ml ++ imm))) : News h₀ L h (ml ++ p :: imm) := fun q hq => N q (by
  rcases List.mem_append.mp hq with hq | hq
  · exact .tail _ (List.mem_append_left _ hq)
  · rcases List.mem_cons.mp hq with rfl | hq
    · exact .head _
    · exact .tail _ (List.mem_append_right _ hq))
theorem LocOK.off {ns : List Str} {imm imm' : Led} {m : Str → Option Value} {ρ : List V} (h : LocOK ns imm m ρ) (hs : ∀ p ∈ imm, RpT p.2 → p ∈ imm') : LocOK ns imm' m ρ :=
  fun i x hx => (h i x hx).imp id fun ⟨v, a, b⟩ => ⟨v, a, rp_mono' hs b⟩
section
variable {c : FC}
theorem items_snd {is : List Nat} {y : Expr} {b t : T} {bx r : List Stmt} {I ax : Addr} {lo : Obj} {nm : String} {R : PS} {a : Po} {Q' : Flow → Shared → Prop} {E' : Value → Shared → Prop} (hb : PSt b) (ht : PSt t) (c1 : tgtE c.ns is y = true) (c3 : chkS c.cs c.ns b bx = true) (c4 : chkS c.cs c.ns t r = true) (hnm : nm = "list_iterator" ∨ nm = "tuple_iterator")
    (hI0 : ∀ p ∈ a.imm, p.1 < I) (hax : (ax, lo) ∈ a.imm) (sc : SC c.cs c.ns) (ok : c.Ok c.k) (post : PostS c a R Q') (exc : ExcS c a R E') :
    ∀ (ds : List V) (vs : List Value) (m : Str → Option Value) (ρ : List V) (μ : Mu) (imm ml : Led), Rps imm vs ds → (∀ p ∈ a.imm, p ∈ imm) → LocOK c.ns imm m ρ → MR imm μ ml → Apart ml imm → (∀ p ∈ ml ++ imm, p.1 ≠ I) →
      forQ is (fun ρ μ R => wS c.w c.k b ρ μ R) (fun ρ μ => wS c.w c.k t ρ μ R) R ds ρ μ →
      ItemsRest PR c.w c.A (fun _ _ => False) c.h₀ c.env y bx (fun f s' => match f with | .next => wpAny c.M c.A (execs r c.env) Q' E' s' | f => Q' f s') a.s [(I, nm)] [(ax, lo)] (vs.map .val) m (ml ++ imm)
  | [], _, m, ρ, μ, imm, ml, hr, hs, hl, hm, ha, ho, hq => by
    cases hr
    refine ItemsRest.zero fun h tk F N => ?_
    have n : Nx c m a ⟨μ, imm, { a.s with heap := h, toks := tk }⟩ := ⟨hs, F, ⟨ml, hm, N, ha⟩, rfl⟩
    exact st_next (b := ⟨μ, imm, { a.s with heap := h, toks := tk }⟩) ht c4 ⟨sc, ok, hl, n.here⟩ n hq post exc
  | d :: ds, _, m, ρ, μ, imm, ml, hr, hs, hl, hm, ha, ho, hq => by
    cases hr with
    | cons h1 h2 =>
    refine ItemsRest.val fun h tk F => AllObj.cons fun o' hc => AllObj.nil fun N' => ?_
    have hcls : o'.cls = .type "list_iterator" ∨ o'.cls = .type "tuple_iterator" ∨ o'.cls = .type "range_iterator" := by
      rw [hc]; rcases hnm with rfl | rfl
      · exact .inl rfl
      · exact .inr (.inl rfl)
    have hsb : ∀ p ∈ imm, p ∈ (I, o') :: imm := fun _ h => .tail _ h
    have n0 : Nx c m a ⟨μ, (I, o') :: imm, { a.s with heap := h, toks := tk }⟩ := ⟨fun p hp => hsb p (hs p hp), F, ⟨ml, hm.mono fun p hp _ => hsb p hp, news_mid N', ha.1, fun p hp q hq => by
      rcases List.mem_cons.mp hq with rfl | hq
      · exact ho p (List.mem_append_left _ hp)
      · exact ha.2 p hp q hq⟩, rfl⟩
    refine tgtE_snd (K := fun ρ' => wS c.w c.k b ρ' μ (thnL (forQ is (fun ρ μ R => wS c.w c.k b ρ μ R) (fun ρ μ => wS c.w c.k t ρ μ R) R ds) R)) (a := ⟨μ, (I, o') :: imm, { a.s with heap := h, toks := tk }⟩) c1 ⟨sc, ok, hl.mono hsb, n0.here⟩ (h1.mono hsb) hq fun m2 ρ2 d2 hK cx2 n2 hμ => ?_
    refine hb c m2 ρ2 d2 (thnL (forQ is (fun ρ μ R => wS c.w c.k b ρ μ R) (fun ρ μ => wS c.w c.k t ρ μ R) R ds) R) bx c3 cx2 (by rw [show d2.μ = μ from hμ]; exact hK) _ _ (fun f rr ρ' m' d3 hR hf hl' n3 => ?_) fun e ρ m b hR _ => hR.elim
    have nn := (n0.trans n2).trans n3
    have hI' : (I, o') ∈ d3.imm := n3.hs _ (n2.hs _ (.head _))
    rcases rf_cases hf with ⟨rfl, rfl⟩ | ⟨dd, v, rfl, rfl, hrr⟩
    · obtain ⟨ml3, N3⟩ := n3.N
      obtain ⟨k1, k2, k3⟩ := nw_off N3 hI' hcls
      have hs'' : ∀ p ∈ a.imm, p ∈ d3.imm.filter fun p => decide (p.1 ≠ I) := fun p hp => List.mem_filter.mpr ⟨nn.hs p hp, decide_eq_true (Nat.ne_of_lt (hI0 p hp))⟩
      refine ⟨d3.s.heap, d3.s.toks, m', ml3 ++ d3.imm.filter fun p => decide (p.1 ≠ I), by rw [nn.e], nn.F, fun p hp => ?_, fun p hp q hq' => ?_, ?_, ?_⟩
      · rcases List.mem_cons.mp hp with rfl | hp
        · exact N3.n _ (List.mem_append_right _ hI')
        · exact k2.n p hp
      · rw [List.mem_singleton.mp hq']; exact k3 p hp
      · exact ⟨List.mem_append_right _ (hs'' _ hax), trivial⟩
      · exact items_snd hb ht c1 c3 c4 hnm hI0 hax sc ok post exc ds _ m' ρ' d3.μ _ ml3 (rps_mono' k1 (h2.mono fun p hp => n3.hs p (n2.hs p (hsb p hp)))) hs'' (hl'.off k1) k2.r k2.ap k3 hR
    · exact post _ (.ret dd) ρ' m' d3 hR ⟨v, rfl, hrr⟩ hl' nn
end
theorem seqQ_ex {v : V} {K : List V → Prop} (h : seqQ v K) : ∃ l, (v = .tup l ∨ v = .list l) ∧ K l := by
  cases v <;> first | exact h.elim | exact ⟨_, .inl rfl, h⟩ | exact ⟨_, .inr rfl, h⟩
theorem st_forV {is : List Nat} {e : X} {b t : T} (hb : PSt b) (ht : PSt t) : PSt (.forV is e b t) := by
  intro c m ρ a R body h0 cx hq Q' E' post exc
  obtain ⟨st, r, rfl, hc⟩ := one_stmt h0; clear h0
  obtain ⟨⟨y, it, bx, oe⟩, hu, hz⟩ := any_ex hc
  obtain ⟨p, rfl⟩ := vFor_eq hu; clear hu hc
  obtain ⟨c0, hz⟩ := and_ex hz
  obtain ⟨c1, hz⟩ := and_ex hz
  obtain ⟨c2, hz⟩ := and_ex hz
  obtain ⟨c4, hz⟩ := and_ex hz
  obtain ⟨c5, c6⟩ := and_ex hz
  clear hz
  dsimp only at c0 c1 c2 c4 c5 c6 ⊢
  obtain rfl : oe = [] := List.isEmpty_iff.mp c0
  refine wpAny_execs_cons (wpAny_mono (Q := fun f s' => match f with | .next => wpAny c.M c.A (execs r c.env) Q' E' s' | f => Q' f s') (For_turns (E := fun _ _ => False) cx.nx.F ((sound e).1 c m ρ a _ it c4 cx hq _ _ fun v1 d1 b1 q1 r1 n1 => ?_) (notSet_folded c2) PassesOwn.never) (fun f s' h => h) fun _ _ h => h.elim)
  obtain ⟨ml, N⟩ := n1.N
  have P : PostS c b1 R Q' := fun f r ρ' m' d hR hf hl n => post f r ρ' m' d hR hf hl (n1.trans n)
  have X : ExcS c b1 R E' := fun e ρ' m' d hR hf => exc e ρ' m' d hR (hf.from n1)
  obtain ⟨ds, hd, q2⟩ := seqQ_ex q1
  rcases hd with rfl | rfl
  · cases r1 with
    | tup hm rr =>
      refine iter_tupTurns rfl n1.F N.n (List.mem_append_right _ hm) rfl rfl fun I hI => ?_
      exact items_snd hb ht c1 c5 c6 (.inr rfl) (fun p hp => hI p (List.mem_append_right _ hp)) hm cx.sc cx.ok P X ds _ m ρ b1.μ b1.imm ml rr (fun _ h => h) (cx.lo.mono n1.hs) N.r N.ap (fun p hp => Nat.ne_of_lt (hI p hp)) q2
  · cases r1 with
    | list hm rr =>
      refine iter_listTurns rfl n1.F N.n (List.mem_append_right _ hm) rfl rfl fun I hI => ?_
      exact items_snd hb ht c1 c5 c6 (.inl rfl) (fun p hp => hI p (List.mem_append_right _ hp)) hm cx.sc cx.ok P X ds _ m ρ b1.μ b1.imm ml rr (fun _ h => h) (cx.lo.mono n1.hs) N.r N.ap (fun p hp => Nat.ne_of_lt (hI p hp)) q2
theorem range_JV {w : World} {A : Around} {E : Value → Shared → Prop} {s : Shared} {env : Env} {h₀ : Heap} {x : Str} {body : List Stmt} {Q : Flow → Shared → Prop} {r : Addr} {a₀ b₀ : Int} {t₀ u₀ v₀ : Tok} {n : Nat} {m₀ : Str → Option Value} {news : Led}
    (J : Nat → (Str → Option Value) → Led → Prop)
    (hh : A.handled = none) (hr : IsRange s.heap r a₀ b₀ 1 t₀ u₀ v₀) (hsmall : Builtin.Range.small a₀ b₀ 1 = true) (hn : Builtin.Range.rangeSize a₀ b₀ 1 = (n : Int)) (F : Fr h₀ env.locals s.heap m₀) (N : News h₀ env.locals s.heap news) (hJ : J 0 m₀ news)
    (turn : ∀ (i : Nat) t m nx I it h tk, i < n → (∀ p ∈ news, p.1 < I) → (∀ p ∈ nx, p.1 ≠ I) → it.cls = .type "range_iterator" → J i m nx → Fr h₀ env.locals h (fun y => if y = x then some (.int (a₀ + i) t) else m y) → News h₀ env.locals h ((I, it) :: nx) →
      wpAny (model PR w) A (execs body env) (UnrPost h₀ env.locals { s with heap := h, toks := tk } I it (J (i + 1)) Q) E { s with heap := h, toks := tk })
    (done : ∀ m nx h tk, J n m nx → Fr h₀ env.locals h m → News h₀ env.locals h nx → Q .next { s with heap := h, toks := tk }) :
    wpAny (model PR w) A (pyIter (.ref r)) (fun it s₂ => LoopAtV PR w A h₀ env x body Q E it s₂) E s := by
  refine iter_rangeUnr hh hr hsmall hn F N fun I hI => ?_
  have key : ∀ (k i : Nat) (m : Str → Option Value) (nx : Led), i + k = n → (∀ p ∈ nx, p.1 ≠ I) → J i m nx → RangeRest PR w A E h₀ env x body Q s I a₀ n k i m nx := by
    intro k
    induction k with
    | zero =>
      intro i m nx hi ho hj
      obtain rfl : i = n := by (first | lia | omega)
      exact RangeRest.zero fun h tk F N => done m nx h tk hj F N
    | succ k ih =>
      intro i m nx hi ho hj
      refine RangeRest.succ fun t h tk F N => ?_
      refine wpAny_mono (turn i t m nx I _ h tk (by (first | lia | omega)) hI ho rfl hj F N) (fun f s₂ p => ?_) fun _ _ x => x
      have up : UnrEnd h₀ env.locals { s with heap := h, toks := tk } I (itR (a₀ + ((i + 1 : Nat) : Int)) ((n : Int) - ((i + 1 : Nat) : Int))) (J (i + 1)) s₂ → UnrEnd h₀ env.locals { s with heap := h, toks := tk } I (itR (a₀ + ((i + 1 : Nat) : Int)) ((n : Int) - ((i + 1 : Nat) : Int))) (RangeRest PR w A E h₀ env x body Q s I a₀ n k (i + 1)) s₂ := by
        rintro ⟨h', tk', m', nx', e, F', N', off, hj'⟩
        exact ⟨h', tk', m', nx', e, F', N', off, ih (i + 1) m' nx' (by (first | lia | omega)) off hj'⟩
      cases f with
      | ret v => exact p
      | brk => exact p
      | next => exact up p
      | cont => exact up p
  exact key n 0 m₀ news (by (first | lia | omega)) (fun p hp => Nat.ne_of_lt (hI p hp)) hJ
theorem rng_eq {cs : Scope} {lo : Nat} {u a : Expr} (h : rng cs lo u = some a) : ∃ x xp as p, u = .Call (.Name x xp) as [] p ∧ gnm cs 58 x = true ∧ rngA lo as = some a := by
  obtain ⟨⟨f, as, ks, p⟩, hu, h⟩ := Option.bind_eq_some_iff.mp (show (uCall u).bind _ = some a from h)
  obtain rfl := uCall_eq hu
  obtain ⟨hc, h⟩ := if_some h
  obtain ⟨h1, h2⟩ := and_ex hc
  obtain rfl : ks = [] := List.isEmpty_iff.mp h1
  obtain ⟨x, hx, h3⟩ := any_ex h2
  obtain ⟨xp, rfl⟩ : ∃ xp, f = .Name x xp := uName_eq hx
  exact ⟨x, xp, as, p, rfl, h3, h⟩
/-- the range object -/
theorem rngA_snd {c : FC} {m : Str → Option Value} {ρ : List V} {a : Po} {lo : Nat} {as : List Expr} {ar : Expr} {e : X} {pos : Pos} {K : V → Mu → Prop} {Q' E' : Value → Shared → Prop} (h : rngA lo as = some ar) (c2 : notStar ar = true) (c4 : chk c.cs c.ns e true ar = true) (cx : Cx c m ρ a)
    (hq : wE c.w c.k e ρ a.μ fun v μ' => intQ v fun n => K (.int n) μ')
    (post : ∀ n b t1 t2 t3 k, K (.int n) b.μ → Nx c m a b → Q' (.ref b.s.heap.objs.size) { b.s with heap := b.s.heap.push { cls := .type "range", data := .fields #[.int (lo : Int) t1, .int n t2, .int 1 t3] }, toks := k }) :
    wpAny c.M c.A (callWith pos (.type "range") [] (backTo pos (starEach as c.env)) []) Q' E' a.s := by
  cases lo with
  | zero =>
    obtain rfl : as = [ar] := one_eq h
    refine PyProof.Rows.callWith_type1 (args_cons ((sound e).1 c m ρ a _ ar c4 cx hq _ _ fun v1 d1 b1 q1 r1 n1 => args_nil ?_) (star_no c2)) (star_no c2)
    obtain ⟨n, rfl, q2⟩ := intQ_ex q1
    cases r1
    exact call_range_1 (post n b1 _ _ _ _ q2 n1)
  | succ lo =>
    obtain ⟨⟨z1, z2⟩, hz, hc⟩ := Option.bind_eq_some_iff.mp (show (two as).bind _ = some ar from h)
    obtain ⟨hc1, hh⟩ := if_some hc; clear hc
    obtain rfl : z2 = ar := Option.some.inj hh
    obtain rfl : as = [z1, z2] := two_eq hz
    obtain ⟨kk, cp, rfl⟩ := uConst_eq (eq_of_beq hc1)
    refine PyProof.Rows.callWith_type1 (args_cons (wpAny_Constant_int ?_) rfl) rfl (by rw [star_no c2]; rfl)
    have n0 : Nx c m a ⟨a.μ, a.imm, { a.s with toks := a.s.toks + 1 }⟩ := ⟨fun _ h => h, cx.nx.F, cx.nx.N, rfl⟩
    refine args_cons ((sound e).1 c m ρ ⟨a.μ, a.imm, { a.s with toks := a.s.toks + 1 }⟩ _ z2 c4 (cx.next n0) hq _ _ fun v1 d1 b1 q1 r1 n1 => args_nil ?_) (star_no c2)
    obtain ⟨n, rfl, q2⟩ := intQ_ex q1
    cases r1
    exact call_range_2 (post n b1 _ _ _ _ q2 (n0.trans n1))
theorem st_forR {lo i : Nat} {e : X} {b t : T} (hb : PSt b) (ht : PSt t) : PSt (.forR lo i e b t) := by
  intro c m ρ a R body h0 cx hq Q' E' post exc
  obtain ⟨st, r, rfl, hc⟩ := one_stmt h0; clear h0
  obtain ⟨⟨y, it, bx, oe⟩, hu, hz⟩ := any_ex hc
  obtain ⟨p, rfl⟩ := vFor_eq hu; clear hu hc
  obtain ⟨ar, har, hz⟩ := any_ex hz
  obtain ⟨z, zp, as, p2, hit, hg, hra⟩ := rng_eq har
  replace hit : it = _ := hit
  subst hit; clear har
  obtain ⟨c0, hz⟩ := and_ex hz
  obtain ⟨c1, hz⟩ := and_ex hz
  obtain ⟨c2, hz⟩ := and_ex hz
  obtain ⟨c4, hz⟩ := and_ex hz
  obtain ⟨c5, c6⟩ := and_ex hz
  clear hz
  dsimp only at c0 c1 c2 c4 c5 c6 ⊢
  obtain rfl : oe = [] := List.isEmpty_iff.mp c0
  obtain ⟨x, hx, c1⟩ := any_ex c1
  obtain ⟨xp, rfl⟩ := uName_eq hx; clear hx
  replace hx : c.ns[i]? = some x := eq_of_beq c1
  clear c1 c0
  have hxl : c.env.kindOf x = some .local := cx.sc.loc x (List.mem_of_getElem? hx)
  refine wpAny_execs_cons (wpAny_mono (Q := fun f s' => match f with | .next => wpAny c.M c.A (execs r c.env) Q' E' s' | f => Q' f s') (For_invV (E := fun _ _ => False) c.h₀ hxl (by show (c.cs.kind == .class || (c.cs.kind == .module && _)) = false; rw [cx.ok.kind]; rfl) ?_ (fun _ => rfl) PassesOwn.never) (fun f s' h => h) fun _ _ h => h.elim)
  refine Call_ (glb_snd cx hg fun v hv => ?_)
  obtain rfl : v = .type "range" := eq_of_beq (show (v == Value.type "range") = true from hv)
  refine rngA_snd (K := fun v μ' => intQ v fun n => (((lo : Int) ≤ n ∧ n ≤ 1000) ∧ lo ≤ 1000) ∧ ∃ J : Nat → List V → Mu → Prop, J 0 ρ μ' ∧ (∀ (j : Nat) ρ₁ μ₁, (lo : Int) + j < n → J j ρ₁ μ₁ → wS c.w c.k b (lset ρ₁ i (.int (lo + j))) μ₁ fun r ρ₂ μ₂ => r = .next ∧ J (j + 1) ρ₂ μ₂) ∧
      ∀ ρ₁ μ₁, J (n - lo).toNat ρ₁ μ₁ → wS c.w c.k t ρ₁ μ₁ R) hra c2 c4 cx hq fun n b1 t1 t2 t3 tk q1 n1 => ?_
  obtain ⟨⟨⟨n0, nle⟩, lole⟩, J, j0, jt, jd⟩ := q1
  obtain ⟨nn, hnn⟩ := Int.eq_ofNat_of_zero_le (show 0 ≤ n - lo by (first | lia | omega))
  have hn' : (n - lo).toNat = nn := by (first | lia | omega)
  have hsz : Builtin.Range.rangeSize (lo : Int) n 1 = (nn : Int) := by rw [rangeSize_one]; split <;> (first | lia | omega)
  rw [hn'] at jd
  obtain ⟨ml, N⟩ := n1.N
  refine range_JV (n := nn) (fun j m nx => ∃ ρ' μ' imm' ml', nx = ml' ++ imm' ∧ (∀ p ∈ b1.imm, p ∈ imm') ∧ LocOK c.ns imm' m ρ' ∧ MR imm' μ' ml' ∧ Apart ml' imm' ∧ J j ρ' μ') rfl (IsRange.new _ _ _ _ _ _ _) ?_ hsz (n1.F.push _) (news := ml ++ b1.imm) (fun p hp => ⟨Heap.get?_push_of_some _ (N.n p hp).1, (N.n p hp).2⟩) ⟨ρ, b1.μ, b1.imm, ml, rfl, fun _ h => h, cx.lo.mono n1.hs, N.r, N.ap, j0⟩ ?_ ?_
  · exact small_one (by (first | lia | omega)) (by (first | lia | omega)) (by (first | lia | omega)) (by (first | lia | omega))
  · rintro j tj m' nx I it h tk hj hI hoff hcls ⟨ρ', μ', imm', ml', rfl, hs, hl, hm, ha, hJ⟩ F' N'
    have hsb : ∀ p ∈ imm', p ∈ (I, it) :: imm' := fun _ h => .tail _ h
    have hR : Rp ((I, it) :: imm') (.int ((lo : Int) + (j : Int)) tj) (.int ((lo : Int) + (j : Int))) := .int _ _
    have n0 : Nx c (fun y => if y = x then some (.int ((lo : Int) + (j : Int)) tj) else m' y) b1 ⟨μ', (I, it) :: imm', { b1.s with heap := h, toks := tk }⟩ := ⟨fun p hp => hsb p (hs p hp), F', ⟨ml', hm.mono fun p hp _ => hsb p hp, news_mid N', ha.1, fun p hp q hq => by
      rcases List.mem_cons.mp hq with rfl | hq
      · exact hoff p (List.mem_append_left _ hp)
      · exact ha.2 p hp q hq⟩, rfl⟩
    refine hb c _ (lset ρ' i (.int ((lo : Int) + (j : Int)))) ⟨μ', (I, it) :: imm', { b1.s with heap := h, toks := tk }⟩ _ bx c5 ⟨cx.sc, cx.ok, (hl.mono hsb).store cx.sc.nd hx hR, n0.here⟩ (jt j ρ' μ' (by (first | lia | omega)) hJ) _ _ (fun f rr ρ2 m2 d2 hR2 hf hl2 n2 => ?_) fun e ρ m b hR _ => absurd hR.1 (fun q => by cases q)
    obtain ⟨rfl, hJ2⟩ := hR2
    obtain rfl : f = .next := hf
    have nx3 := n0.trans n2
    have hI' : (I, it) ∈ d2.imm := n2.hs _ (.head _)
    obtain ⟨ml2, N2⟩ := n2.N
    obtain ⟨k1, k2, k3⟩ := nw_off N2 hI' (.inr (.inr hcls))
    refine ⟨d2.s.heap, d2.s.toks, m2, ml2 ++ d2.imm.filter fun p => decide (p.1 ≠ I), by rw [nx3.e], nx3.F, fun p hp => ?_, k3, ρ2, d2.μ, _, ml2, rfl, fun p hp => ?_, hl2.off k1, k2.r, k2.ap, hJ2⟩
    · rcases List.mem_cons.mp hp with rfl | hp
      · exact N2.n _ (List.mem_append_right _ hI')
      · exact k2.n p hp
    · exact List.mem_filter.mpr ⟨nx3.hs p hp, decide_eq_true (Nat.ne_of_lt (hI p (List.mem_append_right _ hp)))⟩
  · rintro m' nx h tk ⟨ρ', μ', imm', ml', rfl, hs, hl, hm, ha, hJ⟩ F' N'
    have n2 : Nx c m' b1 ⟨μ', imm', { b1.s with heap := h, toks := tk }⟩ := ⟨hs, F', ⟨ml', hm, N', ha⟩, rfl⟩
    exact st_next (b := ⟨μ', imm', { b1.s with heap := h, toks := tk }⟩) ht c6 ⟨cx.sc, cx.ok, hl, n2.here⟩ (n1.trans n2) (jd ρ' μ' hJ) post exc
noncomputable def setOK (K : Frag) (p : Addr × List Nat) : Bool := findIn K (.ref p.1) "__setattr__" == some (some (.builtin "object.__setattr__")) && (plainOver K p.1 && ((clsIn K p.1).any (·.hasDict) && p.2.all fun j => takerIn K p.1 (atN j) == some none))
theorem set_ok (P : Params) : cTab.all (setOK (Mine.hd.heap_1 P)) = true := by rfl
theorem ents_app {j : Nat} {v : Value} {h : Int} {t : Tok} : ∀ {js : List Nat} {vs : List Value} {es : List DictEntry}, Ents js vs es → Ents (js ++ [j]) (vs ++ [v]) (es ++ [⟨h, .str (atN j) t, v⟩])
  | [], vs, es, e => by
    cases vs with
    | nil => cases es with
      | nil => exact ⟨⟨h, t, rfl⟩, trivial⟩
      | cons x l => exact e.elim
    | cons y m => exact e.elim
  | _ :: _, vs, es, e => by
    cases vs with
    | nil => exact e.elim
    | cons y m => cases es with
      | nil => exact e.elim
      | cons x l => exact ⟨e.1, ents_app e.2⟩
theorem ents_one {j : Nat} {v : Value} {es : List DictEntry} (e : Ents [j] [v] es) : ∃ h t, es = [⟨h, .str (atN j) t, v⟩] := by
  cases es with
  | nil => exact e.elim
  | cons x l => cases l with
    | nil => obtain ⟨⟨h, t, rfl⟩, _⟩ := e; exact ⟨h, t, rfl⟩
    | cons y m => exact e.2.elim
theorem put_new {name : Str} {h : Int} {key v : Value} {es : List DictEntry} {n : Nat} (hn : getL name es = some none) : Obj.putName name h key v (dictOf es n) = dictOf (es ++ [⟨h, key, v⟩]) (n + 1) := by
  rw [Obj.putName_eq]
  unfold getL at hn
  have hf : es.find? (·.key.isStr name) = none := by
    cases e : es.find? (·.key.isStr name) with
    | none => rfl
    | some x => rw [e] at hn; cases hn
  have hi : es.toArray.findIdx? (·.key.isStr name) = none := by
    rw [List.findIdx?_toArray]
    rw [List.find?_eq_none] at hf
    rw [List.findIdx?_eq_none_iff]
    intro x hx
    simpa using hf x hx
  unfold Obj.putNameByArray
  show (match es.toArray.findIdx? (·.key.isStr name) with | some i => _ | none => _) = _
  rw [hi]
  simp
theorem hnd_ok {imm : Led} {v : Value} {d : V} (h : Rp imm v d) (hh : hnd d = true) : handedIn v = true := by
  cases h <;> first | rfl | exact hh
section
variable {c : FC} {m : Str → Option Value} {ρ : List V} {a : Po}
theorem ents_len : ∀ {js : List Nat} {vs : List Value} {es : List DictEntry}, Ents js vs es → es.length = js.length
  | [], vs, es, e => by
    cases vs with
    | nil => cases es with
      | nil => rfl
      | cons x l => exact e.elim
    | cons y m => exact e.elim
  | _ :: _, vs, es, e => by
    cases vs with
    | nil => exact e.elim
    | cons y m => cases es with
      | nil => exact e.elim
      | cons x l => exact congrArg (· + 1) (ents_len e.2)
theorem setA_snd {x C : Addr} {js fs : List Nat} {l : List V} {μ1 μ2 : Mu} {j : Nat} {v : Value} {d : V} {Q' : Unit → Shared → Prop} {E' : Value → Shared → Prop} (n1 : Nx c m a a) (ok : c.Ok c.k) (hμ : a.μ = μ1 ++ .ins x C js l :: μ2) (hfs : cTab.lookup C = some fs) (htk : fs.take (js.length + 1) = js ++ [j]) (hl : js.length ≤ 30) (hh : hnd d = true) (hr : Rp a.imm v d)
    (post : ∀ b, b.μ = μ1 ++ .ins x C (js ++ [j]) (l ++ [d]) :: μ2 → Nx c m a b → Q' () b.s) : wpAny c.M c.A (setAttr (.ref x) (atN j) v) Q' E' a.s := by
  obtain ⟨ml, N⟩ := n1.N
  have r := N.r
  rw [hμ] at r
  obtain ⟨l1, nn, l2, rfl, r2, r3, r4⟩ := mr_split r
  obtain ⟨dx, vs, es, k, rfl, en, hv, rr⟩ := r3
  have hc := List.all_eq_true.mp (set_ok c.w.params) (C, fs) (lookup_mem hfs)
  obtain ⟨s1, hc⟩ := and_ex hc
  obtain ⟨s2, hc⟩ := and_ex hc
  obtain ⟨s3, s4⟩ := and_ex hc
  have hcls := and_ex (List.all_eq_true.mp (cls_ok c.w.params) (C, fs) (lookup_mem hfs))
  have hnd : ((js ++ [j]).map atN).Nodup := htk ▸ (of_decide_eq_true hcls.2).sublist (List.Sublist.map _ (List.take_sublist _ _))
  have hj : j ∈ fs := (List.take_sublist (js.length + 1) fs).subset (htk ▸ List.mem_append_right _ (.head _))
  have s5 := eq_of_beq (List.all_eq_true.mp s4 j hj)
  have hno : getL (atN j) es = some none := by
    refine ents_none en fun i hi e => ?_
    rw [List.map_append, List.nodup_append] at hnd
    exact hnd.2.2 _ (List.mem_map_of_mem hi) _ (.head _) e
  have hz : (es ++ [(⟨PyData.keyHash c.w.params (atN j), .str (atN j) (a.s.toks + 1), v⟩ : DictEntry)]).length ≤ 1000 := by rw [List.length_append, ents_len en]; show js.length + 1 ≤ 1000; (first | lia | omega)
  obtain ⟨a1, a2, fin⟩ := cell_turn (pre := [(x, instO C dx)]) (post := []) (x := dx) (o := dictOf es k) (o' := dictOf (es ++ [⟨PyData.keyHash c.w.params (atN j), .str (atN j) (a.s.toks + 1), v⟩]) (k + 1)) (cl' := .ins x C (js ++ [j]) (l ++ [d])) n1 hμ r2 r4 N.ap
    ⟨dx, vs ++ [v], _, k + 1, rfl, ents_app en, fun u hu => (List.mem_append.mp hu).elim (hv u) fun e => (List.mem_singleton.mp e) ▸ hnd_ok hr hh, rps_app rr (.cons hr .nil)⟩
  have NN := cell_news (pre := [(x, instO C dx)]) (post := []) N.n
  have X := ok.X.keeps n1.F.keep
  have I : InstAt a.s.heap x (instO C dx) C (some (dictOf es k)) := InstAt.of_news NN (List.mem_append_left _ (List.mem_append_right _ (.head _))) (List.mem_append_right _ (.head _))
  refine set_plain X I (eq_of_beq s1) ?_
  refine osa_dict (s := { a.s with toks := a.s.toks + 1 }) n1.F NN X I rfl s2 s5 s3 (by rw [lookIn_dict, hno]; rfl) a1 a2 (put_new hno) rfl hz fun h' F' N' => ?_
  exact post ⟨μ1 ++ .ins x C (js ++ [j]) (l ++ [d]) :: μ2, a.imm, _⟩ rfl (fin h' _ m F' N')
end
theorem st_setA {i j : Nat} {e : X} {t : T} (ht : PSt t) : PSt (.setA i j e t) := by
  intro c m ρ a R body h0 cx hq Q' E' post exc
  obtain ⟨st, r, rfl, hc⟩ := one_stmt h0; clear h0
  obtain ⟨g, v, vp, rfl, hz⟩ := asg_view hc; clear hc
  obtain ⟨⟨o, nm, p⟩, hg, hz⟩ := any_ex hz
  obtain rfl := uAttr_eq hg; clear hg
  obtain ⟨c1, hz⟩ := and_ex hz
  obtain ⟨c2, hz⟩ := and_ex hz
  obtain ⟨c3, hz⟩ := and_ex hz
  obtain ⟨c4, c5⟩ := and_ex hz
  dsimp only at c1 c2 c3 c4 c5 ⊢
  obtain rfl : nm = atN j := eq_of_beq c1
  obtain ⟨x, hx, c2⟩ := any_ex c2
  obtain ⟨xp, rfl⟩ := uName_eq hx
  refine wpAny_execs_cons (Assign_one ((sound e).1 c m ρ a _ v c4 cx hq _ _ fun v1 d1 b1 q1 r1 n1 => ?_) (show swapsWith v (some (.Attribute (.Name x xp) (atN j) p)) vp.line c.env = pure false from notComp_swaps c3) rfl rfl)
  obtain ⟨y, hy, C, js, l, μ1, μ2, hμ, ⟨⟨fs, hfs, htk⟩, hl⟩, hh, q2⟩ := rawQ_ex q1
  refine kas_attr (varR_snd (cx.next n1) (eq_of_beq c2) hy ?_)
  exact setA_snd n1.here cx.ok hμ hfs htk hl hh r1 fun b e n => st_next ht c5 ((cx.next n1).next n) (n1.trans n) (e ▸ q2) post exc
theorem st_exc : PSt .exc := by
  intro c m ρ a R body h0 cx hq Q' E' post exc
  obtain ⟨st, r, rfl, hc⟩ := one_stmt h0; clear h0
  obtain ⟨u, hu, hz⟩ := any_ex hc
  obtain ⟨p, rfl⟩ := vRai_eq hu; clear hu hc
  obtain ⟨⟨f, as, ks, cp⟩, hu, hz⟩ := any_ex hz
  obtain rfl := uCall_eq hu; clear hu
  obtain ⟨c1, hz⟩ := and_ex hz
  obtain ⟨c2, c3⟩ := and_ex hz
  obtain rfl : ks = [] := List.isEmpty_iff.mp c1
  obtain ⟨x, hx, c2⟩ := any_ex c2
  obtain ⟨xp, rfl⟩ : ∃ xp, f = .Name x xp := uName_eq hx
  obtain ⟨c2, c4⟩ := and_ex c2
  obtain rfl : x = Str.ofString "TxFault" := eq_of_beq c2
  obtain ⟨ar, har, c3⟩ := any_ex c3
  obtain rfl : as = [ar] := one_eq har
  obtain ⟨kk, arp, rfl⟩ := uConst_eq (eq_of_beq c3)
  obtain ⟨ml, N⟩ := cx.nx.N
  obtain ⟨k3, hq⟩ := hq
  have hd := cx.ok.hd
  have hu := cx.ok.hu
  refine wpAny_execs_cons (raise_tx (Q := fun f s₁ => match f with | .next => _ | f => _) cx.ok.B cx.nx.F cx.ok.X N.n cx.ok.T cx.ok.kind (by (first | lia | omega)) (by (first | lia | omega)) (fun h' e t dx h0 tk0 tk1 tk F' N' off => ?_) (eq_of_beq c4))
  exact exc _ ρ m ⟨a.μ, a.imm, { a.s with heap := h', toks := tk }⟩ hq ⟨e, t, dx, h0, tk0, tk1, ml, rfl, F', N.r, N.ap, fun _ h => h, N', off, rfl⟩
theorem soundS : ∀ t : T, PSt t
  | .done => st_done
  | .asg _ _ t => st_asg (soundS t)
  | .asgT _ _ _ t => st_asgT (soundS t)
  | .asgN _ _ _ t => st_asgN (soundS t)
  | .ret _ => st_ret
  | .retF _ _ => st_retF
  | .ife _ a b t => st_ife (soundS a) (soundS b) (soundS t)
  | .expr _ t => st_expr (soundS t)
  | .dead => st_dead
  | .exc => st_exc
  | .whl _ b t => st_whl (soundS b) (soundS t)
  | .forV _ _ b t => st_forV (soundS b) (soundS t)
  | .forR _ _ _ b t => st_forR (soundS b) (soundS t)
  | .setI _ _ _ t => st_setI (soundS t)
  | .setII _ _ _ _ t => st_setII (soundS t)
  | .app _ _ t => st_app (soundS t)
  | .setA _ _ _ t => st_setA (soundS t)
theorem lookup_of_mem {α : Type} [BEq α] [LawfulBEq α] {β : Type} {x : α} {v : β} : ∀ {l : List (α × β)}, (l.map (·.1)).Nodup → (x, v) ∈ l → l.lookup x = some v
  | [], _, h => by cases h
  | (y, u) :: l, nd, h => by
    rw [List.map_cons, List.nodup_cons] at nd
    rw [List.lookup_cons]
    rcases List.mem_cons.mp h with e | h
    · cases e; rw [beq_self_eq_true]
    · have : x ≠ y := fun e => nd.1 (e ▸ (List.mem_map_of_mem (f := (·.1)) h : (x, v).1 ∈ l.map (·.1)))
      rw [beq_false_of_ne this]; exact lookup_of_mem nd.2 h
theorem zip_keys {α β : Type} : ∀ {as : List α} {vs : List β}, vs.length = as.length → (as.zip vs).map (·.1) = as
  | [], [], _ => rfl
  | a :: as, v :: vs, h => congrArg (a :: ·) (zip_keys (by simpa using h))
  | [], _ :: _, h => by cases h
  | _ :: _, [], h => by cases h
theorem zip_find {α β : Type} [BEq α] [LawfulBEq α] {as : List α} {vs : List β} (hl : vs.length = as.length) (nd : as.Nodup) {i : Nat} {x : α} {v : β} (hx : as[i]? = some x) (hv : vs[i]? = some v) : (as.zip vs).lookup x = some v ∧ (as.zip vs).reverse.lookup x = some v := by
  have hm : (x, v) ∈ as.zip vs := List.mem_of_getElem? (i := i) (by rw [List.getElem?_zip_eq_some]; exact ⟨hx, hv⟩)
  refine ⟨lookup_of_mem (by rw [zip_keys hl]; exact nd) hm, lookup_of_mem ?_ (List.mem_reverse.mpr hm)⟩
  rw [List.map_reverse, zip_keys hl]
  exact List.pairwise_reverse.mpr (List.Pairwise.imp (fun h => Ne.symm h) nd)
theorem zip_fm {as : List Str} {vs : List Value} (hl : vs.length = as.length) (nd : as.Nodup) : as.filterMap (fun n => ((as.zip vs).lookup n).map (n, ·)) = as.zip vs := by
  have key : ∀ (k : List Str) (us : List Value) (l : List (Str × Value)), us.length = k.length → (∀ (i : Nat) (x : Str) (v : Value), k[i]? = some x → us[i]? = some v → l.lookup x = some v) → k.filterMap (fun n => (l.lookup n).map (n, ·)) = k.zip us := by
    intro k
    induction k with
    | nil => intro us l h _; cases us with
      | nil => rfl
      | cons _ _ => first | exact no_some h | exact no_ft h | cases h
    | cons a k ih =>
      intro us l h hh
      cases us with
      | nil => first | exact no_some h | exact no_ft h | cases h
      | cons u us =>
        rw [List.filterMap_cons, hh 0 a u rfl rfl]
        show (a, u) :: _ = _
        rw [ih us l (by simpa using h) fun i x v h1 h2 => hh (i + 1) x v h1 h2]; rfl
  exact key as vs _ hl fun i x v h1 h2 => (zip_find hl nd h1 h2).1
noncomputable def plnParams (p : Arguments) : Bool := p.posonlyargs.isEmpty && (p.vararg.isNone && (p.kwonlyargs.isEmpty && (p.kw_defaults.isEmpty && (p.kwarg.isNone && p.defaults.isEmpty))))
theorem pln_eq {p : Arguments} (h : plnParams p = true) : p = ⟨[], p.args, none, [], [], none, []⟩ := by
  obtain ⟨a, b, c, d, e, f, g⟩ := p
  have h1 := and_ex h
  have h2 := and_ex h1.2
  have h3 := and_ex h2.2
  have h4 := and_ex h3.2
  have h5 := and_ex h4.2
  have e1 : a = [] := List.isEmpty_iff.mp h1.1
  have e2 : c = none := Option.isNone_iff_eq_none.mp h2.1
  have e3 : d = [] := List.isEmpty_iff.mp h3.1
  have e4 : e = [] := List.isEmpty_iff.mp h4.1
  have e5 : f = none := Option.isNone_iff_eq_none.mp h5.1
  have e6 : g = [] := List.isEmpty_iff.mp h5.2
  rw [e1, e2, e3, e4, e5, e6]
theorem bind_plain {name qual : Str} {args : List Arg} {body : List Stmt} {scope : Scope} {kV doc pm cdv ct : Value} {an : Option Addr} {vs : List Value} (hl : vs.length = (args.map (·.arg)).length) (nd : (args.map (·.arg)).Nodup) :
    bindArgs (fnOf name qual ⟨[], args, none, [], [], none, []⟩ body scope .none kV doc pm an cdv ct) ⟨vs, []⟩ = pure ((args.map (·.arg)).zip vs) := by
  have h1 : ∀ n ∈ args.map (·.arg), (((args.map (·.arg)).zip vs).lookup n).isNone = false := by
    intro n hn
    obtain ⟨i, hi, rfl⟩ := List.getElem_of_mem hn
    rw [(zip_find hl nd (i := i) (List.getElem?_eq_getElem hi) (List.getElem?_eq_getElem (hl ▸ hi))).1]; rfl
  generalize hA : args.map (·.arg) = A at *
  have h2 : (A.take (A.length - (List.drop (0 - A.length) ([] : List Value)).length)).filter (fun n => ((A.zip vs).lookup n).isNone) = [] := by
    rw [List.drop_nil, List.length_nil, Nat.sub_zero, List.take_length, List.filter_eq_nil_iff]; intro n hn; rw [h1 n hn]; exact Bool.false_ne_true
  have h4 : ¬ ((decide (vs.length > A.length) && true) = true) := by rw [hl, decide_eq_false (Nat.lt_irrefl _)]; exact Bool.false_ne_true
  have h5 : ¬ ((!((A.take (A.length - (List.drop (0 - A.length) ([] : List Value)).length)).filter (fun n => ((A.zip vs).lookup n).isNone)).isEmpty) = true) := by rw [h2]; exact Bool.false_ne_true
  have h7 : (A.drop (A.length - (List.drop (0 - A.length) ([] : List Value)).length)).zip (List.drop (0 - A.length) ([] : List Value)) = [] := by rw [List.drop_nil, List.zip_nil_right]
  subst hA
  refine Eq.trans (if_neg h4) (Eq.trans (if_neg h5) ?_)
  refine Eq.trans (congrArg (fun (z : List (Str × Value)) => (forIn z _ _ >>= _ : Sem _)) h7) ?_
  have e : (pure (((args.map Arg.arg) ++ []).filterMap (fun n => (((args.map Arg.arg).zip vs).lookup n).map (n, ·))) : Sem (List (Str × Value))) = pure ((args.map Arg.arg).zip vs) := by rw [List.append_nil, zip_fm hl nd]
  exact e
noncomputable def fdHead (K : Frag) (fd : FuncData) (n : Nat) (ns : List Str) : Bool :=
  (fd.globals == mainGlobals) && ((fd.closure.isEmpty) && ((fd.builtins == builtinsNs) && ((codeIn K fd.code fd.qualname) && ((!fd.scope.isCoroutine) && ((!fd.scope.isGenerator) && ((fd.scope.kind == .function) && ((fd.scope.names.all (fun p => !(p.2 == .cell))) &&
  ((plnParams fd.params) && ((fd.defaults == .none) && (((fd.params.args.map (·.arg)) == ns.take n) && ((decide (n ≤ ns.length)) && ((ns.all (fun x => fd.scope.names.lookup x == some .local && !(x == ("__debug__" : Str)))) && (decide ns.Nodup)))))))))))))
noncomputable def fdOf (K : Frag) (f : Addr) : Option FuncData := match K.lookup f with
  | some ⟨_, _, .func fd, _⟩ => some fd
  | _ => none
noncomputable def bodyOf (fd : FuncData) : Option (List Stmt) := match fd.body with
  | .stmts b => some b
  | _ => none
noncomputable def fnHead (K : Frag) (f : Addr) (n : Nat) (ns : List Str) (p : Scope → List Stmt → Bool) : Bool := (fdOf K f).any fun fd => fdHead K fd n ns && (bodyOf fd).any (p fd.scope)
theorem fdOf_eq {K : Frag} {f : Addr} {fd : FuncData} (h : fdOf K f = some fd) : ∃ oc od osl, K.lookup f = some ⟨oc, od, .func fd, osl⟩ := by
  unfold fdOf at h
  split at h
  · rename_i e; cases h; exact ⟨_, _, _, e⟩
  · first | exact no_some h | exact no_ft h | cases h
theorem lget_un : ∀ (args : List V) (j i : Nat), args.length ≤ i → lget (args ++ List.replicate j .un) i = .un
  | [], 0, _, _ => rfl
  | [], _ + 1, 0, _ => rfl
  | [], j + 1, i + 1, _ => lget_un [] j i (Nat.zero_le _)
  | _ :: l, j, i + 1, h => lget_un l j i (Nat.le_of_succ_le_succ h)
theorem lget_arg : ∀ (args : List V) (j i : Nat) {d : V}, args[i]? = some d → lget (args ++ List.replicate j .un) i = d
  | [], _, _, _, h => by cases h
  | _ :: _, _, 0, _, h => by cases h; rfl
  | _ :: l, j, i + 1, _, h => lget_arg l j i h
theorem enter_raw {w : World} {A A₀ : Around} {base h₀ : Heap} {env : Env} {outer : List Env} {L f : Addr} {m : Str → Option Value} {s : Shared} {news : Led} {fo : Obj} {name qual : Str} {params : Arguments} {body : List Stmt} {scope : Scope} {dV kV doc pm cdv ct : Value} {an : Option Addr} {args : Args} {binds : List (Str × Value)} {R : Result → Shared → Prop}
    (B : Below A₀ base outer h₀) (F : Fr h₀ L s.heap m) (N : News h₀ L s.heap news) (hlim : h₀.NoLimit) (hA : A.frames = some (env :: outer)) (hf : env.frame = some L) (hke : env.scope.kind = .function)
    (ho : s.heap.get? f = some fo) (hd : fo.data = .func (fnX name qual params body scope [] dV kV doc pm an cdv ct)) (hcd : s.heap.CodeRec cdv qual) (hroom : A.depth < recursionLimit)
    (hbind : BindsTo s (fnX name qual params body scope [] dV kV doc pm an cdv ct) args binds) (hloc : ∀ y ∈ binds, scope.names.lookup y.1 = some .local)
    (h : ∀ g L' h₁, Fr h₀ L g m → Fr g L' h₁ (fun y => binds.reverse.lookup y) → News g L' h₁ news → Below A base (env :: outer) g → h₀.StaysIn g →
      wpAny (model PR w) (A.deeper (envX qual scope L' f cdv [])) (execs body (envX qual scope L' f cdv []))
        (fun fl s' => R (.ok (.ret (match fl with | .ret v => v | _ => .none))) s')
        (fun e s' => wpAny (model PR w) (A.deeper (envX qual scope L' f cdv [])) (leaving (envX qual scope L' f cdv []) e) (fun _ s'' => R (.error e) s'') (fun e' s'' => R (.error e') s'') s')
        { s with heap := h₁, toks := s.toks + binds.length })
    (hcell : ∀ x ∈ scope.names, x.2 ≠ .cell) (hco : scope.isCoroutine = false) (hgen : scope.isGenerator = false) (hk : scope.kind = .function) : codeAny (model PR w) A (.call (.ref f) args) R s := by
  obtain ⟨FG, BG, st, _⟩ := groundX (R := R) B F N hA hf hke
  refine codeAny_call_def (fd := fnX name qual params body scope [] dV kV doc pm an cdv ct) (body := body) (binds := binds) hroom ho hd (hlim.keeps F.keep) hcd rfl hbind hcell hloc (fun h₁ hns hk₁ => ?_) hco hgen hk
  exact h _ s.heap.objs.size h₁ FG ⟨hns, fun b o e => hk₁ b o (of_hideAll _ e), Nat.le_of_eq (hideAll_size _ _)⟩
    (fun p hp => ⟨hk₁ _ _ (N p hp).1, Nat.ne_of_lt (Heap.lt_size (N p hp).1), hideAll_none _ (List.mem_map_of_mem hp)⟩) BG st
theorem code_defR {w : World} {A A₀ : Around} {base h₀ : Heap} {env : Env} {outer : List Env} {L f : Addr} {m : Str → Option Value} {s : Shared} {news : Led} {loose : List Str} {mean : ExcName → Option Value} {mg mb : Str → Option Value} {name qual : Str} {params : Arguments} {body : List Stmt} {scope : Scope} {dV kV doc pm cdv ct oc : Value} {an od : Option Addr} {osl : Array (Option Value)} {args : Args} {binds : List (Str × Value)} {R : Result → Shared → Prop}
    (B : Below A₀ base outer h₀) (F : Fr h₀ L s.heap m) (X₀ : (Mine.hd.heap_1 w.params).In h₀) (N : News h₀ L s.heap news) (T : Top Mine.hd.view_1 loose mean mg mb h₀) (hA : A.frames = some (env :: outer)) (hf : env.frame = some L) (hke : env.scope.kind = .function)
    (ho : (Mine.hd.heap_1 w.params).lookup f = some ⟨oc, od, .func (fnOf name qual params body scope dV kV doc pm an cdv ct), osl⟩) (hcd : codeIn (Mine.hd.heap_1 w.params) cdv qual = true) (hroom : A.depth < recursionLimit)
    (hbind : BindsTo s (fnOf name qual params body scope dV kV doc pm an cdv ct) args binds) (hloc : ∀ y ∈ binds, scope.names.lookup y.1 = some .local)
    (h : ∀ g L' h₁, Fr h₀ L g m → Fr g L' h₁ (fun y => binds.reverse.lookup y) → News g L' h₁ news → Below A base (env :: outer) g → (Mine.hd.heap_1 w.params).In g → Top Mine.hd.view_1 loose mean mg mb g →
      wpAny (model PR w) (A.deeper (envOf qual scope L' f cdv)) (execs body (envOf qual scope L' f cdv))
        (fun fl s' => R (.ok (.ret (match fl with | .ret v => v | _ => .none))) s')
        (fun e s' => wpAny (model PR w) (A.deeper (envOf qual scope L' f cdv)) (leaving (envOf qual scope L' f cdv) e) (fun _ s'' => R (.error e) s'') (fun e' s'' => R (.error e') s'') s')
        { s with heap := h₁, toks := s.toks + binds.length })
    (hco : scope.isCoroutine = false) (hgen : scope.isGenerator = false) (hk : scope.kind = .function)
    (hcell : ∀ x ∈ scope.names, x.2 ≠ .cell) : codeAny (model PR w) A (.call (.ref f) args) R s :=
  enter_raw B F N T.nolimit hA hf hke ((X₀.keeps F.keep) _ _ ho) rfl (codeRec_of (X₀.keeps F.keep) hcd) hroom hbind hloc (fun g L' h₁ FG F' N' B' st => h g L' h₁ FG F' N' B' (X₀.keeps st) (T.keeps st)) hcell hco hgen hk
theorem back_home {h₀ g g2 h3 : Heap} {L L' : Addr} {m m3 : Str → Option Value} {n : Led} {fs : List Addr} (hfs : fs = [L]) (FG : Fr h₀ L g m) (T2 : KtsTurn fs g g2) (F3 : Fr g2 L' h3 m3) (N3 : News g2 L' h3 n) : Fr h₀ L h3 m ∧ News h₀ L h3 n := by
  subst hfs
  have st : ∀ b o, h₀.get? b = some o → g2.get? b = some o := fun b o e => T2.other b o (FG.keep b o e) fun hm => by
    rw [List.mem_singleton.mp hm, kts_self FG] at e; cases e
  obtain ⟨o, es, ep, ho, hd, r⟩ := FG.ns
  obtain ⟨sl, hs⟩ := T2.frame L o ho (.head _)
  have F2 : Fr h₀ L g2 m := ⟨⟨_, es, ep, hs, hd, r⟩, st, FG.above⟩
  refine ⟨F2.keptAll F3.keep, fun p hp => ?_⟩
  have q := N3 p hp
  refine ⟨q.1, fun z => ?_, ?_⟩
  · have h2 := q.2.2; rw [z, hs] at h2; cases h2
  · cases h5 : h₀.get? p.1 with
    | none => rfl
    | some o' => have := st _ _ h5; rw [q.2.2] at this; cases this
theorem home {h₀ g h3 : Heap} {L L' : Addr} {m m3 : Str → Option Value} {n : Led} (FG : Fr h₀ L g m) (F3 : Fr g L' h3 m3) (N3 : News g L' h3 n) : Fr h₀ L h3 m ∧ News h₀ L h3 n := by
  obtain ⟨o, es, ep, ho, hd, r⟩ := FG.ns
  refine ⟨FG.keptAll F3.keep, fun p hp => ?_⟩
  have q := N3 p hp
  refine ⟨q.1, fun z => ?_, ?_⟩
  · have h2 := q.2.2; rw [z, ho] at h2; cases h2
  · cases h5 : h₀.get? p.1 with
    | none => rfl
    | some o' => have := FG.keep _ _ h5; rw [q.2.2] at this; cases this
/-- a callee's frame -/
structure Callee (c : FC) (m : Str → Option Value) (a : Po) (k : Nat) (ns : List Str) (cs : Scope) (c' : FC) (a' : Po) : Prop where
  w : c'.w = c.w
  k : c'.k = k
  ns : c'.ns = ns
  cs : c'.cs = cs
  base : c'.base = c.base
  outer : c'.outer = c.env :: c.outer
  A₀ : c'.A₀ = c.A
  A : c'.A = c.A.deeper c'.env
  FG : Fr c.h₀ c.L c'.h₀ m
  μ : a'.μ = a.μ
  imm : a'.imm = a.imm
  s : a'.s = { a.s with heap := a'.s.heap, toks := a'.s.toks }
noncomputable abbrev RetP (Q' E' : Value → Shared → Prop) : Result → Shared → Prop := fun r s' => match r with
  | .ok (.ret v) => Q' v s'
  | .ok _ => False
  | .error e => E' e s'
theorem fd_eq {fd : FuncData} {b : List Stmt} (e1 : fd.globals = mainGlobals) (e2 : fd.closure = []) (e3 : fd.builtins = builtinsNs) (e4 : bodyOf fd = some b) (e5 : fd.defaults = .none) (e6 : plnParams fd.params = true) :
    fd = fnOf fd.name fd.qualname ⟨[], fd.params.args, none, [], [], none, []⟩ b fd.scope .none fd.kwdefaults fd.doc fd.pyModule fd.annotations fd.code fd.closureTuple := by
  have e7 := pln_eq e6
  clear e6
  have e8 : fd.body = .stmts b := by
    unfold bodyOf at e4
    revert e4
    cases fd.body with
    | stmts b' => intro e4; rw [Option.some.inj e4]
    | expr e => intro e4; cases e4
  clear e4
  show fd = FuncData.mk _ _ _ _ _ _ _ _ _ _ _ _ _ _ _
  rw [← e1, ← e2, ← e3, ← e5, ← e7, ← e8]
structure HD (K : Frag) (f : Addr) (n : Nat) (ns : List Str) (p : Scope → List Stmt → Bool) (fd : FuncData) (body : List Stmt) : Prop where
  lk : ∃ oc od osl, K.lookup f = some ⟨oc, od, .func (fnOf fd.name fd.qualname ⟨[], fd.params.args, none, [], [], none, []⟩ body fd.scope .none fd.kwdefaults fd.doc fd.pyModule fd.annotations fd.code fd.closureTuple), osl⟩
  cd : codeIn K fd.code fd.qualname = true
  co : fd.scope.isCoroutine = false
  ge : fd.scope.isGenerator = false
  kind : fd.scope.kind = .function
  cell : ∀ x ∈ fd.scope.names, x.2 ≠ .cell
  keys : fd.params.args.map (·.arg) = ns.take n
  len : n ≤ ns.length
  loc : ∀ x ∈ ns, fd.scope.names.lookup x = some .local ∧ (x == ("__debug__" : Str)) = false
  nd : ns.Nodup
  hp : p fd.scope body = true
theorem not_ex {b : Bool} (h : (!b) = true) : b = false := by cases b with
  | true => first | exact no_some h | exact no_ft h | cases h
  | false => rfl
theorem fnHead_ex {K : Frag} {f : Addr} {n : Nat} {ns : List Str} {p : Scope → List Stmt → Bool} (h : fnHead K f n ns p = true) : ∃ fd body, HD K f n ns p fd body := by
  obtain ⟨fd, hfd, h⟩ := any_ex h
  have hb := and_ex h
  obtain ⟨body, hbo, hp⟩ := any_ex hb.2
  have a1 := and_ex hb.1
  have a2 := and_ex a1.2
  have a3 := and_ex a2.2
  have a4 := and_ex a3.2
  have a5 := and_ex a4.2
  have a6 := and_ex a5.2
  have a7 := and_ex a6.2
  have a8 := and_ex a7.2
  have a9 := and_ex a8.2
  have a10 := and_ex a9.2
  have a11 := and_ex a10.2
  have a12 := and_ex a11.2
  have a13 := and_ex a12.2
  obtain ⟨oc, od, osl, hl⟩ := fdOf_eq hfd
  refine ⟨fd, body, ⟨oc, od, osl, ?_⟩, a4.1, not_ex a5.1, not_ex a6.1, eq_of_beq a7.1, fun x hx e => ?_, eq_of_beq a11.1, of_decide_eq_true a12.1, fun x hx => ?_, of_decide_eq_true a13.2, hp⟩
  · rw [hl]
    exact congrArg (fun z => some (Obj.mk oc od (.func z) osl)) (fd_eq (eq_of_beq a1.1) (List.isEmpty_iff.mp a2.1) (eq_of_beq a3.1) hbo (eq_of_beq a10.1) a9.1)
  · have := List.all_eq_true.mp a8.1 x hx
    rw [e] at this; exact absurd this (by decide)
  · have q := and_ex (List.all_eq_true.mp a13.1 x hx)
    exact ⟨eq_of_beq q.1, not_ex q.2⟩
theorem enter_okC {c : FC} {m : Str → Option Value} {a : Po} {f : Addr} {n k : Nat} {ns : List Str} {args : List V} {vs : List Value} {p : Scope → List Stmt → Bool} {R : Result → Shared → Prop} (h : fnHead (Mine.hd.heap_1 c.w.params) f n ns p = true) (hn : args.length = n) (hr : Rps a.imm vs args) (ok : c.Ok (k + 1)) (hk : k < 60) (nx : Nx c m a a)
    (go : ∀ (c' : FC) (a' : Po) (m' : Str → Option Value) (cs : Scope) (body : List Stmt), Callee c m a k ns cs c' a' → p cs body = true → Cx c' m' (args ++ List.replicate (ns.length - n) .un) a' →
      wpAny c'.M c'.A (execs body c'.env) (fun fl s' => R (.ok (.ret (match fl with | .ret v => v | _ => .none))) s') (fun e s' => wpAny c'.M c'.A (leaving c'.env e) (fun _ s'' => R (.error e) s'') (fun e' s'' => R (.error e') s'') s') a'.s) :
    codeAny c.M c.A (.call (.ref f) ⟨vs, []⟩) R a.s := by
  obtain ⟨fd, body, H⟩ := fnHead_ex h
  obtain ⟨oc, od, osl, hl⟩ := H.lk
  obtain ⟨ml, N⟩ := nx.N
  have hvl : vs.length = (fd.params.args.map (·.arg)).length := by rw [H.keys, List.length_take, Nat.min_eq_left H.len, hr.length, hn]
  have hnd : (fd.params.args.map (·.arg)).Nodup := by rw [H.keys]; exact H.nd.sublist (List.take_sublist _ _)
  have hd := ok.hd
  have hu := ok.hu
  refine code_defR (env := c.env) (outer := c.outer) (loose := c.loose) (mean := c.mean) (mg := c.mg) (mb := c.mb) (R := R) ok.B nx.F ok.X N.n ok.T rfl rfl ok.kind hl H.cd (by show c.dp < _; (first | lia | omega)) (BindsTo.of_eq (bind_plain hvl hnd)) (fun y hy => ?_) (fun g L' h₁ FG F' N' B' X' T' => ?_) H.co H.ge H.kind H.cell
  · have := List.mem_map_of_mem (f := (·.1)) hy
    rw [zip_keys hvl, H.keys] at this
    exact (H.loc _ (List.mem_of_mem_take this)).1
  · exact go ⟨c.w, k, ns, c.loose, c.mean, c.mg, c.mb, c.dp + 1, c.un + 3, c.gd, fd.qualname, fd.scope, f, fd.code, c.env :: c.outer, c.A, c.base, g, L'⟩ ⟨a.μ, a.imm, { a.s with heap := h₁, toks := a.s.toks + ((fd.params.args.map (·.arg)).zip vs).length }⟩ (fun y => ((fd.params.args.map (·.arg)).zip vs).reverse.lookup y) fd.scope body ⟨rfl, rfl, rfl, rfl, rfl, rfl, rfl, rfl, FG, rfl, rfl, rfl⟩ H.hp
      ⟨⟨fun x hx => (H.loc x hx).1, H.nd, fun x hx => (H.loc x hx).2⟩, ⟨B', X', T', H.kind, by show c.dp + 1 + 2 * k < _; (first | lia | omega), by show c.un + 3 + 40 * k + 40 < _; (first | lia | omega), fun q => absurd q (Nat.not_le.mpr hk)⟩, fun i x hx => by
          rcases Nat.lt_or_ge i args.length with hi | hi
          · obtain ⟨v, hv, hrp⟩ := hr.get (List.getElem?_eq_getElem hi)
            refine .inr ⟨v, (zip_find hvl hnd (i := i) ?_ hv).2, ?_⟩
            · rw [H.keys, List.getElem?_take_of_lt (hn ▸ hi)]; exact hx
            · rw [lget_arg args _ i (List.getElem?_eq_getElem hi)]; exact hrp
          · exact .inl (lget_un args _ i hi), ⟨fun _ h => h, F', ⟨ml, ⟨N.r, N', N.ap⟩⟩, rfl⟩⟩
theorem enter_ok {c : FC} {m : Str → Option Value} {a : Po} {f : Addr} {n k : Nat} {ns : List Str} {args : List V} {vs : List Value} {p : Scope → List Stmt → Bool} {Q' E' : Value → Shared → Prop} (h : fnHead (Mine.hd.heap_1 c.w.params) f n ns p = true) (hn : args.length = n) (hr : Rps a.imm vs args) (ok : c.Ok (k + 1)) (hk : k < 60) (nx : Nx c m a a)
    (go : ∀ (c' : FC) (a' : Po) (m' : Str → Option Value) (cs : Scope) (body : List Stmt), Callee c m a k ns cs c' a' → p cs body = true → Cx c' m' (args ++ List.replicate (ns.length - n) .un) a' →
      wpAny c'.M c'.A (execs body c'.env) (fun fl s' => Q' (match fl with | .ret v => v | _ => .none) s') (fun e s' => wpAny c'.M c'.A (leaving c'.env e) (fun _ s'' => E' e s'') (fun e' s'' => E' e' s'') s') a'.s) :
    wpAny c.M c.A (call (.ref f) vs) Q' E' a.s := wpAny_call (enter_okC h hn hr ok hk nx go)
/-- an exception that has left a call -/
structure FlyC (c : FC) (m : Str → Option Value) (a : Po) (e : Value) (s' : Shared) (X : Mu → Prop) : Prop where
  ex : ∃ (x dx : Addr) (h0 : Int) (tk0 tk1 : Tok) (ml imm' : Led) (μ' : Mu) (G h' : Heap) (tk : Nat), e = .ref x ∧ s' = { a.s with heap := h', toks := tk } ∧ X μ' ∧ MR imm' μ' ml ∧ Apart ml imm' ∧ (∀ p ∈ a.imm, p ∈ imm') ∧ Fr c.h₀ c.L G m ∧ G.UpToSlots h' ∧
    RaisedX c.base G (c.env :: c.outer) x dx ((dx, dictOf [⟨h0, .str (Str.ofString "word") tk0, .str (Str.ofString "signature") tk1⟩] 1) :: (ml ++ imm')) h'
structure CallX (w : World) (k : Nat) (f : Value) (args : List V) (μ : Mu) (Q : V → Mu → Prop) (X : Mu → Prop) : Prop where
  go : ∀ (c : FC) (m : Str → Option Value) (a : Po) (vs : List Value) (Q' E' : Value → Shared → Prop), c.w = w → c.Ok k → a.μ = μ → Nx c m a a → Rps a.imm vs args → (∀ v d b, Q d b.μ → Rp b.imm v d → Nx c m a b → Q' v b.s) → (∀ e s', FlyC c m a e s' X → E' e s') →
    wpAny c.M c.A (call f vs) Q' E' a.s
theorem CallX.ok {w : World} {k : Nat} {f : Value} {args : List V} {μ : Mu} {Q : V → Mu → Prop} (h : CallX w k f args μ Q fun _ => False) : CallOK w k f args μ Q :=
  ⟨fun c m a vs hw ok hm nx hr Q' E' post => h.go c m a vs Q' E' hw ok hm nx hr post fun e s' hf => by obtain ⟨_, _, _, _, _, _, _, _, _, _, _, _, _, hx, _⟩ := hf.ex; exact hx.elim⟩
noncomputable def retQ (Q : V → Mu → Prop) (X : Mu → Prop) : PS := fun r _ μ => match r with
  | .next => Q .none μ
  | .ret v => Q v μ
  | .exc => X μ
noncomputable abbrev fnChk (K : Frag) (f : Addr) (n : Nat) (ns : List Str) (t : T) : Bool := fnHead K f n ns fun cs b => chkS cs ns t b
theorem fn_okX {w : World} {k : Nat} {f : Addr} {n : Nat} {ns : List Str} {t : T} {args : List V} {μ : Mu} {Q : V → Mu → Prop} {X : Mu → Prop} (h : fnChk (Mine.hd.heap_1 w.params) f n ns t = true) (hn : args.length = n) (hk : k < 60)
    (hq : wS w k t (args ++ List.replicate (ns.length - n) .un) μ (retQ Q X)) : CallX w (k + 1) (.ref f) args μ Q X := by
  refine ⟨fun c m a vs Q' E' hw ok hm nx hr post exc => ?_⟩
  subst hw
  refine enter_ok h hn hr ok hk nx fun c' a' m' cs body ce hb cx => ?_
  have hq' : wS c'.w c'.k t (args ++ List.replicate (ns.length - n) .un) a'.μ (retQ Q X) := by rw [ce.w, ce.k, ce.μ, hm]; exact hq
  have hb' : chkS c'.cs c'.ns t body = true := by rw [ce.cs, ce.ns]; exact hb
  refine soundS t c' m' _ a' (retQ Q X) body hb' cx hq' _ _ (fun fl r ρ' m2 b hR hf hl nx2 => ?_) fun e ρ' m2 b hX hf => ?_
  · obtain ⟨ml, N⟩ := nx2.N
    obtain ⟨F3, N3⟩ := home ce.FG nx2.F N.n
    have nn : Nx c m a b := ⟨fun p hp => nx2.hs p (ce.imm ▸ hp), F3, ⟨ml, N.r, N3, N.ap⟩, by rw [nx2.e, ce.s]⟩
    rcases rf_cases hf with ⟨rfl, rfl⟩ | ⟨d, v, rfl, rfl, hrr⟩
    · exact post _ _ b hR .none nn
    · exact post _ _ b hR hrr nn
  · obtain ⟨x, t, dx, h0, tk0, tk1, ml, rfl, F2, r2, ap, hs, N2, off, e2⟩ := hf.ex
    have B := cx.ok.B
    rw [ce.A₀, ce.base, ce.outer] at B
    rw [ce.A]
    refine leave_tx2 (name := c'.cn) (scope := c'.cs) (a := c'.a) (cd := c'.ccd) B F2 N2 off (fun h' hR' hU => ?_) cx.ok.kind
    exact exc _ _ ⟨x, dx, h0, tk0, tk1, ml, b.imm, b.μ, c'.h₀, h', b.s.toks, rfl, by rw [e2, ce.s], hX, r2, ap, fun p hp => hs p (ce.imm ▸ hp), ce.FG, hU, hR'⟩
theorem fn_ok {w : World} {k : Nat} {f : Addr} {n : Nat} {ns : List Str} {t : T} {args : List V} {μ : Mu} {Q : V → Mu → Prop} (h : fnChk (Mine.hd.heap_1 w.params) f n ns t = true) (hn : args.length = n) (hk : k < 60)
    (hq : wS w k t (args ++ List.replicate (ns.length - n) .un) μ (retQ Q fun _ => False)) : CallOK w (k + 1) (.ref f) args μ Q := (fn_okX h hn hk hq).ok
theorem FlyC.from {c : FC} {m m' : Str → Option Value} {a b : Po} {e : Value} {s' : Shared} {X : Mu → Prop} (n : Nx c m' a b) (h : FlyC c m b e s' X) : FlyC c m a e s' X := by
  obtain ⟨x, dx, h0, tk0, tk1, ml, imm', μ', G, h', tk, e1, e2, e3, e4, e5, e6, e7⟩ := h.ex
  exact ⟨x, dx, h0, tk0, tk1, ml, imm', μ', G, h', tk, e1, by rw [e2, n.e], e3, e4, e5, fun p hp => e6 p (n.hs p hp), e7⟩
/-- a call that may raise -/
noncomputable def wX (w : World) (k : Nat) (j : Nat) (as : X) (ρ : List V) (μ : Mu) (Q : V → Mu → Prop) (X : Mu → Prop) : Prop :=
  wE w k as ρ μ fun vs μ₁ => tupQ vs fun l => (match (gtL j).2.1 with | .raw f => CallX w k f l μ₁ Q X | _ => False)
theorem callX_snd {c : FC} {m : Str → Option Value} {ρ : List V} {a : Po} {j : Nat} {as : X} {e : Expr} {Q : V → Mu → Prop} {X : Mu → Prop} {Q' E' : Value → Shared → Prop} (h0 : chk c.cs c.ns (.call j as) true e = true) (cx : Cx c m ρ a) (hq : wX c.w c.k j as ρ a.μ Q X)
    (post : ∀ v d b, Q d b.μ → Rp b.imm v d → Nx c m a b → Q' v b.s) (exc : ∀ e s', FlyC c m a e s' X → E' e s') : wpAny c.M c.A (eval e c.env) Q' E' a.s := by
  obtain ⟨⟨f, args, ks, p⟩, hu, hc⟩ := any_ex h0
  obtain rfl := uCall_eq hu; clear h0 hu
  obtain ⟨h1, hc⟩ := and_ex hc
  obtain ⟨h2, hc⟩ := and_ex hc
  obtain ⟨h3, h4⟩ := and_ex hc
  obtain rfl : ks = [] := List.isEmpty_iff.mp h1
  obtain ⟨x, hx, hg⟩ := any_ex h2
  obtain ⟨xp, rfl⟩ := uName_eq hx
  refine Call_ (glb_snd cx hg fun v hv => ?_)
  cases hu : (gtL j).2.1 with
  | raw u =>
    rw [hu] at hv
    obtain rfl : v = u := eq_of_beq hv
    refine callW_snd (g_keep hg hu) (spl_star h4 _ _) ((sound as).2.2 c m ρ a _ args p _ h4 cx hq _ _ fun v1 d1 b1 q1 r1 n1 => ?_)
    obtain ⟨ds, rfl, rr, hl⟩ := r1
    replace q1 : (match (gtL j).2.1 with | .raw f => CallX c.w c.k f ds b1.μ Q X | _ => False) := q1
    rw [hu] at q1
    refine ⟨cx.ok.X.keeps n1.F.keep, ?_⟩
    exact q1.go c m b1 v1 _ _ rfl cx.ok rfl n1.here rr (fun v d b hq' hr n => post v d b hq' hr (n1.trans n)) fun e s' hf => exc e s' (hf.from n1)
  | _ => rw [hu] at h3; exact absurd h3 Bool.false_ne_true
noncomputable def vTry (s : Stmt) : Option (List Stmt × List ExceptHandler × List Stmt × List Stmt) := match s with
  | .Try b h o f _ => some (b, h, o, f)
  | _ => none
theorem vTry_eq {s : Stmt} {y : List Stmt × List ExceptHandler × List Stmt × List Stmt} (h : vTry s = some y) : ∃ p, s = .Try y.1 y.2.1 y.2.2.1 y.2.2.2 p := by
  cases s <;> first | exact noS h | (cases h; exact ⟨_, rfl⟩)
noncomputable def uHnd (h : ExceptHandler) : Option (Option Expr × Option Str × List Stmt) := match h with
  | .ExceptHandler t n b _ => some (t, n, b)
theorem uHnd_eq {h : ExceptHandler} {y : Option Expr × Option Str × List Stmt} (e : uHnd h = some y) : ∃ p, h = .ExceptHandler y.1 y.2.1 y.2.2 p := by
  cases h; cases e; exact ⟨_, rfl⟩
/-- fault.word == 'signature' -/
noncomputable def wordC (n : Str) (e : Expr) : Bool := (uCmp e).any fun y => (one y.2.1).any (· == .Eq) && ((one y.2.2).any (fun r => uConst r == some (.str (stN 2))) && ((uAttr y.1).any fun z => z.2.1 == Str.ofString "word" && (uName z.1).any (· == n)))
noncomputable def tryC (cs : Scope) (ns : List Str) (j : Nat) (as : X) (b : List Stmt) : Bool :=
  (one b).any fun s => (vTry s).any fun y => y.2.2.1.isEmpty && (y.2.2.2.isEmpty && (((one y.1).any fun r => (vRet r).any fun ce => chk cs ns (.call j as) true ce) &&
    ((one y.2.1).any fun h => (uHnd h).any fun z => (z.1.any fun t => (uName t).any fun x => x == Str.ofString "TxFault" && cs.names.lookup x == some .globalImplicit) &&
      (z.2.1.any fun n => cs.names.lookup n == some .local && (!(n == ("__debug__" : Str)) && ((one z.2.2).any fun r => (vRet r).any fun e => (uIf e).any fun i => wordC n i.1 && uConst i.2.1 == some .none))))))
theorem CallX.mono {w : World} {k k' : Nat} {f : Value} {args : List V} {μ : Mu} {Q : V → Mu → Prop} {X : Mu → Prop} (h : CallX w k f args μ Q X) (hk : k ≤ k') : CallX w k' f args μ Q X :=
  ⟨fun c m a vs Q' E' hw ok hm N R p x => h.go c m a vs Q' E' hw (ok.mono hk) hm N R p x⟩
theorem wordC_eq {n : Str} {e : Expr} (h : wordC n e = true) : ∃ np ap kk cp p, e = .Compare (.Attribute (.Name n np) (Str.ofString "word") ap) [.Eq] [.Constant (.str (stN 2)) kk cp] p := by
  refine any_k h fun q hu h => ?_
  obtain ⟨l, os, rs⟩ := q
  have e1 := uCmp_eq hu
  have q1 := and_ex h
  have q2 := and_ex q1.2
  refine any_k q1.1 fun o ho h1 => any_k q2.1 fun r hr h2 => any_k q2.2 fun q hv h3 => ?_
  obtain ⟨a, nm, ap⟩ := q
  have q3 := and_ex h3
  refine any_k q3.2 fun x hx h4 => ?_
  obtain ⟨p, e1⟩ := e1
  obtain ⟨kk, cp, e2⟩ := uConst_eq (eq_of_beq h2)
  obtain ⟨np, e3⟩ := uName_eq hx
  refine ⟨np, ap, kk, cp, p, ?_⟩
  have e4 : l = _ := uAttr_eq hv
  have e5 : nm = _ := eq_of_beq q3.1
  have e6 : x = n := eq_of_beq h4
  have e7 : o = _ := eq_of_beq h1
  replace e3 : a = _ := e3
  rw [e1, one_eq ho, one_eq hr, e2, e4, e5, e3, e6, e7]
theorem tryC_eq {cs : Scope} {ns : List Str} {j : Nat} {as : X} {b : List Stmt} {G : Prop} (h : tryC cs ns j as b = true) (go : ∀ ce rp np n p1 p2 p3 t kk cp o ip, b = [.Try [.Return (some ce) rp] [.ExceptHandler (some (.Name (Str.ofString "TxFault") np)) (some n) [.Return (some (.IfExp t (.Constant .none kk cp) o ip)) p1] p2] [] [] p3] → chk cs ns (.call j as) true ce = true →
    cs.names.lookup (Str.ofString "TxFault") = some .globalImplicit → cs.names.lookup n = some .local → (n == ("__debug__" : Str)) = false → wordC n t = true → G) : G := by
  refine any_k h fun s hs h' => any_k h' fun q hu h => ?_
  obtain ⟨tb, hs', oe, fi⟩ := q
  obtain ⟨p3, e1⟩ := vTry_eq hu
  have a1 := and_ex h
  have a2 := and_ex a1.2
  have a3 := and_ex a2.2
  refine any_k a3.1 fun r hr h31 => any_k h31 fun ce hu3 h3 => any_k a3.2 fun hh hrh hD => any_k hD fun q hu4 hE => ?_
  obtain ⟨ty, nm, hb⟩ := q
  obtain ⟨rp, e2⟩ := vRet_eq hu3
  obtain ⟨p2, e3⟩ := uHnd_eq hu4
  have a4 := and_ex hE
  refine any_k a4.1 fun ty' hty h41 => any_k h41 fun x hx h42 => any_k a4.2 fun n hn h => ?_
  obtain ⟨np, e4⟩ := uName_eq hx
  have a5 := and_ex h42
  have a6 := and_ex h
  have a7 := and_ex a6.2
  refine any_k a7.2 fun r2 hr2 hI => any_k hI fun e hu5 hJ => any_k hJ fun q hu6 h => ?_
  obtain ⟨t, b1, o⟩ := q
  obtain ⟨p1, e5⟩ := vRet_eq hu5
  obtain ⟨ip, e6⟩ := uIf_eq hu6
  have a8 := and_ex h
  obtain ⟨kk, cp, e7⟩ := uConst_eq (eq_of_beq a8.2)
  refine go ce rp np n p1 p2 p3 t kk cp o ip ?_ h3 ((eq_of_beq a5.1 : x = _) ▸ eq_of_beq a5.2) (eq_of_beq a6.1) (not_ex a7.1) a8.1
  have e8 : ty = some ty' := hty
  have e9 : nm = some n := hn
  have e10 : x = _ := eq_of_beq a5.1
  have e11 : oe = [] := List.isEmpty_iff.mp a1.1
  have e12 : fi = [] := List.isEmpty_iff.mp a2.1
  have e13 : tb = [r] := one_eq hr
  have e14 : hs' = [hh] := one_eq hrh
  have e15 : hb = [r2] := one_eq hr2
  have e16 : b1 = _ := e7
  rw [one_eq hs, e1, e13, e2, e14, e3, e8, e4, e9, e10, e11, e12, e15, e5, e6, e16]
theorem fn_try {w : World} {f : Addr} {n j : Nat} {as : X} {ns : List Str} {args : List V} {μ : Mu} {Q : V → Mu → Prop} {X : Mu → Prop} (h : fnHead (Mine.hd.heap_1 w.params) f n ns (fun cs b => tryC cs ns j as b) = true) (hn : args.length = n)
    (hq : wX w 59 j as (args ++ List.replicate (ns.length - n) .un) μ Q X) (hx : ∀ μ', X μ' → Q .none μ') : CallOK w 60 (.ref f) args μ Q := by
  refine ⟨fun c m a vs hw ok hm nx hr Q' E' post => ?_⟩
  subst hw
  have hout := ok.top (Nat.le_refl _)
  obtain ⟨cw, ck, cns, loose, mean, mg, mb, dp, un, gd, cn, cs, ca, ccd, outer, A₀, base, h₀, L⟩ := c
  dsimp only at hout
  subst hout
  let c2 : FC := ⟨cw, ck, cns, loose, mean, mg, mb, dp, un, gd, cn, cs, ca, ccd, [], A₀, h₀, h₀, L⟩
  have ok2 : c2.Ok 60 := ⟨⟨ok.B.stack, fun _ _ e => e, trivial⟩, ok.X, ok.T, ok.kind, ok.hd, ok.hu, fun _ => rfl⟩
  have toN : ∀ {d e : Po}, Nx c2 m d e → Nx ⟨cw, ck, cns, loose, mean, mg, mb, dp, un, gd, cn, cs, ca, ccd, [], A₀, base, h₀, L⟩ m d e := fun n => ⟨n.hs, n.F, by obtain ⟨ml, N⟩ := n.N; exact ⟨ml, N.r, N.n, N.ap⟩, n.e⟩
  have nx2 : Nx c2 m a a := ⟨nx.hs, nx.F, by obtain ⟨ml, N⟩ := nx.N; exact ⟨ml, N.r, N.n, N.ap⟩, nx.e⟩
  refine enter_ok (c := c2) h hn hr ok2 (by decide) nx2 fun c' a' m' cs body ce hb cx => ?_
  have hq' : wX c'.w c'.k j as (args ++ List.replicate (ns.length - n) .un) a'.μ Q X := by rw [ce.w, ce.k, ce.μ, hm]; exact hq
  have hb' : tryC c'.cs c'.ns j as body = true := by rw [ce.cs, ce.ns]; exact hb
  refine tryC_eq hb' fun cx1 rp np fl p1 p2 p3 t kk cp o ip hbody hch htx hfl hdb hw => ?_
  clear hb hb' hq
  subst hbody
  obtain ⟨np2, ap, kk2, cp2, p4, rfl⟩ := wordC_eq hw
  clear hw
  refine wpAny_execs_cons (wpAny_Try_except (wpAny_execs_cons (wpAny_Return_some (callX_snd hch cx hq' (fun v d b hQ hr' n1 => ?_) fun e s' hf => ?_))))
  · obtain ⟨ml, N⟩ := n1.N
    obtain ⟨F3, N3⟩ := home ce.FG n1.F N.n
    exact post v d b hQ hr' (toN ⟨fun p hp => n1.hs p (ce.imm ▸ hp), F3, ⟨ml, N.r, N3, N.ap⟩, by rw [n1.e, ce.s]⟩)
  · refine cpsG fun GG kG => ?_
    obtain ⟨x, dx, h0, tk0, tk1, ml, imm', μ', G, h', tk, rfl, rfl, hX, r2, ap', hs, FG, hU, hR⟩ := hf.ex
    refine kG ?_; clear kG GG
    have B := cx.ok.B
    rw [ce.A₀] at B
    rw [ce.A]
    refine caught_tx (A₀ := c2.A) (name := c'.cn) (scope := c'.cs) (cd := c'.ccd) (L := c'.L) (a := c'.a) hR FG B hU (by rw [ce.base, ce.w]; exact ok2.X) (show Top Mine.hd.view_1 loose mean mg mb c'.base by rw [ce.base]; exact ok2.T) (fun h2 g2 oe vs2 tk2 T2 F2 N2 c1 c2' c3 K2 X2 P2 => ?_) cx.ok.kind hfl htx
    refine wpAny_execs_cons (wpAny_Return_some (wpAny_IfExp (wpAny_isTrue_Compare1 (Attribute_any_ (nameX_L F2 (if_pos rfl) ?_ cx.ok.kind hfl hdb) rfl) ?_)))
    · refine ex_get (X2.keeps F2.keep) (N2.get (.head _)) c1 c2' c3 (N2.get (.tail _ (.head _))) (wpAny_Constant_str (PyProof.Rows.eq_str (wpAny_truthy_bool ?_)))
      refine wpAny_Constant_none ?_
      refine name_goes_keeps F2 N2 (fun h3 v F9 N9 => ?_) cx.ok.kind hfl
      obtain ⟨FH, NH⟩ := back_home (fs := c'.outer.filterMap (·.frame)) (h₀ := h₀) (L := L) (m := m) (by rw [ce.outer]; rfl) ce.FG T2 F9 N9
      refine post .none .none ⟨μ', imm', _⟩ (hx μ' hX) .none (toN ⟨fun p hp => hs p (ce.imm ▸ hp), FH, ⟨ml, r2, fun p hp => NH p (.tail _ (.tail _ hp)), ap'⟩, ?_⟩)
      show Shared.mk _ _ _ _ _ = _
      rw [ce.s]
    · rfl
noncomputable def mkChk (K : Frag) (C fI : Addr) : Bool := makesIn K C && (findIn K (.ref C) "__init__" == some (some (.ref fI)) && typeIn K (.ref fI) == some (.type "function"))
theorem cu_type (a : Value) (l : List Value) : (Code.builtin "type.__call__" ⟨a :: l, []⟩).cUnits ≤ 10 := Nat.le_of_ble_eq_true (by first | rfl | kernel_rfl)
theorem wt_type (C : Addr) (l : List Value) : (Code.builtin "type.__call__" ⟨.ref C :: l, []⟩).weight = 1 := by first | rfl | kernel_rfl
/-- an object is done: its cells stay -/
theorem melt {imm ml : Led} {x C : Addr} {fs : List Nat} {l : List V} {μ1 μ2 : Mu} (hfs : cTab.lookup C = some fs) (r : MR imm (μ1 ++ .ins x C fs l :: μ2) ml) (ap : Apart ml imm) :
    ∃ p q l1 l2, ml = l1 ++ (p :: q :: l2) ∧ MR (p :: q :: imm) (μ1 ++ μ2) (l1 ++ l2) ∧ Apart (l1 ++ l2) (p :: q :: imm) ∧ Rp (p :: q :: imm) (.ref x) (.inst C l) := by
  obtain ⟨l1, n, l2, rfl, r1, r2, r3⟩ := mr_split r
  obtain ⟨dx, vs, es, k, rfl, en, hv, rr⟩ := r2
  have hsb : ∀ p ∈ imm, p ∈ (x, instO C dx) :: (dx, dictOf es k) :: imm := fun _ h => .tail _ (.tail _ h)
  refine ⟨_, _, l1, l2, rfl, (mr_app r1 r3).mono fun p hp _ => hsb p hp, ?_, .inst (.head _) (.tail _ (.head _)) ⟨fs, hfs, en, hv⟩ (rr.mono hsb)⟩
  obtain ⟨a1, a2⟩ := apart_off (pre := l1) (post := (dx, dictOf es k) :: l2) ap
  obtain ⟨b1, b2⟩ := apart_off (pre := l1 ++ [(x, instO C dx)]) (post := l2) (by simpa using ap)
  refine ⟨ap.1.sublist (List.Sublist.map _ (List.Sublist.append (List.Sublist.refl _) ((List.sublist_cons_self _ _).trans (List.sublist_cons_self _ _)))), fun p hp q hq => ?_⟩
  rcases List.mem_cons.mp hq with rfl | hq
  · rcases List.mem_append.mp hp with hp | hp
    · exact a1 p hp
    · exact a2 p (List.mem_append_left _ (.tail _ hp))
  · rcases List.mem_cons.mp hq with rfl | hq
    · rcases List.mem_append.mp hp with hp | hp
      · exact b1 p (List.mem_append_left _ hp)
      · exact b2 p (List.mem_append_left _ hp)
    · rcases List.mem_append.mp hp with hp | hp
      · exact ap.2 p (List.mem_append_left _ hp) q hq
      · exact ap.2 p (List.mem_append_right _ (.tail _ (.tail _ hp))) q hq
theorem mk_ok {w : World} {k : Nat} {C fI : Addr} {n : Nat} {ns : List Str} {fs : List Nat} {t : T} {args : List V} {μ : Mu} {Q : V → Mu → Prop} (hm : mkChk (Mine.hd.heap_1 w.params) C fI = true) (h : fnChk (Mine.hd.heap_1 w.params) fI (n + 1) ns t = true) (hfs : cTab.lookup C = some fs) (hn : args.length = n) (hk : k < 59)
    (hq : ∀ x, wS w k t ((.raw (.ref x) :: args) ++ List.replicate (ns.length - (n + 1)) .un) (.ins x C [] [] :: μ) fun r _ μ' => r = .next ∧ ∃ l μ1 μ2, μ' = μ1 ++ .ins x C fs l :: μ2 ∧ Q (.inst C l) (μ1 ++ μ2)) : CallOK w (k + 2) (.ref C) args μ Q := by
  refine ⟨fun c m a vs hw ok hμ nx hr Q' E' post => ?_⟩
  subst hw hμ
  obtain ⟨m1, hm⟩ := and_ex hm
  obtain ⟨m2, m3⟩ := and_ex hm
  obtain ⟨ml, N⟩ := nx.N
  refine wpAny_call (make_K nx.F N.n (ok.X.keeps nx.F.keep) m1 (eq_of_beq m2) (eq_of_beq m3) fun x dx h' F' N' hlt hxd => ?_)
  let c2 : FC := { c with dp := c.dp + (Code.builtin "type.__call__" ⟨.ref C :: vs, []⟩).weight, un := c.un + (Code.builtin "type.__call__" ⟨.ref C :: vs, []⟩).cUnits, gd := (c.A.under (.builtin "type.__call__" ⟨.ref C :: vs, []⟩)).guards }
  have hcu := cu_type (.ref C) vs
  have hwt := wt_type C vs
  have hd := ok.hd
  have hu := ok.hu
  have ok2 : c2.Ok (k + 1) := ⟨ok.B, ok.X, ok.T, ok.kind, by show c.dp + _ + _ < _; rw [hwt]; (first | lia | omega), by show c.un + _ + _ + _ < _; (first | lia | omega), fun q => ok.top (by (first | lia | omega))⟩
  have nx2 : Nx c2 m ⟨.ins x C [] [] :: a.μ, a.imm, { a.s with heap := h' }⟩ ⟨.ins x C [] [] :: a.μ, a.imm, { a.s with heap := h' }⟩ := by
    refine ⟨fun _ h => h, F', ⟨(x, instO C dx) :: (dx, dictOf [] 0) :: ml, .cons (n1 := [(x, instO C dx), (dx, dictOf [] 0)]) ⟨dx, [], [], 0, rfl, trivial, (fun _ h => nomatch h), .nil⟩ N.r, N', ?_, ?_⟩, rfl⟩
    · show (x :: dx :: ml.map (·.1)).Nodup
      refine List.nodup_cons.mpr ⟨fun hm => ?_, List.nodup_cons.mpr ⟨fun hm => ?_, N.ap.1⟩⟩
      · rcases List.mem_cons.mp hm with e | hm
        · exact absurd hxd (e ▸ Nat.lt_irrefl _)
        · obtain ⟨p, hp, e⟩ := List.mem_map.mp hm
          exact absurd (Nat.lt_trans (hlt p (List.mem_append_left _ hp)) hxd) (e ▸ Nat.lt_irrefl _)
      · obtain ⟨p, hp, e⟩ := List.mem_map.mp hm
        exact absurd (hlt p (List.mem_append_left _ hp)) (e ▸ Nat.lt_irrefl _)
    · intro p hp q hq
      have hq' := hlt q (List.mem_append_right _ hq)
      rcases List.mem_cons.mp hp with rfl | hp
      · exact Ne.symm (Nat.ne_of_lt (Nat.lt_trans hq' hxd))
      · rcases List.mem_cons.mp hp with rfl | hp
        · exact Ne.symm (Nat.ne_of_lt hq')
        · exact N.ap.2 p hp q hq
  refine enter_okC (c := c2) (a := ⟨.ins x C [] [] :: a.μ, a.imm, { a.s with heap := h' }⟩) (args := .raw (.ref x) :: args) (vs := .ref x :: vs) h (by rw [List.length_cons, hn]) (.cons (.raw _) hr) ok2 (by (first | lia | omega)) nx2 fun c' a' m' cs body ce hb cx => ?_
  have hq' := hq x
  have hb' : chkS c'.cs c'.ns t body = true := by rw [ce.cs, ce.ns]; exact hb
  have hw' : wS c'.w c'.k t ((.raw (.ref x) :: args) ++ List.replicate (ns.length - (n + 1)) .un) a'.μ fun r _ μ' => r = .next ∧ ∃ l μ1 μ2, μ' = μ1 ++ .ins x C fs l :: μ2 ∧ Q (.inst C l) (μ1 ++ μ2) := by rw [ce.w, ce.k, ce.μ]; exact hq'
  refine soundS t c' m' _ a' _ body hb' cx hw' _ _ (fun fl r ρ' m2 b hR hf hl n2 => ?_) fun e ρ' m2 b hX hf => absurd hX.1 (fun q => by cases q)
  obtain ⟨rfl, l, μ1, μ2, hμ2, hQ⟩ := hR
  obtain rfl : fl = .next := hf
  obtain ⟨ml2, N2⟩ := n2.N
  obtain ⟨F3, N3⟩ := home ce.FG n2.F N2.n
  have r2 := N2.r
  rw [hμ2] at r2
  obtain ⟨p, q, l1, l2, rfl, r3, ap3, hrp⟩ := melt hfs r2 N2.ap
  refine ⟨rfl, post (.ref x) (.inst C l) ⟨μ1 ++ μ2, p :: q :: b.imm, b.s⟩ hQ hrp ⟨fun u hu => .tail _ (.tail _ (n2.hs u (ce.imm ▸ hu))), F3, ⟨l1 ++ l2, r3, fun u hu => N3 u ?_, ap3⟩, by rw [n2.e, ce.s]⟩⟩
  simp only [List.mem_append, List.mem_cons] at hu ⊢
  rcases hu with (h | h) | h | h | h
  · exact .inl (.inl h)
  · exact .inl (.inr (.inr (.inr h)))
  · exact .inl (.inr (.inl h))
  · exact .inl (.inr (.inr (.inl h)))
  · exact .inr h
theorem kit_bb (P : Params) : kitOne (Mine.hd.heap_1 P) (.type "bytes") (.type "bytes") = some true := by kernel_rfl
theorem kit_bl (P : Params) : kitOne (Mine.hd.heap_1 P) (.type "bytes") (.type "list") = some false := by kernel_rfl
section
variable {w : World} {k : Nat} {μ : Mu} {Q : V → Mu → Prop}
theorem rps1 {n : Led} {vs : List Value} {d : V} (h : Rps n vs [d]) : ∃ v, vs = [v] ∧ Rp n v d := by
  cases h with | cons a b => cases b; exact ⟨_, rfl, a⟩
theorem rps2 {n : Led} {vs : List Value} {d e : V} (h : Rps n vs [d, e]) : ∃ v u, vs = [v, u] ∧ Rp n v d ∧ Rp n u e := by
  cases h with | cons a b => obtain ⟨u, rfl, hu⟩ := rps1 b; exact ⟨_, u, rfl, a, hu⟩
theorem rps3 {n : Led} {vs : List Value} {d e f : V} (h : Rps n vs [d, e, f]) : ∃ v u x, vs = [v, u, x] ∧ Rp n v d ∧ Rp n u e ∧ Rp n x f := by
  cases h with | cons a b => obtain ⟨u, x, rfl, hu⟩ := rps2 b; exact ⟨_, u, x, rfl, a, hu⟩
theorem pow_ok {b e m : Int} (he : 0 ≤ e) (hm : 2 ≤ m) (hq : Q (.int (powI b e m)) μ) : CallOK w k (.builtin "pow") [.int b, .int e, .int m] μ Q := by
  refine ⟨fun c mm a vs hw ok hμ n hr Q' E' post => ?_⟩
  subst hw hμ
  obtain ⟨v1, v2, v3, rfl, h1, h2, h3⟩ := rps3 hr
  cases h1; cases h2; cases h3
  exact call_pow3' he hm fun r t k' hrr _ _ => ev_ret n (.int _ _) (hrr ▸ hq : Q (.int r) a.μ) post _
theorem lenB_ok {b : List UInt8} (hl : b.length ≤ 1000000) (hq : Q (.int (b.length : Int)) μ) : CallOK w k (.builtin "len") [.bytes b] μ Q := by
  refine ⟨fun c mm a vs hw ok hμ n hr Q' E' post => ?_⟩
  subst hw hμ
  obtain ⟨v, rfl, h1⟩ := rps1 hr
  cases h1
  exact len_bytes (by rw [List.size_toArray]; (first | lia | omega)) (by rw [List.size_toArray]; exact ev_ret n (.int _ _) hq post _)
theorem lenL_ok {l : List V} (hl : l.length ≤ 1000000) (hq : Q (.int (l.length : Int)) μ) : CallOK w k (.builtin "len") [.list l] μ Q := by
  refine ⟨fun c mm a vs hw ok hμ n hr Q' E' post => ?_⟩
  subst hw hμ
  obtain ⟨v, rfl, h1⟩ := rps1 hr
  cases h1 with
  | list hm rr =>
    have hll := rr.length
    exact PyProof.Rows.len_list (News.isList n.imms hm) (by rw [List.size_toArray]; (first | lia | omega)) (by rw [List.size_toArray, hll]; exact ev_ret n (.int _ _) hq post _)
theorem lenT_ok {l : List V} (hl : l.length ≤ 1000000) (hq : Q (.int (l.length : Int)) μ) : CallOK w k (.builtin "len") [.tup l] μ Q := by
  refine ⟨fun c mm a vs hw ok hμ n hr Q' E' post => ?_⟩
  subst hw hμ
  obtain ⟨v, rfl, h1⟩ := rps1 hr
  cases h1 with
  | tup hm rr =>
    have hll := rr.length
    exact len_tuple (News.isTup n.imms hm) (by rw [List.size_toArray]; (first | lia | omega)) (by rw [List.size_toArray, hll]; exact ev_ret n (.int _ _) hq post _)
theorem isiB_ok {b : List UInt8} {T : String} {t : Bool} (hT : (T = "bytes" ∧ t = true) ∨ (T = "list" ∧ t = false)) (hq : Q (.bool t) μ) : CallOK w k (.builtin "isinstance") [.bytes b, .raw (.type T)] μ Q := by
  refine ⟨fun c mm a vs hw ok hμ n hr Q' E' post => ?_⟩
  subst hw hμ
  obtain ⟨v, u, rfl, h1, h2⟩ := rps2 hr
  cases h1; cases h2
  have X := ok.X.keeps n.F.keep
  rcases hT with ⟨rfl, rfl⟩ | ⟨rfl, rfl⟩
  · exact kia_one kitx_bytes X trivial (kit_bb _) (fun q => by cases q) fun tk => ev_ret n (.bool _) hq post tk
  · exact kia_one kitx_bytes X trivial (kit_bl _) (fun q => by cases q) fun tk => ev_ret n (.bool _) hq post tk
theorem isiL_ok {l : List V} {T : String} {t : Bool} (hT : (T = "bytes" ∧ t = false) ∨ (T = "list" ∧ t = true)) (hq : Q (.bool t) μ) : CallOK w k (.builtin "isinstance") [.list l, .raw (.type T)] μ Q := by
  refine ⟨fun c mm a vs hw ok hμ n hr Q' E' post => ?_⟩
  subst hw hμ
  obtain ⟨v, u, rfl, h1, h2⟩ := rps2 hr
  cases h2
  cases h1 with
  | list hm rr =>
    rcases hT with ⟨rfl, rfl⟩ | ⟨rfl, rfl⟩
    · exact IsiPair.list_bytes (n.get hm) rfl (ev_ret n (.bool _) hq post _)
    · exact IsiPair.list_list (n.get hm) rfl (ev_ret n (.bool _) hq post _)
theorem listF_ok {l : List V} (hl : l.length ≤ 100000) (hq : Q (.list l) μ) : CallOK w k (.type "list") [.list l] μ Q := by
  refine ⟨fun c mm a vs hw ok hμ n hr Q' E' post => ?_⟩
  subst hw hμ
  obtain ⟨v, rfl, h1⟩ := rps1 hr
  cases h1 with
  | list hm rr =>
    have hll := rr.length
    obtain ⟨ml, N⟩ := n.N
    refine list_copyK n.F N.n (News.isList n.imms hm) (fun D c' h' F' N' hD => ?_) (by rw [List.size_toArray, sizeLine_eq]; (first | lia | omega))
    exact post (.ref D) (.list l) (a.new D _ h' a.s.toks) hq (.list (.head _) (rr.mono fun _ h => .tail _ h)) (Nx.grow N.r N.ap hD F' N')
theorem listO_ok {l : List V} (hl : l.length ≤ 100000) (hq : ∀ x, Q (.raw (.ref x)) (.lst x l :: μ)) : CallOK w k (.type "list") [.list l] μ Q := by
  refine ⟨fun c mm a vs hw ok hμ n hr Q' E' post => ?_⟩
  subst hw hμ
  obtain ⟨v, rfl, h1⟩ := rps1 hr
  cases h1 with
  | list hm rr =>
    have hll := rr.length
    obtain ⟨ml, N⟩ := n.N
    refine list_copyK n.F N.n (News.isList n.imms hm) (fun D c' h' F' N' hD => ?_) (by rw [List.size_toArray, sizeLine_eq]; (first | lia | omega))
    exact post (.ref D) (.raw (.ref D)) ⟨.lst D l :: a.μ, a.imm, { a.s with heap := h', toks := a.s.toks }⟩ (hq D) (.raw _) (Nx.owned N.r N.ap hD F' N' ⟨_, c', rfl, rr⟩)
theorem tobB_ok {x : Int} {j : Nat} (hj : j ≤ 10000000) (h0 : 0 ≤ x) (h1 : x < 256 ^ j) (hq : Q (.bytes (beB j x.toNat)) μ) : CallOK w k (.builtin "int.to_bytes") [.int x, .int (j : Int), .str (stN 0)] μ Q := by
  refine ⟨fun c mm a vs hw ok hμ n hr Q' E' post => ?_⟩
  subst hw hμ
  obtain ⟨v, u, y, rfl, r1, r2, r3⟩ := rps3 hr
  cases r1; cases r2; cases r3
  exact to_bytes_big (by (first | lia | omega)) h0 h1 fun t' k' => ev_ret n (.bytes _ _) hq post k'
theorem tobL_ok {x : Int} {j : Nat} (hj : j ≤ 10000000) (h0 : 0 ≤ x) (h1 : x < 256 ^ j) (hq : Q (.bytes (leB j x.toNat)) μ) : CallOK w k (.builtin "int.to_bytes") [.int x, .int (j : Int), .str (stN 1)] μ Q := by
  refine ⟨fun c mm a vs hw ok hμ n hr Q' E' post => ?_⟩
  subst hw hμ
  obtain ⟨v, u, y, rfl, r1, r2, r3⟩ := rps3 hr
  cases r1; cases r2; cases r3
  exact to_bytes_little (by (first | lia | omega)) h0 h1 fun t' k' => ev_ret n (.bytes _ _) hq post k'
theorem bitl_ok {x : Int} (hq : Q (.int (Builtin.Int.intBits x)) μ) : CallOK w k (.builtin "int.bit_length") [.int x] μ Q := by
  refine ⟨fun c mm a vs hw ok hμ n hr Q' E' post => ?_⟩
  subst hw hμ
  obtain ⟨v, rfl, r1⟩ := rps1 hr
  cases r1
  exact PyProof.Rows.call_int_bit_length (ev_ret n (.int _ _) hq post _)
theorem rps_ints {n : Led} : ∀ {ns : List Int} {vs : List Value}, Rps n vs (ns.map .int) → IntsAre vs ns
  | [], _, r => by cases r; exact .nil
  | _ :: _, _, r => by
    cases r with
    | cons h r => obtain ⟨t, rfl⟩ := rp_int h; exact .cons _ _ (rps_ints r)
theorem byI_ok {ns : List Int} (hr : ∀ n ∈ ns, 0 ≤ n ∧ n < 256) (hl : ns.length ≤ 100000) (hq : Q (.bytes (ns.map fun n => n.toNat.toUInt8)) μ) : CallOK w k (.type "bytes") [.list (ns.map .int)] μ Q := by
  refine ⟨fun c mm a vs hw ok hμ n hr' Q' E' post => ?_⟩
  subst hw hμ
  obtain ⟨v, rfl, h1⟩ := rps1 hr'
  cases h1 with
  | list hm rr =>
    obtain ⟨ml, N⟩ := n.N
    exact KBa.make_K n.F N.n rfl (News.isList n.imms hm) (rps_ints rr) hr (by (first | lia | omega)) fun h' t' k' F' N' _ => post _ (.bytes _) ⟨a.μ, a.imm, { a.s with heap := h', toks := k' }⟩ hq (.bytes _ _) (Nx.turn N F' N')
theorem by56_ok (hq : Q (.bytes (List.replicate 56 0)) μ) : CallOK w k (.type "bytes") [.int 56] μ Q := by
  refine ⟨fun c mm a vs hw ok hμ n hr' Q' E' post => ?_⟩
  subst hw hμ
  obtain ⟨v, rfl, h1⟩ := rps1 hr'
  cases h1
  exact bytes_56 fun t' k' => ev_ret n (.bytes _ _) hq post k'
end
set_option tactic.hygienic true
theorem num_ok {w : World} {D : Dg} {kd : Addr} {ko : Obj} {b : List UInt8} {μ1 μ2 : Mu} {Q : V → Mu → Prop} (lo : (kd == sysModules) = false) (hK : KnownO w ko D) (wf : D.WF) (hs : D.n ≤ 1000) (hb : b.length ≤ 100000)
    (hq : ∀ o', KnownO w o' (D.add (keyOf b)) → Q (.int (D.num (keyOf b))) (μ1 ++ .obj (kd, o') :: μ2)) : CallOK w 3 (.ref 42) [.inst 52 [.raw (.ref kd)], .bytes b] (μ1 ++ .obj (kd, ko) :: μ2) Q := by
  refine ⟨fun c m a vs hw ok hμ nx hr Q' E' post => ?_⟩
  subst hw
  obtain ⟨v1, v2, rfl, r1, r2⟩ := rps2 hr
  cases r2
  rename_i tb
  cases r1 with
  | inst m1 m2 m3 rr =>
    rename_i x dx vs es k0
    obtain ⟨fs, hfs, en, hh⟩ := m3
    obtain rfl : [4] = fs := Option.some.inj hfs
    obtain ⟨v, rfl, rv⟩ := rps1 rr
    have hv : v = .ref kd := by cases rv; rfl
    subst hv
    obtain ⟨h0, t0, rfl⟩ := ents_one en
    obtain ⟨ml, N⟩ := nx.N
    have r := N.r
    rw [hμ] at r
    obtain ⟨l1, nn, l2, rfl, q1, q2, q3⟩ := mr_split r
    obtain rfl : nn = [(kd, ko)] := q2
    have ct : ∀ o' : Obj, _ := fun o' : Obj => cell_turn (pre := []) (post := []) (o := ko) (o' := o') (cl' := .obj (kd, o')) nx hμ q1 q3 N.ap rfl
    obtain ⟨a1, a2, -⟩ := ct ko
    have off : ∀ p ∈ l1 ++ l2 ++ a.imm, p.1 ≠ kd := fun p hp => by
      rcases List.mem_append.mp hp with hp | hp
      · rcases List.mem_append.mp hp with hp | hp
        · exact a1 p (List.mem_append_left _ hp)
        · exact a2 p (List.mem_append_left _ hp)
      · exact a2 p (List.mem_append_right _ hp)
    have mem : ∀ o : Obj, ∀ p ∈ (kd, o) :: (l1 ++ l2 ++ a.imm), p ∈ (l1 ++ []) ++ (kd, o) :: ([] ++ l2 ++ a.imm) := fun o p hp => by
      simp only [List.mem_cons, List.mem_append, List.append_nil, List.nil_append] at hp ⊢
      rcases hp with h | (h | h) | h
      · exact .inr (.inl h)
      · exact .inl h
      · exact .inr (.inr (.inl h))
      · exact .inr (.inr (.inr h))
    have mem2 : ∀ o : Obj, ∀ p ∈ (l1 ++ []) ++ (kd, o) :: ([] ++ l2 ++ a.imm), p ∈ (kd, o) :: (l1 ++ l2 ++ a.imm) := fun o p hp => by
      simp only [List.mem_cons, List.mem_append, List.append_nil, List.nil_append] at hp ⊢
      rcases hp with h | h | h | h
      · exact .inr (.inl (.inl h))
      · exact .inl h
      · exact .inr (.inl (.inr h))
      · exact .inr (.inr h)
    have NN := cell_news (pre := []) (post := []) N.n
    have hi : ∀ p ∈ a.imm, p ∈ l1 ++ l2 ++ a.imm := fun p hp => List.mem_append_right _ hp
    have hD : DigestAt c.w (l1 ++ l2 ++ a.imm) x kd ko D := ⟨⟨dx, h0, t0, k0, hi _ m1, hi _ m2, off _ (hi _ m1), off _ (hi _ m2)⟩, lo, hK, wf, hs⟩
    have hd := ok.hd
    have hu := ok.hu
    refine (number_does hD hb off).use ok.B nx.F ok.X (cb_drop NN (mem ko)) ok.T ok.kind (by (first | lia | omega)) (by (first | lia | omega)) fun v n' h' tk' hP F' N' => ?_
    obtain ⟨o', ⟨⟨t, rfl⟩, hK'⟩, rfl⟩ := hP
    obtain ⟨-, -, fin⟩ := ct o'
    exact post _ (.int (D.num (keyOf b))) ⟨μ1 ++ .obj (kd, o') :: μ2, a.imm, _⟩ (hq o' hK') (.int _ _) (fin h' tk' m F' (cb_drop N' (mem2 o')))
set_option tactic.hygienic false
set_option genSizeOf false
noncomputable def n49 : List Str := [Str.ofString "self", Str.ofString "octets", Str.ofString "number", Str.ofString "first", Str.ofString "middle"]
noncomputable def c49 : T := (.asg 2 (.meth (.var 0) 20 (.cons (.var 1) .nil)) (.asg 3 (.meth (.var 2) 26 (.cons (.cint 4) (.cons (.cstr 1) .nil))) (.asg 4 (.meth (.bin .Mod (.bin .Mult (.var 2) (.glb 1)) (.bin .LShift (.cint 1) (.cint 64))) 26 (.cons (.cint 8) (.cons (.cstr 0) .nil))) (.ret (.bin .Add (.bin .Add (.var 3) (.var 4)) (.meth (.bin .Add (.glb 0) (.var 2)) 26 (.cons (.cint 20) (.cons (.cstr 0) .nil))))))))
theorem k49 (P : Params) : fnChk (Mine.hd.heap_1 P) 49 2 n49 c49 = true := by rfl
noncomputable def n63 : List Str := [Str.ofString "digest", Str.ofString "octets"]
noncomputable def c63 : T := (.ret (.frb (.cons (.meth (.var 0) 21 (.cons (.var 1) .nil)) (.cons (.cstr 0) .nil))))
theorem k63 (P : Params) : fnChk (Mine.hd.heap_1 P) 63 2 n63 c63 = true := by rfl
noncomputable def n114 : List Str := [Str.ofString "n"]
noncomputable def c114 : T := (.ret (.bin .Mod (.var 0) (.glb 2)))
theorem k114 (P : Params) : fnChk (Mine.hd.heap_1 P) 114 1 n114 c114 = true := by rfl
noncomputable def n121 : List Str := [Str.ofString "w"]
noncomputable def c121 : T := (.ret (.meth (.call 13 (.cons (.var 0) .nil)) 26 (.cons (.glb 4) (.cons (.cstr 0) .nil))))
theorem k121 (P : Params) : fnChk (Mine.hd.heap_1 P) 121 1 n121 c121 = true := by rfl
noncomputable def n128 : List Str := [Str.ofString "w"]
noncomputable def c128 : T := (.ret (.bin .Mod (.var 0) (.glb 3)))
theorem k128 (P : Params) : fnChk (Mine.hd.heap_1 P) 128 1 n128 c128 = true := by rfl
noncomputable def n135 : List Str := [Str.ofString "address"]
noncomputable def c135 : T := (.ife (.not (.cmp2 .LtE .Lt (.cint 0) (.var 0) (.glb 5))) .dead .done (.ret (.slb (.call 14 (.cons (.var 0) .nil)) 12)))
theorem k135 (P : Params) : fnChk (Mine.hd.heap_1 P) 135 1 n135 c135 = true := by rfl
noncomputable def n142 : List Str := [Str.ofString "point", Str.ofString "setting"]
noncomputable def c142 : T := (.ife (.cmp .Is (.var 0) .cnone) .dead .done (.ret (.call 15 (.cons (.call 12 (.cons (.attr (.var 1) 16) (.cons (.bin .Add (.call 14 (.cons (.sub (.var 0) (.cint 0)) .nil)) (.call 14 (.cons (.sub (.var 0) (.cint 1)) .nil))) .nil))) .nil))))
theorem k142 (P : Params) : fnChk (Mine.hd.heap_1 P) 142 2 n142 c142 = true := by rfl
noncomputable def n156 : List Str := [Str.ofString "self", Str.ofString "p", Str.ofString "b", Str.ofString "g", Str.ofString "n"]
noncomputable def c156 : T := (.setA 0 0 (.var 1) (.setA 0 1 (.var 2) (.setA 0 2 (.var 3) (.setA 0 3 (.var 4) .done))))
theorem k156 (P : Params) : fnChk (Mine.hd.heap_1 P) 156 5 n156 c156 = true := by rfl
noncomputable def n170 : List Str := [Str.ofString "self", Str.ofString "point", Str.ofString "x", Str.ofString "y", Str.ofString "slope", Str.ofString "far"]
noncomputable def c170 : T := (.ife (.bor (.cmp .Is (.var 1) .cnone) (.cmp .Eq (.sub (.var 1) (.cint 1)) (.cint 0))) (.ret .cnone) .done (.asgT false [2, 3] (.var 1) (.asg 4 (.bin .Mult (.bin .Mult (.bin .Mult (.cint 3) (.var 2)) (.var 2)) (.call 52 (.cons (.bin .Mult (.cint 2) (.var 3)) (.cons (.bin .Sub (.attr (.var 0) 0) (.cint 2)) (.cons (.attr (.var 0) 0) .nil))))) (.asg 5 (.bin .Mod (.bin .Sub (.bin .Mult (.var 4) (.var 4)) (.bin .Mult (.cint 2) (.var 2))) (.attr (.var 0) 0)) (.ret (.tup (.cons (.var 5) (.cons (.bin .Mod (.bin .Sub (.bin .Mult (.var 4) (.bin .Sub (.var 2) (.var 5))) (.var 3)) (.attr (.var 0) 0)) .nil))))))))
theorem k170 (P : Params) : fnChk (Mine.hd.heap_1 P) 170 2 n170 c170 = true := by rfl
noncomputable def n177 : List Str := [Str.ofString "self", Str.ofString "one", Str.ofString "other", Str.ofString "slope", Str.ofString "far"]
noncomputable def c177 : T := (.ife (.bor (.cmp .Is (.var 1) .cnone) (.cmp .Is (.var 2) .cnone)) (.ret (.ife (.cmp .Is (.var 1) .cnone) (.var 2) (.var 1))) .done (.ife (.cmp .Eq (.sub (.var 1) (.cint 0)) (.sub (.var 2) (.cint 0))) (.ret (.ife (.cmp .Eq (.sub (.var 1) (.cint 1)) (.sub (.var 2) (.cint 1))) (.meth (.var 0) 22 (.cons (.var 1) .nil)) .cnone)) .done (.asg 3 (.bin .Mult (.bin .Sub (.sub (.var 2) (.cint 1)) (.sub (.var 1) (.cint 1))) (.call 52 (.cons (.bin .Sub (.sub (.var 2) (.cint 0)) (.sub (.var 1) (.cint 0))) (.cons (.bin .Sub (.attr (.var 0) 0) (.cint 2)) (.cons (.attr (.var 0) 0) .nil))))) (.asg 4 (.bin .Mod (.bin .Sub (.bin .Sub (.bin .Mult (.var 3) (.var 3)) (.sub (.var 1) (.cint 0))) (.sub (.var 2) (.cint 0))) (.attr (.var 0) 0)) (.ret (.tup (.cons (.var 4) (.cons (.bin .Mod (.bin .Sub (.bin .Mult (.var 3) (.bin .Sub (.sub (.var 1) (.cint 0)) (.var 4))) (.sub (.var 1) (.cint 1))) (.attr (.var 0) 0)) .nil))))))))
theorem k177 (P : Params) : fnChk (Mine.hd.heap_1 P) 177 3 n177 c177 = true := by rfl
noncomputable def n184 : List Str := [Str.ofString "self", Str.ofString "number", Str.ofString "point", Str.ofString "total", Str.ofString "here"]
noncomputable def c184 : T := (.ife (.cmp .Is (.var 2) .cnone) (.ret .cnone) .done (.asg 1 (.bin .Mod (.var 1) (.attr (.var 0) 3)) (.asgT true [3, 4] (.tup (.cons (.tup (.cons (.cint 1) (.cons (.cint 1) (.cons (.cint 0) .nil)))) (.cons (.tup (.cons (.sub (.var 2) (.cint 0)) (.cons (.sub (.var 2) (.cint 1)) (.cons (.cint 1) .nil)))) .nil))) (.whl (.cmp .Gt (.var 1) (.cint 0)) (.ife (.cmp .Eq (.bin .BitAnd (.var 1) (.cint 1)) (.cint 1)) (.asg 3 (.call 20 (.cons (.var 3) (.cons (.var 4) (.cons (.attr (.var 0) 0) .nil)))) .done) .done (.asg 4 (.call 19 (.cons (.var 4) (.cons (.attr (.var 0) 0) .nil))) (.asg 1 (.bin .RShift (.var 1) (.cint 1)) .done))) (.ret (.call 21 (.cons (.var 3) (.cons (.attr (.var 0) 0) .nil))))))))
theorem k184 (P : Params) : fnChk (Mine.hd.heap_1 P) 184 3 n184 c184 = true := by rfl
noncomputable def n191 : List Str := [Str.ofString "self", Str.ofString "x", Str.ofString "parity", Str.ofString "square", Str.ofString "y"]
noncomputable def c191 : T := (.ife (.not (.cmp2 .LtE .Lt (.cint 0) (.var 1) (.attr (.var 0) 0))) (.ret .cnone) .done (.asg 3 (.bin .Mod (.bin .Add (.bin .Mult (.bin .Mult (.var 1) (.var 1)) (.var 1)) (.attr (.var 0) 1)) (.attr (.var 0) 0)) (.asg 4 (.call 52 (.cons (.var 3) (.cons (.bin .FloorDiv (.bin .Add (.attr (.var 0) 0) (.cint 1)) (.cint 4)) (.cons (.attr (.var 0) 0) .nil)))) (.ife (.cmp .NotEq (.bin .Mod (.bin .Mult (.var 4) (.var 4)) (.attr (.var 0) 0)) (.var 3)) (.ret .cnone) .done (.ife (.cmp .NotEq (.bin .Mod (.var 4) (.cint 2)) (.var 2)) (.asg 4 (.bin .Sub (.attr (.var 0) 0) (.var 4)) .done) .done (.ret (.ife (.cmp .Lt (.var 4) (.attr (.var 0) 0)) (.tup (.cons (.var 1) (.cons (.var 4) .nil))) .cnone)))))))
theorem k191 (P : Params) : fnChk (Mine.hd.heap_1 P) 191 3 n191 c191 = true := by rfl
noncomputable def n205 : List Str := [Str.ofString "point", Str.ofString "p", Str.ofString "x", Str.ofString "y", Str.ofString "z", Str.ofString "square", Str.ofString "middle", Str.ofString "slope", Str.ofString "far"]
noncomputable def c205 : T := (.asgT false [2, 3, 4] (.var 0) (.ife (.bor (.cmp .Eq (.var 3) (.cint 0)) (.cmp .Eq (.var 4) (.cint 0))) (.ret (.tup (.cons (.cint 1) (.cons (.cint 1) (.cons (.cint 0) .nil))))) .done (.asg 5 (.bin .Mod (.bin .Mult (.var 3) (.var 3)) (.var 1)) (.asg 6 (.bin .Mod (.bin .Mult (.bin .Mult (.cint 4) (.var 2)) (.var 5)) (.var 1)) (.asg 7 (.bin .Mod (.bin .Mult (.bin .Mult (.cint 3) (.var 2)) (.var 2)) (.var 1)) (.asg 8 (.bin .Mod (.bin .Sub (.bin .Mult (.var 7) (.var 7)) (.bin .Mult (.cint 2) (.var 6))) (.var 1)) (.ret (.tup (.cons (.var 8) (.cons (.bin .Mod (.bin .Sub (.bin .Mult (.var 7) (.bin .Sub (.var 6) (.var 8))) (.bin .Mult (.bin .Mult (.cint 8) (.var 5)) (.var 5))) (.var 1)) (.cons (.bin .Mod (.bin .Mult (.bin .Mult (.cint 2) (.var 3)) (.var 4)) (.var 1)) .nil)))))))))))
theorem k205 (P : Params) : fnChk (Mine.hd.heap_1 P) 205 2 n205 c205 = true := by rfl
noncomputable def n212 : List Str := [Str.ofString "one", Str.ofString "other", Str.ofString "p", Str.ofString "x", Str.ofString "y", Str.ofString "z", Str.ofString "u", Str.ofString "v", Str.ofString "w", Str.ofString "left", Str.ofString "right", Str.ofString "low", Str.ofString "high", Str.ofString "step", Str.ofString "rise", Str.ofString "square", Str.ofString "cube", Str.ofString "middle", Str.ofString "far"]
noncomputable def c212 : T := (.ife (.bor (.cmp .Eq (.sub (.var 0) (.cint 2)) (.cint 0)) (.cmp .Eq (.sub (.var 1) (.cint 2)) (.cint 0))) (.ret (.ife (.cmp .Eq (.sub (.var 0) (.cint 2)) (.cint 0)) (.var 1) (.var 0))) .done (.asgT false [3, 4, 5] (.var 0) (.asgT false [6, 7, 8] (.var 1) (.asgT true [9, 10] (.tup (.cons (.bin .Mod (.bin .Mult (.bin .Mult (.var 3) (.var 8)) (.var 8)) (.var 2)) (.cons (.bin .Mod (.bin .Mult (.bin .Mult (.var 6) (.var 5)) (.var 5)) (.var 2)) .nil))) (.asgT true [11, 12] (.tup (.cons (.bin .Mod (.bin .Mult (.bin .Mult (.bin .Mult (.var 4) (.var 8)) (.var 8)) (.var 8)) (.var 2)) (.cons (.bin .Mod (.bin .Mult (.bin .Mult (.bin .Mult (.var 7) (.var 5)) (.var 5)) (.var 5)) (.var 2)) .nil))) (.ife (.cmp .Eq (.var 9) (.var 10)) (.ret (.ife (.cmp .Eq (.var 11) (.var 12)) (.call 19 (.cons (.var 0) (.cons (.var 2) .nil))) (.tup (.cons (.cint 1) (.cons (.cint 1) (.cons (.cint 0) .nil)))))) .done (.asgT true [13, 14] (.tup (.cons (.bin .Sub (.var 10) (.var 9)) (.cons (.bin .Sub (.var 12) (.var 11)) .nil))) (.asg 15 (.bin .Mod (.bin .Mult (.var 13) (.var 13)) (.var 2)) (.asgT true [16, 17] (.tup (.cons (.bin .Mod (.bin .Mult (.var 13) (.var 15)) (.var 2)) (.cons (.bin .Mod (.bin .Mult (.var 9) (.var 15)) (.var 2)) .nil))) (.asg 18 (.bin .Mod (.bin .Sub (.bin .Sub (.bin .Mult (.var 14) (.var 14)) (.var 16)) (.bin .Mult (.cint 2) (.var 17))) (.var 2)) (.ret (.tup (.cons (.var 18) (.cons (.bin .Mod (.bin .Sub (.bin .Mult (.var 14) (.bin .Sub (.var 17) (.var 18))) (.bin .Mult (.var 11) (.var 16))) (.var 2)) (.cons (.bin .Mod (.bin .Mult (.bin .Mult (.var 13) (.var 5)) (.var 8)) (.var 2)) .nil)))))))))))))))
theorem k212 (P : Params) : fnChk (Mine.hd.heap_1 P) 212 3 n212 c212 = true := by rfl
noncomputable def n219 : List Str := [Str.ofString "point", Str.ofString "p", Str.ofString "x", Str.ofString "y", Str.ofString "z", Str.ofString "back", Str.ofString "square"]
noncomputable def c219 : T := (.asgT false [2, 3, 4] (.var 0) (.ife (.cmp .Eq (.var 4) (.cint 0)) (.ret .cnone) .done (.asg 5 (.call 52 (.cons (.var 4) (.cons (.bin .Sub (.var 1) (.cint 2)) (.cons (.var 1) .nil)))) (.asg 6 (.bin .Mod (.bin .Mult (.var 5) (.var 5)) (.var 1)) (.ret (.tup (.cons (.bin .Mod (.bin .Mult (.var 2) (.var 6)) (.var 1)) (.cons (.bin .Mod (.bin .Mult (.bin .Mult (.var 3) (.var 6)) (.var 5)) (.var 1)) .nil))))))))
theorem k219 (P : Params) : fnChk (Mine.hd.heap_1 P) 219 2 n219 c219 = true := by rfl
noncomputable def n226 : List Str := [Str.ofString "curve", Str.ofString "secret", Str.ofString "word", Str.ofString "k", Str.ofString "point", Str.ofString "r", Str.ofString "parity", Str.ofString "s"]
noncomputable def c226 : T := (.asg 4 (.meth (.var 0) 24 (.cons (.var 3) (.cons (.attr (.var 0) 2) .nil))) (.ife (.bor (.cmp .Is (.var 4) .cnone) (.not (.cmp2 .Lt .Lt (.cint 0) (.var 1) (.attr (.var 0) 3)))) (.ret .cnone) .done (.asgT true [5, 6] (.tup (.cons (.sub (.var 4) (.cint 0)) (.cons (.bin .Mod (.sub (.var 4) (.cint 1)) (.cint 2)) .nil))) (.asg 7 (.bin .Mod (.bin .Mult (.bin .Add (.var 2) (.bin .Mult (.var 5) (.var 1))) (.call 52 (.cons (.var 3) (.cons (.bin .Sub (.attr (.var 0) 3) (.cint 2)) (.cons (.attr (.var 0) 3) .nil))))) (.attr (.var 0) 3)) (.ife (.bor (.not (.cmp2 .Lt .Lt (.cint 0) (.var 5) (.attr (.var 0) 3))) (.cmp .Eq (.var 7) (.cint 0))) (.ret .cnone) .done (.ife (.cmp .Gt (.var 7) (.bin .FloorDiv (.attr (.var 0) 3) (.cint 2))) (.asgT true [7, 6] (.tup (.cons (.bin .Sub (.attr (.var 0) 3) (.var 7)) (.cons (.bin .Sub (.cint 1) (.var 6)) .nil))) .done) .done (.ret (.tup (.cons (.var 6) (.cons (.var 5) (.cons (.var 7) .nil)))))))))))
theorem k226 (P : Params) : fnChk (Mine.hd.heap_1 P) 226 4 n226 c226 = true := by rfl
noncomputable def n233 : List Str := [Str.ofString "curve", Str.ofString "word", Str.ofString "parity", Str.ofString "r", Str.ofString "s", Str.ofString "point", Str.ofString "back"]
noncomputable def c233 : T := (.ife (.bor (.cmp .NotIn (.var 2) (.tup (.cons (.cint 0) (.cons (.cint 1) .nil)))) (.bor (.not (.cmp2 .Lt .Lt (.cint 0) (.var 3) (.attr (.var 0) 3))) (.not (.cmp2 .Lt .Lt (.cint 0) (.var 4) (.attr (.var 0) 3))))) (.ret .cnone) .done (.asg 5 (.meth (.var 0) 25 (.cons (.var 3) (.cons (.var 2) .nil))) (.ife (.cmp .Is (.var 5) .cnone) (.ret .cnone) .done (.asg 6 (.call 52 (.cons (.var 3) (.cons (.bin .Sub (.attr (.var 0) 3) (.cint 2)) (.cons (.attr (.var 0) 3) .nil)))) (.ret (.meth (.var 0) 23 (.cons (.meth (.var 0) 24 (.cons (.bin .Mult (.var 4) (.var 6)) (.cons (.var 5) .nil))) (.cons (.meth (.var 0) 24 (.cons (.bin .Mult (.neg (.var 1)) (.var 6)) (.cons (.attr (.var 0) 2) .nil))) .nil))))))))
theorem k233 (P : Params) : fnChk (Mine.hd.heap_1 P) 233 5 n233 c233 = true := by rfl
noncomputable def n240 : List Str := []
noncomputable def c240 : T := (.ret (.call 18 (.cons (.cint 67) (.cons (.cint 7) (.cons (.tup (.cons (.cint 2) (.cons (.cint 22) .nil))) (.cons (.cint 79) .nil))))))
theorem k240 (P : Params) : fnChk (Mine.hd.heap_1 P) 240 0 n240 c240 = true := by rfl
noncomputable def n247 : List Str := [Str.ofString "n"]
noncomputable def c247 : T := (.ife (.cmp .Lt (.var 0) (.cint 0)) .dead .done (.ret (.meth (.var 0) 26 (.cons (.bin .FloorDiv (.bin .Add (.meth (.var 0) 27 .nil) (.cint 7)) (.cint 8)) (.cons (.cstr 0) .nil)))))
theorem k247 (P : Params) : fnChk (Mine.hd.heap_1 P) 247 1 n247 c247 = true := by rfl
noncomputable def n254 : List Str := [Str.ofString "low", Str.ofString "size", Str.ofString "told"]
noncomputable def c254 : T := (.ife (.cmp .LtE (.var 1) (.glb 8)) (.ret (.call 55 (.cons (.lst (.cons (.bin .Add (.var 0) (.var 1)) .nil)) .nil))) .done (.asg 2 (.call 25 (.cons (.var 1) .nil)) (.ret (.bin .Add (.call 55 (.cons (.lst (.cons (.bin .Add (.bin .Add (.var 0) (.glb 8)) (.call 53 (.cons (.var 2) .nil))) .nil)) .nil)) (.var 2)))))
theorem k254 (P : Params) : fnChk (Mine.hd.heap_1 P) 254 2 n254 c254 = true := by rfl
noncomputable def n261 : List Str := [Str.ofString "item", Str.ofString "depth", Str.ofString "body", Str.ofString "part"]
noncomputable def c261 : T := (.ife (.cmp .Gt (.var 1) (.glb 9)) .dead .done (.ife (.call 54 (.cons (.var 0) (.cons (.glb 56) .nil))) (.asg 2 (.cbytes []) (.forV [3] (.var 0) (.asg 2 (.bin .Add (.var 2) (.call 27 (.cons (.var 3) (.cons (.bin .Add (.var 1) (.cint 1)) .nil)))) .done) (.ret (.bin .Add (.call 26 (.cons (.glb 7) (.cons (.call 53 (.cons (.var 2) .nil)) .nil))) (.var 2))))) .done (.ife (.not (.call 54 (.cons (.var 0) (.cons (.glb 55) .nil)))) .dead .done (.ife (.band (.cmp .Eq (.call 53 (.cons (.var 0) .nil)) (.cint 1)) (.cmp .Lt (.sub (.var 0) (.cint 0)) (.glb 6))) (.ret (.var 0)) .done (.ret (.bin .Add (.call 26 (.cons (.glb 6) (.cons (.call 53 (.cons (.var 0) .nil)) .nil))) (.var 0)))))))
theorem k261 (P : Params) : fnChk (Mine.hd.heap_1 P) 261 2 n261 c261 = true := by rfl
noncomputable def n268 : List Str := [Str.ofString "item"]
noncomputable def c268 : T := (.ret (.call 27 (.cons (.var 0) (.cons (.cint 0) .nil))))
theorem k268 (P : Params) : fnChk (Mine.hd.heap_1 P) 268 1 n268 c268 = true := by rfl
noncomputable def n282 : List Str := [Str.ofString "self", Str.ofString "kind", Str.ofString "chain", Str.ofString "nonce", Str.ofString "priority", Str.ofString "cap", Str.ofString "limit", Str.ofString "target", Str.ofString "value", Str.ofString "data", Str.ofString "access", Str.ofString "signature"]
noncomputable def c282 : T := (.setA 0 5 (.var 1) (.setA 0 6 (.var 2) (.setA 0 7 (.var 3) (.setA 0 8 (.var 4) (.setA 0 9 (.var 5) (.setA 0 10 (.var 6) (.setA 0 11 (.var 7) (.setA 0 12 (.var 8) (.setA 0 13 (.var 9) (.setA 0 14 (.var 10) (.setA 0 15 (.var 11) .done)))))))))))
theorem k282 (P : Params) : fnChk (Mine.hd.heap_1 P) 282 12 n282 c282 = true := by rfl
noncomputable def n296 : List Str := [Str.ofString "tx", Str.ofString "told"]
noncomputable def c296 : T := (.ret (.call 29 (.cons (.attr (.var 0) 5) (.cons (.attr (.var 0) 6) (.cons (.attr (.var 0) 7) (.cons (.attr (.var 0) 8) (.cons (.attr (.var 0) 9) (.cons (.attr (.var 0) 10) (.cons (.attr (.var 0) 11) (.cons (.attr (.var 0) 12) (.cons (.attr (.var 0) 13) (.cons (.attr (.var 0) 14) (.cons (.var 1) .nil)))))))))))))
theorem k296 (P : Params) : fnChk (Mine.hd.heap_1 P) 296 2 n296 c296 = true := by rfl
noncomputable def n303 : List Str := [Str.ofString "tx", Str.ofString "number"]
noncomputable def c303 : T := (.ife (.cmp .NotIn (.attr (.var 0) 5) (.tup (.cons (.cint 0) (.cons (.cint 1) (.cons (.cint 2) .nil))))) .dead .done (.ife (.band (.cmp .NotEq (.attr (.var 0) 5) (.cint 2)) (.cmp .NotEq (.attr (.var 0) 8) (.attr (.var 0) 9))) .dead .done (.ife (.band (.cmp .Eq (.attr (.var 0) 5) (.cint 0)) (.cmp .NotEq (.attr (.var 0) 14) (.lst .nil))) .dead .done (.ife (.bor (.not (.cmp2 .LtE .Lt (.cint 0) (.attr (.var 0) 7) (.glb 10))) (.not (.cmp2 .LtE .Lt (.cint 0) (.attr (.var 0) 10) (.glb 10)))) .dead .done (.forV [1] (.tup (.cons (.attr (.var 0) 6) (.cons (.attr (.var 0) 8) (.cons (.attr (.var 0) 9) (.cons (.attr (.var 0) 12) .nil))))) (.ife (.not (.cmp2 .LtE .Lt (.cint 0) (.var 1) (.glb 2))) .dead .done .done) (.ife (.band (.cmp .IsNot (.attr (.var 0) 11) .cnone) (.not (.cmp2 .LtE .Lt (.cint 0) (.attr (.var 0) 11) (.glb 5)))) .dead .done (.ife (.not (.call 54 (.cons (.attr (.var 0) 13) (.cons (.glb 55) .nil)))) .dead .done .done)))))))
theorem k303 (P : Params) : fnChk (Mine.hd.heap_1 P) 303 1 n303 c303 = true := by rfl
noncomputable def n308 : List Str := [Str.ofString "access", Str.ofString "rows", Str.ofString "address", Str.ofString "slots"]
noncomputable def c308 : T := (.asg 1 (.own .nil) (.forV [2, 3] (.var 0) (.ife (.bor (.not (.cmp2 .LtE .Lt (.cint 0) (.var 2) (.glb 5))) (.cmp .NotEq (.flt 2 (.var 3)) (.lst .nil))) .dead .done (.app 1 (.lst (.cons (.call 16 (.cons (.var 2) .nil)) (.cons (.map 14 (.var 3)) .nil))) .done)) (.retF 1 (.var 1))))
theorem k308 (P : Params) : fnChk (Mine.hd.heap_1 P) 308 1 n308 c308 = true := by rfl
noncomputable def n313 : List Str := [Str.ofString "tx", Str.ofString "prices", Str.ofString "ahead", Str.ofString "target", Str.ofString "found"]
noncomputable def c313 : T := (.expr (.call 31 (.cons (.var 0) .nil)) (.asg 1 (.ife (.cmp .Eq (.attr (.var 0) 5) (.cint 2)) (.lst (.cons (.attr (.var 0) 8) (.cons (.attr (.var 0) 9) .nil))) (.lst (.cons (.attr (.var 0) 9) .nil))) (.asg 2 (.bin .Add (.bin .Add (.lst (.cons (.attr (.var 0) 7) .nil)) (.var 1)) (.lst (.cons (.attr (.var 0) 10) .nil))) (.ife (.cmp .NotEq (.attr (.var 0) 5) (.cint 0)) (.asg 2 (.bin .Add (.lst (.cons (.attr (.var 0) 6) .nil)) (.var 2)) .done) .done (.asg 3 (.ife (.cmp .Is (.attr (.var 0) 11) .cnone) (.cbytes []) (.call 16 (.cons (.attr (.var 0) 11) .nil))) (.asg 4 (.bin .Add (.map 25 (.var 2)) (.lst (.cons (.var 3) (.cons (.call 25 (.cons (.attr (.var 0) 12) .nil)) (.cons (.attr (.var 0) 13) .nil))))) (.ret (.ife (.cmp .Eq (.attr (.var 0) 5) (.cint 0)) (.var 4) (.bin .Add (.var 4) (.lst (.cons (.call 32 (.cons (.attr (.var 0) 14) .nil)) .nil)))))))))))
theorem k313 (P : Params) : fnChk (Mine.hd.heap_1 P) 313 1 n313 c313 = true := by rfl
noncomputable def n320 : List Str := [Str.ofString "tx"]
noncomputable def c320 : T := (.ret (.ife (.cmp .Eq (.attr (.var 0) 5) (.cint 0)) (.cbytes []) (.call 55 (.cons (.lst (.cons (.attr (.var 0) 5) .nil)) .nil))))
theorem k320 (P : Params) : fnChk (Mine.hd.heap_1 P) 320 1 n320 c320 = true := by rfl
noncomputable def n327 : List Str := [Str.ofString "tx", Str.ofString "found"]
noncomputable def c327 : T := (.asg 1 (.call 33 (.cons (.var 0) .nil)) (.ife (.band (.cmp .Eq (.attr (.var 0) 5) (.cint 0)) (.cmp .NotEq (.attr (.var 0) 6) (.cint 0))) (.asg 1 (.bin .Add (.var 1) (.lst (.cons (.call 25 (.cons (.attr (.var 0) 6) .nil)) (.cons (.cbytes []) (.cons (.cbytes []) .nil))))) .done) .done (.ret (.bin .Add (.call 34 (.cons (.var 0) .nil)) (.call 28 (.cons (.var 1) .nil))))))
theorem k327 (P : Params) : fnChk (Mine.hd.heap_1 P) 327 1 n327 c327 = true := by rfl
noncomputable def n334 : List Str := [Str.ofString "tx", Str.ofString "secret", Str.ofString "k", Str.ofString "setting", Str.ofString "told"]
noncomputable def c334 : T := (.asg 4 (.call 22 (.cons (.attr (.var 3) 17) (.cons (.var 1) (.cons (.call 12 (.cons (.attr (.var 3) 16) (.cons (.call 35 (.cons (.var 0) .nil)) .nil))) (.cons (.var 2) .nil))))) (.ife (.cmp .Is (.var 4) .cnone) .exc .done (.ret (.call 30 (.cons (.var 0) (.cons (.var 4) .nil))))))
theorem k334 (P : Params) : fnChk (Mine.hd.heap_1 P) 334 4 n334 c334 = true := by rfl
noncomputable def n341 : List Str := [Str.ofString "tx", Str.ofString "setting", Str.ofString "parity", Str.ofString "r", Str.ofString "s", Str.ofString "point"]
noncomputable def c341 : T := (.ife (.cmp .Is (.attr (.var 0) 15) .cnone) .exc .done (.asgT false [2, 3, 4] (.attr (.var 0) 15) (.ife (.cmp .Gt (.var 4) (.bin .FloorDiv (.attr (.attr (.var 1) 17) 3) (.cint 2))) .exc .done (.asg 5 (.call 23 (.cons (.attr (.var 1) 17) (.cons (.call 12 (.cons (.attr (.var 1) 16) (.cons (.call 35 (.cons (.var 0) .nil)) .nil))) (.cons (.var 2) (.cons (.var 3) (.cons (.var 4) .nil)))))) (.ife (.cmp .Is (.var 5) .cnone) .exc .done (.ret (.call 17 (.cons (.var 5) (.cons (.var 1) .nil)))))))))
theorem k341 (P : Params) : fnChk (Mine.hd.heap_1 P) 341 2 n341 c341 = true := by rfl
noncomputable def n355 : List Str := [Str.ofString "self", Str.ofString "digest", Str.ofString "curve", Str.ofString "chain", Str.ofString "most_depth", Str.ofString "most_code"]
noncomputable def c355 : T := (.ife (.bor (.not (.cmp2 .LtE .LtE (.cint 1) (.var 4) (.glb 11))) (.bor (.cmp .Lt (.var 5) (.cint 0)) (.not (.cmp2 .LtE .Lt (.cint 1) (.var 3) (.glb 2))))) .dead .done (.setA 0 16 (.var 1) (.setA 0 17 (.var 2) (.setA 0 6 (.var 3) (.setA 0 18 (.var 4) (.setA 0 19 (.var 5) .done))))))
theorem k355 (P : Params) : fnChk (Mine.hd.heap_1 P) 355 6 n355 c355 = true := by rfl
noncomputable def n369 : List Str := [Str.ofString "well", Str.ofString "many", Str.ofString "spot", Str.ofString "fed"]
noncomputable def c369 : T := (.asg 2 (.sub (.var 0) (.cint 1)) (.asg 3 (.ife (.cmp .Lt (.var 2) (.call 53 (.cons (.sub (.var 0) (.cint 0)) .nil))) (.sub (.sub (.var 0) (.cint 0)) (.var 2)) (.var 2)) (.setII 0 1 2 (.tup (.cons (.bin .Add (.var 2) (.cint 1)) (.cons (.bin .Mod (.bin .Add (.bin .Add (.bin .Mult (.sub (.var 0) (.cint 2)) (.cint 7)) (.bin .Mod (.var 3) (.cint 101))) (.cint 3)) (.cint 101)) .nil))) (.ret (.ife (.cmp .Lt (.var 2) (.call 53 (.cons (.sub (.var 0) (.cint 0)) .nil))) (.bin .Mod (.var 3) (.var 1)) (.bin .Mod (.sub (.var 0) (.cint 2)) (.var 1)))))))
theorem k369 (P : Params) : fnChk (Mine.hd.heap_1 P) 369 2 n369 c369 = true := by rfl
noncomputable def n376 : List Str := [Str.ofString "well", Str.ofString "menu"]
noncomputable def c376 : T := (.ret (.sub (.var 1) (.call 39 (.cons (.var 0) (.cons (.call 53 (.cons (.var 1) .nil)) .nil)))))
theorem k376 (P : Params) : fnChk (Mine.hd.heap_1 P) 376 2 n376 c376 = true := by rfl
noncomputable def n383 : List Str := [Str.ofString "prime", Str.ofString "found", Str.ofString "figure"]
noncomputable def c383 : T := (.asg 1 (.own (.cons (.cint 0) (.cons (.cint 1) .nil))) (.forR 2 2 (.var 0) (.app 1 (.bin .Mod (.bin .Mult (.bin .Sub (.var 0) (.bin .FloorDiv (.var 0) (.var 2))) (.sub (.var 1) (.bin .Mod (.var 0) (.var 2)))) (.var 0)) .done) (.retF 1 (.var 1))))
theorem k383 (P : Params) : fnChk (Mine.hd.heap_1 P) 383 1 n383 c383 = true := by rfl
noncomputable def n390 : List Str := [Str.ofString "table", Str.ofString "inverses", Str.ofString "x", Str.ofString "y", Str.ofString "turn", Str.ofString "u", Str.ofString "v", Str.ofString "slope", Str.ofString "far"]
noncomputable def c390 : T := (.asgN [0, 1] [2, 3] (.tup (.cons (.own (.cons .cnone (.cons (.tup (.cons (.cint 2) (.cons (.cint 22) .nil))) .nil))) (.cons (.call 41 (.cons (.cint 67) .nil)) (.cons (.tup (.cons (.cint 2) (.cons (.cint 22) .nil))) .nil)))) (.forR 0 4 (.cint 77) (.asgT false [5, 6] (.sub (.var 0) (.neg (.cint 1))) (.asg 7 (.ife (.cmp .Eq (.var 4) (.cint 0)) (.bin .Mult (.bin .Mult (.bin .Mult (.cint 3) (.var 2)) (.var 2)) (.sub (.var 1) (.bin .Mod (.bin .Mult (.cint 2) (.var 3)) (.cint 67)))) (.bin .Mult (.bin .Sub (.var 6) (.var 3)) (.sub (.var 1) (.bin .Mod (.bin .Sub (.var 5) (.var 2)) (.cint 67))))) (.asg 8 (.bin .Mod (.bin .Sub (.bin .Sub (.bin .Mult (.var 7) (.var 7)) (.var 2)) (.var 5)) (.cint 67)) (.app 0 (.tup (.cons (.var 8) (.cons (.bin .Mod (.bin .Sub (.bin .Mult (.var 7) (.bin .Sub (.var 2) (.var 8))) (.var 3)) (.cint 67)) .nil))) .done)))) (.retF 0 (.var 0))))
theorem k390 (P : Params) : fnChk (Mine.hd.heap_1 P) 390 0 n390 c390 = true := by rfl
noncomputable def n397 : List Str := [Str.ofString "digest", Str.ofString "point"]
noncomputable def c397 : T := (.ret (.frb (.cons (.slb (.meth (.var 0) 21 (.cons (.bin .Add (.meth (.sub (.var 1) (.cint 0)) 26 (.cons (.cint 32) (.cons (.cstr 0) .nil))) (.meth (.sub (.var 1) (.cint 1)) 26 (.cons (.cint 32) (.cons (.cstr 0) .nil)))) .nil)) 12) (.cons (.cstr 0) .nil))))
theorem k397 (P : Params) : fnChk (Mine.hd.heap_1 P) 397 2 n397 c397 = true := by rfl
noncomputable def n404 : List Str := [Str.ofString "well", Str.ofString "kind", Str.ofString "chain", Str.ofString "nonce", Str.ofString "cap", Str.ofString "limit", Str.ofString "priority", Str.ofString "target", Str.ofString "worth", Str.ofString "data", Str.ofString "access"]
noncomputable def c404 : T := (.asgT true [1, 2, 3] (.tup (.cons (.call 39 (.cons (.var 0) (.cons (.cint 3) .nil))) (.cons (.call 40 (.cons (.var 0) (.cons (.tup (.cons (.cint 1) (.cons (.cint 0) (.cons (.cint 2) (.cons (.bin .Pow (.cint 2) (.cint 200)) .nil))))) .nil))) (.cons (.call 40 (.cons (.var 0) (.cons (.tup (.cons (.cint 0) (.cons (.cint 7) (.cons (.cint 127) (.cons (.bin .Sub (.bin .Pow (.cint 2) (.cint 64)) (.cint 2)) .nil))))) .nil))) .nil)))) (.asgT true [4, 5] (.tup (.cons (.call 40 (.cons (.var 0) (.cons (.tup (.cons (.cint 9) (.cons (.cint 0) (.cons (.bin .Pow (.cint 10) (.cint 9)) .nil)))) .nil))) (.cons (.call 40 (.cons (.var 0) (.cons (.tup (.cons (.cint 21000) (.cons (.cint 0) (.cons (.cint 255) .nil)))) .nil))) .nil))) (.asg 6 (.ife (.cmp .Eq (.var 1) (.cint 2)) (.call 40 (.cons (.var 0) (.cons (.tup (.cons (.var 4) (.cons (.cint 0) (.cons (.bin .Add (.var 4) (.cint 5)) .nil)))) .nil))) (.var 4)) (.asgT true [7, 8] (.tup (.cons (.call 40 (.cons (.var 0) (.cons (.tup (.cons (.cint 1001) (.cons .cnone (.cons (.cint 0) .nil)))) .nil))) (.cons (.call 40 (.cons (.var 0) (.cons (.tup (.cons (.cint 0) (.cons (.cint 1) (.cons (.bin .Pow (.cint 10) (.cint 18)) (.cons (.cint 128) .nil))))) .nil))) .nil))) (.asg 9 (.call 40 (.cons (.var 0) (.cons (.tup (.cons (.cbytes []) (.cons (.cbytes [0]) (.cons (.cbytes [128]) (.cons (.call 55 (.cons (.cint 56) .nil)) .nil))))) .nil))) (.asg 10 (.ife (.cmp .Eq (.var 1) (.cint 0)) (.lst .nil) (.call 40 (.cons (.var 0) (.cons (.tup (.cons (.lst .nil) (.cons (.lst (.cons (.tup (.cons (.cint 1001) (.cons (.lst .nil) .nil))) .nil)) (.cons (.lst (.cons (.tup (.cons (.cint 1002) (.cons (.lst (.cons (.cint 5) (.cons (.cint 6) .nil))) .nil))) (.cons (.tup (.cons (.cint 1001) (.cons (.lst (.cons (.cint 0) .nil)) .nil))) .nil))) .nil)))) .nil)))) (.ret (.lst (.cons (.var 1) (.cons (.var 2) (.cons (.var 3) (.cons (.var 6) (.cons (.var 4) (.cons (.var 5) (.cons (.var 7) (.cons (.var 8) (.cons (.var 9) (.cons (.var 10) .nil))))))))))))))))))
theorem k404 (P : Params) : fnChk (Mine.hd.heap_1 P) 404 1 n404 c404 = true := by rfl
noncomputable def n411 : List Str := [Str.ofString "well", Str.ofString "row", Str.ofString "found", Str.ofString "way"]
noncomputable def c411 : T := (.asgT true [2, 3] (.tup (.cons (.call 56 (.cons (.var 1) .nil)) (.cons (.call 39 (.cons (.var 0) (.cons (.cint 10) .nil))) .nil))) (.ife (.cmp .Eq (.var 3) (.cint 0)) (.setI 2 2 (.bin .Add (.sub (.var 1) (.cint 2)) (.cint 1)) .done) (.ife (.cmp .Eq (.var 3) (.cint 1)) (.setII 2 3 4 (.tup (.cons (.bin .Add (.sub (.var 1) (.cint 3)) (.cint 1)) (.cons (.bin .Add (.sub (.var 1) (.cint 4)) (.cint 1)) .nil))) .done) (.ife (.cmp .Eq (.var 3) (.cint 2)) (.setI 2 5 (.bin .Add (.sub (.var 1) (.cint 5)) (.cint 1)) .done) (.ife (.cmp .Eq (.var 3) (.cint 3)) (.setI 2 6 (.ife (.cmp .Is (.sub (.var 1) (.cint 6)) .cnone) (.cint 1003) .cnone) .done) (.ife (.cmp .Eq (.var 3) (.cint 4)) (.setI 2 7 (.bin .Add (.sub (.var 1) (.cint 7)) (.cint 1)) .done) (.ife (.cmp .Eq (.var 3) (.cint 5)) (.setI 2 8 (.bin .Add (.sub (.var 1) (.cint 8)) (.cbytes [0])) .done) (.ife (.cmp .Eq (.var 3) (.cint 6)) (.setI 2 1 (.bin .Add (.sub (.var 1) (.cint 1)) (.cint 1)) .done) (.ife (.band (.cmp .Eq (.var 3) (.cint 7)) (.cmp .Gt (.sub (.var 1) (.cint 0)) (.cint 0))) (.setI 2 9 (.bin .Add (.sub (.var 1) (.cint 9)) (.lst (.cons (.tup (.cons (.cint 1004) (.cons (.lst (.cons (.cint 1) .nil)) .nil))) .nil))) .done) (.ife (.band (.cmp .Eq (.var 3) (.cint 8)) (.band (.cmp .Eq (.sub (.var 1) (.cint 9)) (.lst .nil)) (.cmp .Eq (.sub (.var 1) (.cint 3)) (.sub (.var 1) (.cint 4))))) (.setI 2 0 (.bin .Mod (.bin .Add (.sub (.var 1) (.cint 0)) (.cint 1)) (.cint 3)) .done) .done .done) .done) .done) .done) .done) .done) .done) .done) (.retF 2 (.var 2))))
theorem k411 (P : Params) : fnChk (Mine.hd.heap_1 P) 411 2 n411 c411 = true := by rfl
noncomputable def n418 : List Str := [Str.ofString "row", Str.ofString "three"]
noncomputable def c418 : T := (.ret (.call 29 (.cons (.sub (.var 0) (.cint 0)) (.cons (.sub (.var 0) (.cint 1)) (.cons (.sub (.var 0) (.cint 2)) (.cons (.sub (.var 0) (.cint 3)) (.cons (.sub (.var 0) (.cint 4)) (.cons (.sub (.var 0) (.cint 5)) (.cons (.sub (.var 0) (.cint 6)) (.cons (.sub (.var 0) (.cint 7)) (.cons (.sub (.var 0) (.cint 8)) (.cons (.call 56 (.cons (.sub (.var 0) (.cint 9)) .nil)) (.cons (.var 1) .nil)))))))))))))
theorem k418 (P : Params) : fnChk (Mine.hd.heap_1 P) 418 2 n418 c418 = true := by rfl
noncomputable def n425 : List Str := [Str.ofString "tx", Str.ofString "some"]
noncomputable def c425 : T := (.asg 1 (.lst (.cons (.attr (.var 0) 5) (.cons (.attr (.var 0) 6) (.cons (.attr (.var 0) 7) (.cons (.attr (.var 0) 8) (.cons (.attr (.var 0) 9) (.cons (.attr (.var 0) 10) (.cons (.attr (.var 0) 11) (.cons (.attr (.var 0) 12) (.cons (.attr (.var 0) 13) .nil)))))))))) (.ret (.bin .Add (.var 1) (.lst (.cons (.attr (.var 0) 14) .nil)))))
theorem k425 (P : Params) : fnChk (Mine.hd.heap_1 P) 425 1 n425 c425 = true := by rfl
noncomputable def n432 : List Str := [Str.ofString "digest", Str.ofString "row"]
noncomputable def c432 : T := (.ret (.frb (.cons (.meth (.var 0) 21 (.cons (.call 35 (.cons (.call 46 (.cons (.var 1) (.cons .cnone .nil))) .nil)) .nil)) (.cons (.cstr 0) .nil))))
theorem k432 (P : Params) : fnChk (Mine.hd.heap_1 P) 432 2 n432 c432 = true := by rfl
noncomputable def n453 : List Str := [Str.ofString "script", Str.ofString "well", Str.ofString "table", Str.ofString "inverses", Str.ofString "digest", Str.ofString "setting", Str.ofString "secret", Str.ofString "k", Str.ofString "turn", Str.ofString "row", Str.ofString "other", Str.ofString "word", Str.ofString "second", Str.ofString "r", Str.ofString "is_refused", Str.ofString "tx", Str.ofString "twin", Str.ofString "home", Str.ofString "three", Str.ofString "who", Str.ofString "heir"]
noncomputable def c453 : T := (.asgT true [1, 2, 3] (.tup (.cons (.own (.cons (.call 56 (.cons (.slt (.var 0) 40) .nil)) (.cons (.cint 0) (.cons (.cint 5) .nil)))) (.cons (.call 42 .nil) (.cons (.call 41 (.cons (.cint 79) .nil)) .nil)))) (.asg 4 (.call 51 .nil) (.asg 5 (.call 38 (.cons (.var 4) (.cons (.call 24 .nil) (.cons (.cint 1) (.cons (.cint 64) (.cons (.cint 20) .nil)))))) (.asgT true [6, 7] (.tup (.cons (.bin .Add (.cint 1) (.call 39 (.cons (.var 1) (.cons (.cint 78) .nil)))) (.cons (.bin .Add (.cint 1) (.call 39 (.cons (.var 1) (.cons (.cint 78) .nil)))) .nil))) (.forR 0 8 (.call 39 (.cons (.var 1) (.cons (.cint 40) .nil))) (.expr (.meth (.var 4) 21 (.cons (.call 55 (.cons (.lst (.cons (.var 8) (.cons (.cint 1) .nil))) .nil)) .nil)) .done) (.asg 9 (.call 44 (.cons (.var 1) .nil)) (.asgT true [10, 11] (.tup (.cons (.call 45 (.cons (.var 1) (.cons (.var 9) .nil))) (.cons (.call 48 (.cons (.var 4) (.cons (.var 9) .nil))) .nil))) (.forR 0 8 (.call 40 (.cons (.var 1) (.cons (.tup (.cons (.cint 0) (.cons (.cint 78) (.cons (.cint 1) (.cons (.cint 30) .nil))))) .nil))) (.expr (.meth (.var 4) 21 (.cons (.call 55 (.cons (.lst (.cons (.var 8) (.cons (.cint 2) .nil))) .nil)) .nil)) .done) (.asg 12 (.call 48 (.cons (.var 4) (.cons (.var 10) .nil))) (.ife (.cmp .NotEq (.cmp .Eq (.var 11) (.var 12)) (.cmp .Eq (.var 9) (.var 10))) (.ret (.cbool false)) .done (.asgT true [13, 14] (.tup (.cons (.sub (.sub (.var 2) (.var 7)) (.cint 0)) (.cons (.cmp .Eq (.bin .Mod (.bin .Add (.var 11) (.bin .Mult (.sub (.sub (.var 2) (.var 7)) (.cint 0)) (.var 6))) (.cint 79)) (.cint 0)) .nil))) (.asgT true [15, 16] (.tup (.cons (.call 49 (.cons (.var 9) (.cons (.var 6) (.cons (.var 7) (.cons (.var 5) .nil))))) (.cons (.call 49 (.cons (.var 9) (.cons (.var 6) (.cons (.bin .Sub (.cint 79) (.var 7)) (.cons (.var 5) .nil))))) .nil))) (.ife (.bor (.cmp .Is (.var 15) .cnone) (.cmp .Is (.var 16) .cnone)) (.ret (.band (.var 14) (.band (.cmp .Is (.var 15) .cnone) (.cmp .Is (.var 16) .cnone)))) .done (.ife (.bor (.var 14) (.bor (.cmp .Is (.attr (.var 15) 15) .cnone) (.bor (.cmp .NotEq (.call 47 (.cons (.var 15) .nil)) (.var 9)) (.cmp .NotEq (.attr (.var 16) 15) (.attr (.var 15) 15))))) (.ret (.cbool false)) .done (.asg 17 (.call 43 (.cons (.var 4) (.cons (.sub (.var 2) (.var 6)) .nil))) (.ife (.bor (.cmp .NotEq (.sub (.attr (.var 15) 15) (.cint 1)) (.var 13)) (.bor (.not (.cmp2 .Lt .Lt (.cint 0) (.sub (.attr (.var 15) 15) (.cint 2)) (.cint 40))) (.cmp .NotEq (.call 37 (.cons (.var 15) (.cons (.var 5) .nil))) (.var 17)))) (.ret (.cbool false)) .done (.asg 18 (.tup (.cons (.call 39 (.cons (.var 1) (.cons (.cint 2) .nil))) (.cons (.var 13) (.cons (.bin .Add (.cint 1) (.call 39 (.cons (.var 1) (.cons (.cint 78) .nil)))) .nil)))) (.asg 19 (.call 50 (.cons (.call 30 (.cons (.var 15) (.cons (.var 18) .nil))) (.cons (.var 5) .nil))) (.ife (.bor (.band (.cmp .Gt (.sub (.var 18) (.cint 2)) (.cint 39)) (.cmp .IsNot (.var 19) .cnone)) (.cmp .NotEq (.cmp .Eq (.var 19) (.var 17)) (.cmp .Eq (.var 18) (.attr (.var 15) 15)))) (.ret (.cbool false)) .done (.asg 20 (.bin .Mod (.bin .Add (.var 6) (.bin .Mult (.bin .Sub (.var 11) (.var 12)) (.sub (.var 3) (.var 13)))) (.cint 79)) (.asg 19 (.call 50 (.cons (.call 46 (.cons (.var 10) (.cons (.attr (.var 15) 15) .nil))) (.cons (.var 5) .nil))) (.ife (.cmp .NotEq (.var 19) (.ife (.cmp .Eq (.var 20) (.cint 0)) .cnone (.call 43 (.cons (.var 4) (.cons (.sub (.var 2) (.var 20)) .nil))))) (.ret (.cbool false)) .done (.ret (.cmp .Eq (.cmp .Eq (.var 19) (.var 17)) (.cmp .Eq (.bin .Mod (.bin .Sub (.var 11) (.var 12)) (.cint 79)) (.cint 0))))))))))))))))))))))))))
theorem k453 (P : Params) : fnChk (Mine.hd.heap_1 P) 453 1 n453 c453 = true := by rfl
noncomputable def n439 : List Str := [Str.ofString "row", Str.ofString "secret", Str.ofString "k", Str.ofString "setting", Str.ofString "fault"]
noncomputable def a439 : X := (.cons (.call 46 (.cons (.var 0) (.cons .cnone .nil))) (.cons (.var 1) (.cons (.var 2) (.cons (.var 3) .nil))))
theorem k439 (P : Params) : fnHead (Mine.hd.heap_1 P) 439 4 n439 (fun cs b => tryC cs n439 36 a439 b) = true := by rfl
noncomputable def n446 : List Str := [Str.ofString "tx", Str.ofString "setting", Str.ofString "fault"]
noncomputable def a446 : X := (.cons (.var 0) (.cons (.var 1) .nil))
theorem k446 (P : Params) : fnHead (Mine.hd.heap_1 P) 446 2 n446 (fun cs b => tryC cs n446 37 a446 b) = true := by rfl
theorem mk52 (P : Params) : mkChk (Mine.hd.heap_1 P) 52 35 = true := by rfl
theorem mk194 (P : Params) : mkChk (Mine.hd.heap_1 P) 194 156 = true := by rfl
theorem mk285 (P : Params) : mkChk (Mine.hd.heap_1 P) 285 282 = true := by rfl
theorem mk358 (P : Params) : mkChk (Mine.hd.heap_1 P) 358 355 = true := by rfl
noncomputable def n35 : List Str := [Str.ofString "self"]
noncomputable def c35 : T := .setA 0 4 .dct .done
theorem k35 (P : Params) : fnChk (Mine.hd.heap_1 P) 35 1 n35 c35 = true := by rfl
theorem brI {c : Prop} [Decidable c] {P R : Prop} (h1 : c → P) (h2 : ¬ c → R) : brq (decide c) P R := by
  by_cases h : c
  · rw [decide_eq_true h]; exact h1 h
  · rw [decide_eq_false h]; exact h2 h
theorem brN {c : Prop} [Decidable c] {P R : Prop} (h1 : ¬ c → P) (h2 : c → R) : brq (!decide c) P R := by
  by_cases h : c
  · rw [decide_eq_true h]; exact h2 h
  · rw [decide_eq_false h]; exact h1 h
theorem mulI {a b : Int} {K : V → Prop} (h : smallI a ∨ smallI b) (q : K (.int (a * b))) : mulQ a b K := ⟨h, q⟩
theorem modI {a b : Int} {K : V → Prop} (h : 0 < b) (q : ∀ r, r = a.fmod b → 0 ≤ r → r < b → K (.int r)) : modQ a b K := ⟨h, q⟩
/-- what is known of a value: an int's bounds, a tuple's parts -/
inductive B where
  | any | val | bool | num | int (lo hi : Int) | tup (l : List B) | cst (v : V)
noncomputable def getI (v : V) : Int := match v with
  | .int n => n
  | _ => 0
noncomputable def getB (v : V) : Bool := match v with
  | .bool b => b
  | _ => false
noncomputable def getT (v : V) : List V := match v with
  | .tup l => l
  | _ => []
noncomputable def opI (op : Operator) (a b : Int) : Int := match op with
  | .Add => a + b
  | .Sub => a - b
  | .Mult => a * b
  | .Mod => a.fmod b
  | .FloorDiv => a.fdiv b
  | .RShift => a.fdiv (2 ^ b.toNat)
  | .BitAnd => Builtin.bitAnd a b
  | _ => 0
noncomputable def isI (b : B) : Bool := match b with
  | .num => true
  | .int _ _ => true
  | _ => false
noncomputable def isS (b : B) : Bool := match b with
  | .int l h => decide (-4611686018427387904 ≤ l) && decide (h ≤ 4611686018427387904)
  | _ => false
theorem num_ne : B.num ≠ .any := fun h => by cases h
theorem bool_ne : B.bool ≠ .any := fun h => by cases h
theorem val_ne : B.val ≠ .any := fun h => by cases h
theorem int_ne {l h : Int} : B.int l h ≠ .any := fun h => by cases h
theorem tup_ne {l : List B} : B.tup l ≠ .any := fun h => by cases h
theorem cst_ne {v : V} : B.cst v ≠ .any := fun h => by cases h
noncomputable def gd {α : Type} (c : Bool) (b : α) : Option α := match c with
  | true => some b
  | false => none
theorem gd_ex {α : Type} {c : Bool} {b b' : α} (h : gd c b = some b') : c = true ∧ b = b' := by
  cases c with
  | true => exact ⟨rfl, Option.some.inj h⟩
  | false => exact no_some h
noncomputable def ob {α β : Type} (o : Option α) (k : α → Option β) : Option β := match o with
  | some x => k x
  | none => none
theorem ob_ex {α β : Type} {o : Option α} {k : α → Option β} {b : β} {G : Prop} (h : ob o k = some b) (go : ∀ x, o = some x → k x = some b → G) : G := by
  cases o with
  | none => exact no_some h
  | some x => exact go x rfl h
noncomputable def bi2 (x y : B) (f : Int → Int → Int → Int → B) : B := match x with
  | .int l h => (match y with | .int l2 h2 => f l h l2 h2 | _ => .num)
  | _ => .num
noncomputable def addB (x y : B) : B := bi2 x y fun l h l2 h2 => .int (l + l2) (h + h2)
noncomputable def subB (x y : B) : B := bi2 x y fun l h l2 h2 => .int (l - h2) (h - l2)
noncomputable def mulB (x y : B) : B := bi2 x y fun l h l2 h2 => .int (-((max l.natAbs h.natAbs * max l2.natAbs h2.natAbs : Nat) : Int)) ((max l.natAbs h.natAbs * max l2.natAbs h2.natAbs : Nat) : Int)
noncomputable def divB (x : B) : B := match x with
  | .int l h => (match decide (0 ≤ l) with | true => .int 0 h | false => .num)
  | _ => .num
noncomputable def ivB (y : B) : Option (Int × Int) := match y with
  | .int l h => some (l, h)
  | _ => none
noncomputable def tpB (y : B) : Option (List B) := match y with
  | .tup l => some l
  | _ => none
noncomputable def csB (y : B) : Option V := match y with
  | .cst v => some v
  | _ => none
theorem ivB_eq {y : B} {p : Int × Int} (h : ivB y = some p) : y = .int p.1 p.2 := by
  cases y with
  | int l h' => obtain rfl := Option.some.inj h; rfl
  | _ => exact no_some h
theorem tpB_eq {y : B} {l : List B} (h : tpB y = some l) : y = .tup l := by
  cases y with
  | tup l => obtain rfl := Option.some.inj h; rfl
  | _ => exact no_some h
theorem csB_eq {y : B} {v : V} (h : csB y = some v) : y = .cst v := by
  cases y with
  | cst l => obtain rfl := Option.some.inj h; rfl
  | _ => exact no_some h
noncomputable def opB (op : Operator) (x y : B) : Option B := match op with
  | .Add => gd (isI x && isI y) (addB x y)
  | .Sub => gd (isI x && isI y) (subB x y)
  | .Mult => gd (isI x && isI y && (isS x || isS y)) (mulB x y)
  | .Mod => ob (ivB y) fun p => gd (isI x && decide (0 < p.1)) (.int 0 (p.2 - 1))
  | .FloorDiv => ob (ivB y) fun p => gd (isI x && decide (0 < p.1) && isS y) (divB x)
  | .RShift => ob (ivB y) fun p => gd (isI x && decide (0 ≤ p.1)) .num
  | .BitAnd => gd (isI x && isI y) .num
  | _ => none
noncomputable def cmpV (op : CmpOp) (x y : V) : Bool := match op with
  | .Eq => decide (getI x = getI y)
  | .NotEq => !decide (getI x = getI y)
  | .Lt => decide (getI x < getI y)
  | .LtE => decide (getI x ≤ getI y)
  | .Gt => decide (getI y < getI x)
  | .GtE => decide (getI y ≤ getI x)
  | .In => ((intsV (getT y)).getD []).any (· == getI x)
  | .NotIn => !((intsV (getT y)).getD []).any (· == getI x)
  | .Is => (match x with | .none => true | _ => false)
  | .IsNot => (match x with | .none => false | _ => true)
noncomputable def isNo (b : B) : Bool := match b with
  | .cst v => (match v with | .none => true | _ => false)
  | _ => false
noncomputable def isNB (b : B) : Bool := match b with
  | .bool => true
  | .num => true
  | .int _ _ => true
  | .tup _ => true
  | .cst v => (match v with | .none => true | _ => false)
  | _ => false
noncomputable def isIs (b : B) : Bool := match b with
  | .tup l => l.all isI
  | _ => false
noncomputable def cmpB (op : CmpOp) (x y : B) : Bool := match op with
  | .Is => false
  | .IsNot => false
  | .In => isI x && isIs y
  | .NotIn => isI x && isIs y
  | _ => isI x && isI y
noncomputable def ofI (v : V) : B := match v with
  | .int n => .int n n
  | .un => .any
  | v => .cst v
noncomputable def ofC (v : V) : B := match v with
  | .int n => .int n n
  | .un => .any
  | .tup l => .tup (l.map ofI)
  | v => .cst v
noncomputable def attV (v : V) (j : Nat) : V := match v with
  | .inst C l => (match cTab.lookup C with
    | some fs => (match fs.idxOf? j with
      | some i => (l[i]?).getD .un
      | none => .un)
    | none => .un)
  | _ => .un
/-- defs that are plain functions of their arguments: what is known of the answer, the answer -/
structure PF where
  c : Nat → List B → Option B
  cv : Nat → List V → V
  m : Nat → List B → Option B
  mv : Nat → List V → V
/-- a test: known, or a bool -/
noncomputable def boV (v : V) : Option (Option Bool) := match v with
  | .bool x => some (some x)
  | _ => none
noncomputable def boB (b : B) : Option (Option Bool) := match b with
  | .bool => some none
  | .cst v => boV v
  | _ => none
noncomputable def ofB (o : Option Bool) : B := match o with
  | none => .bool
  | some x => .cst (.bool x)
noncomputable def isB (op : CmpOp) (x : B) : B := match op with
  | .Is => .cst (.bool (isNo x))
  | _ => .cst (.bool (!isNo x))
noncomputable def isOp (op : CmpOp) : Bool := match op with
  | .Is => true
  | .IsNot => true
  | _ => false
noncomputable def knw (b : B) : Option B := match b with
  | .any => none
  | b => some b
noncomputable def bget : List B → Nat → B
  | [], _ => .any
  | b :: _, 0 => b
  | _ :: l, i + 1 => bget l i
noncomputable def bset : List B → Nat → B → List B
  | [], _, _ => []
  | _ :: l, 0, x => x :: l
  | b :: l, i + 1, x => b :: bset l i x
noncomputable def litOf (i : X) : Option Int := match i with
  | .cint n => some n
  | _ => none
theorem litOf_eq {i : X} {n : Int} (h : litOf i = some n) : i = .cint n := by
  cases i with
  | cint m => exact congrArg X.cint (Option.some.inj h)
  | _ => exact no_some h
noncomputable def cmB (op : CmpOp) (x y : B) : Option B := match isOp op with
  | true => gd (isNB x && isNo y) (isB op x)
  | false => gd (cmpB op x y) .bool
noncomputable def orB (o : Option Bool) (y : Option (Option Bool)) : Option B := match o with
  | none => ob y fun _ => some .bool
  | some z => (match z with | true => some (.cst (.bool true)) | false => ob y fun o => some (ofB o))
noncomputable def ifB (o : Option Bool) (p q : Option B) : Option B := match o with
  | none => ob p fun _ => ob q fun _ => some .val
  | some z => (match z with | true => p | false => q)
noncomputable def pvB (F : PF) : X → List B → Option B
  | .var i, β => knw (bget β i)
  | .cint n, _ => some (.int n n)
  | .cnone, _ => some (.cst .none)
  | .neg a, β => ob (pvB F a β) fun x => gd (isI x) .num
  | .not a, β => ob (pvB F a β) fun x => ob (boB x) fun o => some (ofB (o.map (!·)))
  | .cmp op a b, β => ob (pvB F a β) fun x => ob (pvB F b β) fun y => cmB op x y
  | .cmp2 o1 o2 a b c, β => ob (pvB F a β) fun x => ob (pvB F b β) fun y => ob (pvB F c β) fun z => gd (cmpB o1 x y && cmpB o2 y z) .bool
  | .bor a b, β => ob (pvB F a β) fun x => ob (boB x) fun o => orB o (ob (pvB F b β) boB)
  | .ife c a b, β => ob (pvB F c β) fun x => ob (boB x) fun o => ifB o (pvB F a β) (pvB F b β)
  | .attr o j, β => ob (pvB F o β) fun x => ob (csB x) fun v => knw (ofC (attV v j))
  | .call j as, β => ob (pvB F as β) fun x => ob (tpB x) fun l => ob (F.c j l) knw
  | .meth o j as, β => ob (pvB F o β) fun x => ob (pvB F as β) fun y => ob (tpB y) fun l => ob (F.m j (x :: l)) knw
  | .bin op a b, β => ob (pvB F a β) fun x => ob (pvB F b β) fun y => opB op x y
  | .sub o i, β => ob (pvB F o β) fun x => ob (tpB x) fun l => ob (litOf i) fun n => ob (gd (decide (0 ≤ n) && decide (l.length ≤ 1000)) n) fun n => ob (l[n.toNat]?) knw
  | .tup as, β => pvB F as β
  | .nil, _ => some (.tup [])
  | .cons a as, β => ob (pvB F a β) fun b => ob (pvB F as β) fun x => ob (tpB x) fun l => some (.tup (b :: l))
  | _, _ => none
noncomputable def pvV (F : PF) : X → List V → V
  | .var i, ρ => lget ρ i
  | .cint n, _ => .int n
  | .cnone, _ => .none
  | .neg a, ρ => .int (-getI (pvV F a ρ))
  | .not a, ρ => .bool (!getB (pvV F a ρ))
  | .cmp op a b, ρ => .bool (cmpV op (pvV F a ρ) (pvV F b ρ))
  | .cmp2 o1 o2 a b c, ρ => .bool (cmpV o1 (pvV F a ρ) (pvV F b ρ) && cmpV o2 (pvV F b ρ) (pvV F c ρ))
  | .bor a b, ρ => .bool (getB (pvV F a ρ) || getB (pvV F b ρ))
  | .ife c a b, ρ => bif getB (pvV F c ρ) then pvV F a ρ else pvV F b ρ
  | .attr o j, ρ => attV (pvV F o ρ) j
  | .call j as, ρ => (match pvV F as ρ with | .tup l => F.cv j l | _ => .un)
  | .meth o j as, ρ => (match pvV F as ρ with | .tup l => F.mv j (pvV F o ρ :: l) | _ => .un)
  | .bin op a b, ρ => .int (opI op (getI (pvV F a ρ)) (getI (pvV F b ρ)))
  | .sub o i, ρ => (match pvV F o ρ, litOf i with
    | .tup l, some n => (l[n.toNat]?).getD .un
    | _, _ => .un)
  | .tup as, ρ => pvV F as ρ
  | .nil, _ => .tup []
  | .cons a as, ρ => (match pvV F as ρ with
    | .tup l => .tup (pvV F a ρ :: l)
    | _ => .un)
  | _, _ => .un
mutual
noncomputable def InB : B → V → Prop
  | .any, _ => True
  | .num, v => (match v with | .int _ => True | _ => False)
  | .val, v => (match v with | .un => False | _ => True)
  | .bool, v => (match v with | .bool _ => True | _ => False)
  | .cst u, v => v = u ∧ u ≠ .un
  | .int l h, v => (match v with | .int n => l ≤ n ∧ n ≤ h | _ => False)
  | .tup bs, v => (match v with | .tup l => InBl bs l | _ => False)
noncomputable def InBl : List B → List V → Prop
  | [], [] => True
  | b :: bs, v :: vs => InB b v ∧ InBl bs vs
  | _, _ => False
end
noncomputable def InBs (β : List B) (ρ : List V) : Prop := β.length ≤ ρ.length ∧ ∀ i, InB (bget β i) (lget ρ i)
theorem inBl_get : ∀ {bs : List B} {vs : List V} {i : Nat} {b : B}, InBl bs vs → bs[i]? = some b → ∃ v, vs[i]? = some v ∧ InB b v
  | [], _, _, _, _, h => by cases h
  | _ :: _, [], _, _, h, _ => h.elim
  | _ :: _, _ :: _, 0, _, h, e => by cases e; exact ⟨_, rfl, h.1⟩
  | _ :: bs, _ :: vs, i + 1, _, h, e => inBl_get (bs := bs) (i := i) h.2 e
theorem inBl_len : ∀ {bs : List B} {vs : List V}, InBl bs vs → bs.length = vs.length
  | [], [], _ => rfl
  | _ :: bs, _ :: vs, h => congrArg (· + 1) (inBl_len (bs := bs) h.2)
  | [], _ :: _, h => h.elim
  | _ :: _, [], h => h.elim
theorem inB_isI {b : B} {v : V} (hb : isI b = true) (q : InB b v) : ∃ n, v = .int n := by
  cases b with
  | num => cases v with
    | int n => exact ⟨n, rfl⟩
    | _ => exact q.elim
  | int l h => cases v with
    | int n => exact ⟨n, rfl⟩
    | _ => exact q.elim
  | _ => first | exact no_some hb | exact no_ft hb | cases hb
theorem inB_isS {b : B} {n : Int} (hb : isS b = true) (q : InB b (.int n)) : smallI n := by
  cases b with
  | int l h =>
    have h2 := Bool.and_eq_true_iff.mp hb
    exact ⟨Int.le_trans (of_decide_eq_true h2.1) q.1, Int.le_trans q.2 (of_decide_eq_true h2.2)⟩
  | _ => first | exact no_some hb | exact no_ft hb | cases hb
theorem inB_tup {bs : List B} {v : V} (q : InB (.tup bs) v) : ∃ l, v = .tup l ∧ InBl bs l := by
  cases v with
  | tup l => exact ⟨l, rfl, q⟩
  | _ => exact q.elim
theorem bi2_snd {x y : B} {f : Int → Int → Int → Int → B} {n : Int} (h : ∀ l h l2 h2, x = .int l h → y = .int l2 h2 → InB (f l h l2 h2) (.int n) ∧ f l h l2 h2 ≠ .any) : InB (bi2 x y f) (.int n) ∧ bi2 x y f ≠ .any := by
  cases x with
  | int l h' => cases y with
    | int l2 h2 => exact h _ _ _ _ rfl rfl
    | _ => exact ⟨trivial, num_ne⟩
  | _ => exact ⟨trivial, num_ne⟩
theorem addB_snd {x y : B} {a b : Int} (ha : InB x (.int a)) (hb : InB y (.int b)) : InB (addB x y) (.int (a + b)) ∧ addB x y ≠ .any :=
  bi2_snd fun _ _ _ _ e1 e2 => by subst e1 e2; exact ⟨⟨Int.add_le_add ha.1 hb.1, Int.add_le_add ha.2 hb.2⟩, int_ne⟩
theorem subB_snd {x y : B} {a b : Int} (ha : InB x (.int a)) (hb : InB y (.int b)) : InB (subB x y) (.int (a - b)) ∧ subB x y ≠ .any :=
  bi2_snd fun _ _ _ _ e1 e2 => by subst e1 e2; exact ⟨⟨Int.sub_le_sub ha.1 hb.2, Int.sub_le_sub ha.2 hb.1⟩, int_ne⟩
theorem natAbs_up {h a : Int} (h0 : 0 ≤ a) (h2 : a ≤ h) : a.natAbs ≤ h.natAbs := by
  obtain ⟨n, rfl⟩ := Int.eq_ofNat_of_zero_le h0
  obtain ⟨m, rfl⟩ := Int.eq_ofNat_of_zero_le (Int.le_trans h0 h2)
  exact Int.ofNat_le.mp h2
theorem natAbs_le {l h a : Int} (h1 : l ≤ a) (h2 : a ≤ h) : a.natAbs ≤ max l.natAbs h.natAbs := by
  rcases Int.le_total 0 a with h0 | h0
  · exact Nat.le_trans (natAbs_up h0 h2) (Nat.le_max_right _ _)
  · rw [← Int.natAbs_neg a, ← Int.natAbs_neg l]
    exact Nat.le_trans (natAbs_up (Int.neg_nonneg_of_nonpos h0) (Int.neg_le_neg h1)) (Nat.le_max_left _ _)
theorem abs_in {a : Int} {M : Nat} (h : a.natAbs ≤ M) : -(M : Int) ≤ a ∧ a ≤ (M : Int) := by omega
theorem mulB_snd {x y : B} {a b : Int} (ha : InB x (.int a)) (hb : InB y (.int b)) : InB (mulB x y) (.int (a * b)) ∧ mulB x y ≠ .any :=
  bi2_snd fun _ _ _ _ e1 e2 => by subst e1 e2; exact ⟨abs_in (by rw [Int.natAbs_mul]; exact Nat.mul_le_mul (natAbs_le ha.1 ha.2) (natAbs_le hb.1 hb.2)), int_ne⟩
theorem divB_snd {x : B} {a b : Int} (ha : InB x (.int a)) (hb : 0 < b) : InB (divB x) (.int (a.fdiv b)) ∧ divB x ≠ .any := by
  cases x with
  | int l h =>
    show InB (match decide (0 ≤ l) with | true => .int 0 h | false => .num) _ ∧ (match decide (0 ≤ l) with | true => B.int 0 h | false => .num) ≠ .any
    cases e0 : decide (0 ≤ l) with
    | true =>
      have h1 : 0 ≤ a := Int.le_trans (of_decide_eq_true e0) ha.1
      rw [show a.fdiv b = a / b from Int.fdiv_eq_ediv_of_nonneg _ (Int.le_of_lt hb)]
      exact ⟨⟨Int.ediv_nonneg h1 (Int.le_of_lt hb), Int.le_trans (Int.ediv_le_self _ h1) ha.2⟩, int_ne⟩
    | false => exact ⟨trivial, num_ne⟩
  | _ => exact ⟨trivial, num_ne⟩
theorem opB_I {op : Operator} {x y z : B} (e : opB op x y = some z) : isI x = true ∧ isI y = true := by
  cases op with
  | Add => exact and_ex (gd_ex e).1
  | Sub => exact and_ex (gd_ex e).1
  | BitAnd => exact and_ex (gd_ex e).1
  | Mult => exact and_ex (and_ex (gd_ex e).1).1
  | Mod => exact ob_ex e fun p hp e => ⟨(and_ex (gd_ex e).1).1, by rw [ivB_eq hp]; rfl⟩
  | RShift => exact ob_ex e fun p hp e => ⟨(and_ex (gd_ex e).1).1, by rw [ivB_eq hp]; rfl⟩
  | FloorDiv => exact ob_ex e fun p hp e => ⟨(and_ex (and_ex (gd_ex e).1).1).1, by rw [ivB_eq hp]; rfl⟩
  | _ => exact no_some e
theorem opB_snd {op : Operator} {x y z : B} {a b : Int} (e : opB op x y = some z) (ha : InB x (.int a)) (hb : InB y (.int b)) :
    (InB z (.int (opI op a b)) ∧ z ≠ .any) ∧ ∀ K : V → Prop, K (.int (opI op a b)) → binI op a b K := by
  cases op with
  | Add => obtain ⟨_, rfl⟩ := gd_ex e; exact ⟨addB_snd ha hb, fun _ q => q⟩
  | Sub => obtain ⟨_, rfl⟩ := gd_ex e; exact ⟨subB_snd ha hb, fun _ q => q⟩
  | BitAnd => obtain ⟨_, rfl⟩ := gd_ex e; exact ⟨⟨trivial, num_ne⟩, fun _ q => q⟩
  | Mult =>
    obtain ⟨h, rfl⟩ := gd_ex e
    exact ⟨mulB_snd ha hb, fun _ q => ⟨(Bool.or_eq_true_iff.mp (and_ex h).2).imp (inB_isS · ha) (inB_isS · hb), q⟩⟩
  | Mod =>
    refine ob_ex e fun p hp e => ?_
    obtain ⟨h, rfl⟩ := gd_ex e
    obtain rfl := ivB_eq hp
    have h1 : 0 < b := Int.lt_of_lt_of_le (of_decide_eq_true (and_ex h).2) hb.1
    exact ⟨⟨⟨Int.fmod_nonneg_of_pos a h1, Int.le_trans (Int.le_sub_one_of_lt (Int.fmod_lt_of_pos a h1)) (Int.sub_le_sub_right hb.2 1)⟩, int_ne⟩, fun _ q => ⟨h1, fun r hr _ _ => by subst hr; exact q⟩⟩
  | FloorDiv =>
    refine ob_ex e fun p hp e => ?_
    obtain ⟨h, rfl⟩ := gd_ex e
    have hs := inB_isS (and_ex h).2 hb
    obtain rfl := ivB_eq hp
    have h1 : 0 < b := Int.lt_of_lt_of_le (of_decide_eq_true (and_ex (and_ex h).1).2) hb.1
    exact ⟨divB_snd ha h1, fun _ q => ⟨⟨h1, hs⟩, q⟩⟩
  | RShift =>
    refine ob_ex e fun p hp e => ?_
    obtain ⟨h, rfl⟩ := gd_ex e
    obtain rfl := ivB_eq hp
    exact ⟨⟨trivial, num_ne⟩, fun _ q => ⟨Int.le_trans (of_decide_eq_true (and_ex h).2) hb.1, q⟩⟩
  | _ => exact no_some e
theorem inB_ne {b : B} {v : V} (h : InB b v) (hb : b ≠ .any) : v ≠ .un := by
  intro e; subst e
  cases b with
  | any => exact hb rfl
  | cst u => exact h.2 h.1.symm
  | _ => exact h
theorem inB_bool {v : V} (h : InB .bool v) : v = .bool (getB v) := by
  cases v with
  | bool b => rfl
  | _ => exact h.elim
theorem cmpB_snd {op : CmpOp} {x y : B} {u v : V} (e : cmpB op x y = true) (ha : InB x u) (hb : InB y v) (K : Bool → Prop) (q : K (cmpV op u v)) : cmpQ op u v K := by
  have hI : (isI x && isI y) = true → ∃ a b, u = .int a ∧ v = .int b := fun h => by
    obtain ⟨a, rfl⟩ := inB_isI (Bool.and_eq_true_iff.mp h).1 ha
    obtain ⟨b, rfl⟩ := inB_isI (Bool.and_eq_true_iff.mp h).2 hb
    exact ⟨a, b, rfl, rfl⟩
  have hL : ∀ {bs : List B} {vs : List V}, bs.all isI = true → InBl bs vs → ∃ ns, intsV vs = some ns := by
    intro bs
    induction bs with
    | nil => intro vs _ h; cases vs with
      | nil => exact ⟨[], rfl⟩
      | cons _ _ => exact h.elim
    | cons b bs ih => intro vs hb h; cases vs with
      | nil => exact h.elim
      | cons v vs =>
        rw [List.all_cons, Bool.and_eq_true] at hb
        obtain ⟨n, rfl⟩ := inB_isI hb.1 h.1
        obtain ⟨ns, e⟩ := ih hb.2 h.2
        exact ⟨n :: ns, by show (intsV vs).map (n :: ·) = _; rw [e]; rfl⟩
  have hT : (isI x && isIs y) = true → ∃ a l ns, u = .int a ∧ v = .tup l ∧ intsV l = some ns := fun h => by
    obtain ⟨h1, h2⟩ := Bool.and_eq_true_iff.mp h
    obtain ⟨a, rfl⟩ := inB_isI h1 ha
    cases y with
    | tup bs =>
      obtain ⟨l, rfl, hl⟩ := inB_tup hb
      obtain ⟨ns, e⟩ := hL h2 hl
      exact ⟨a, l, ns, rfl, rfl, e⟩
    | _ => exact no_ft h2
  cases op <;> first
    | exact absurd e Bool.false_ne_true
    | (obtain ⟨a, b, rfl, rfl⟩ := hI e; exact q)
    | (obtain ⟨a, l, ns, rfl, rfl, e2⟩ := hT e
       replace q : K _ := q
       unfold cmpV getT at q; rw [e2] at q
       first | show cmpT .In a l K | show cmpT .NotIn a l K
       unfold cmpT; rw [e2]; exact q)
theorem isB_snd {op : CmpOp} {x y : B} {u v : V} (ho : isOp op = true) (e : (isNB x && isNo y) = true) (ha : InB x u) (hb : InB y v) : InB (isB op x) (.bool (cmpV op u v)) ∧ ∀ K : Bool → Prop, K (cmpV op u v) → cmpQ op u v K := by
  obtain ⟨h1, h2⟩ := and_ex e
  have hv : v = .none := by
    cases y with
    | cst c => cases c with
      | none => exact hb.1
      | _ => exact no_ft h2
    | _ => exact no_ft h2
  subst hv
  have hu : (isNo x = true ∧ u = .none) ∨ (isNo x = false ∧ ((∃ b, u = .bool b) ∨ (∃ n, u = .int n) ∨ (∃ l, u = .tup l))) := by
    cases x with
    | bool => exact .inr ⟨rfl, .inl ⟨_, inB_bool ha⟩⟩
    | num => exact .inr ⟨rfl, .inr (.inl (inB_isI rfl ha))⟩
    | int l h => exact .inr ⟨rfl, .inr (.inl (inB_isI rfl ha))⟩
    | tup l => obtain ⟨l, e, _⟩ := inB_tup ha; exact .inr ⟨rfl, .inr (.inr ⟨l, e⟩)⟩
    | cst c => cases c with
      | none => exact .inl ⟨rfl, ha.1⟩
      | _ => exact no_ft h1
    | _ => exact no_ft h1
  have nu : ∀ b : Bool, V.bool b ≠ .un := fun _ x => by cases x
  cases op <;> first
    | exact absurd ho Bool.false_ne_true
    | (rcases hu with ⟨hn, rfl⟩ | ⟨hn, ⟨b, rfl⟩ | ⟨b, rfl⟩ | ⟨b, rfl⟩⟩ <;> exact ⟨⟨by rw [hn]; rfl, nu _⟩, fun _ q => q⟩)
theorem isB_ne {op : CmpOp} {x : B} : isB op x ≠ .any := by cases op <;> exact cst_ne
theorem cm_snd {op : CmpOp} {x y z : B} {u v : V} (e : cmB op x y = some z) (ha : InB x u) (hb : InB y v) : (InB z (.bool (cmpV op u v)) ∧ z ≠ .any) ∧ ∀ K : Bool → Prop, K (cmpV op u v) → cmpQ op u v K := by
  unfold cmB at e
  cases ho : isOp op with
  | true =>
    rw [ho] at e
    obtain ⟨h, rfl⟩ := gd_ex e
    have q := isB_snd ho h ha hb
    exact ⟨⟨q.1, isB_ne⟩, q.2⟩
  | false =>
    rw [ho] at e
    obtain ⟨h, rfl⟩ := gd_ex e
    exact ⟨⟨trivial, bool_ne⟩, cmpB_snd h ha hb⟩
theorem boB_snd {b : B} {v : V} {o : Option Bool} (h : boB b = some o) (hv : InB b v) : v = .bool (getB v) ∧ (∀ x, o = some x → getB v = x) ∧ InB (ofB o) v := by
  cases b with
  | bool => obtain rfl : none = o := Option.some.inj h; exact ⟨inB_bool hv, fun _ h => no_some h, hv⟩
  | cst u => cases u with
    | bool x =>
      obtain rfl : some x = o := Option.some.inj h
      obtain ⟨rfl, hn⟩ := hv
      exact ⟨rfl, fun _ h => Option.some.inj h, rfl, hn⟩
    | _ => exact no_some h
  | _ => exact no_some h
theorem ofB_ne (o : Option Bool) : ofB o ≠ .any := by cases o with
  | none => exact bool_ne
  | some x => exact cst_ne
theorem or_snd {bx by_ : Bool} {o : Option Bool} {y : Option (Option Bool)} {b : B} (h : orB o y = some b) (hx : ∀ z, o = some z → bx = z) (hy : ∀ oy, y = some oy → InB (ofB oy) (.bool by_)) : InB b (.bool (bx || by_)) ∧ b ≠ .any ∧ (bx = false → ∃ oy, y = some oy) := by
  cases o with
  | none => exact ob_ex h fun oy e h => by obtain rfl := Option.some.inj h; exact ⟨trivial, bool_ne, fun _ => ⟨oy, e⟩⟩
  | some z =>
    obtain rfl := hx z rfl
    cases bx with
    | true => obtain rfl := Option.some.inj h; exact ⟨⟨rfl, fun x => by cases x⟩, cst_ne, fun h => no_ft h.symm⟩
    | false => exact ob_ex h fun oy e h => by obtain rfl := Option.some.inj h; exact ⟨hy oy e, ofB_ne _, fun _ => ⟨oy, e⟩⟩
theorem ofI_in : ∀ l : List V, InBl (l.map ofI) l
  | [] => trivial
  | v :: l => by
    refine ⟨?_, ofI_in l⟩
    cases v with
    | un => exact trivial
    | int n => exact ⟨Int.le_refl _, Int.le_refl _⟩
    | _ => exact ⟨rfl, fun x => by cases x⟩
theorem ofC_in {v : V} {b : B} (h : knw (ofC v) = some b) : InB b v ∧ v ≠ .un := by
  cases v with
  | un => first | exact no_some h | exact no_ft h | cases h
  | int n => cases h; exact ⟨⟨Int.le_refl _, Int.le_refl _⟩, fun x => by cases x⟩
  | tup l => cases h; exact ⟨ofI_in l, fun x => by cases x⟩
  | _ => cases h; exact ⟨⟨rfl, fun x => by cases x⟩, fun x => by cases x⟩
theorem attV_snd {v : V} {j : Nat} {K : V → Prop} (h : attV v j ≠ .un) (q : K (attV v j)) : attrQ v j K := by
  cases v with
  | inst C l =>
    show (match cTab.lookup C with | some fs => (match fs.idxOf? j with | some i => (match l[i]? with | some v => K v | none => False) | none => False) | none => False)
    have e : attV (.inst C l) j = (match cTab.lookup C with | some fs => (match fs.idxOf? j with | some i => (l[i]?).getD .un | none => .un) | none => .un) := rfl
    rw [e] at h q
    revert h q
    cases cTab.lookup C with
    | none => intro h; exact absurd rfl h
    | some fs =>
      dsimp only
      cases fs.idxOf? j with
      | none => intro h; exact absurd rfl h
      | some i =>
        dsimp only
        cases l[i]? with
        | none => intro h; exact absurd rfl h
        | some x => exact fun _ q => q
  | _ => exact absurd rfl h
structure PF.Ok (F : PF) (w : World) (k : Nat) : Prop where
  call : ∀ (j : Nat) (bl : List B) (b : B) (vs : List V), F.c j bl = some b → InBl bl vs → InB b (F.cv j vs) ∧ ∀ (μ : Mu) (Q : V → Mu → Prop), Q (F.cv j vs) μ → (match (gtL j).2.1 with | .raw f => CallOK w k f vs μ Q | _ => False)
  meth : ∀ (j : Nat) (x : B) (bl : List B) (b : B) (v : V) (vs : List V), F.m j (x :: bl) = some b → InB x v → InBl bl vs → InB b (F.mv j (v :: vs)) ∧ ∀ (μ : Mu) (Q : V → Mu → Prop), Q (F.mv j (v :: vs)) μ → methQ v j fun f => CallOK w k f (v :: vs) μ Q
noncomputable abbrev PVS (F : PF) (w : World) (k : Nat) (e : X) (b : B) (ρ : List V) : Prop := (InB b (pvV F e ρ) ∧ b ≠ .any) ∧ ∀ (μ : Mu) (Q : V → Mu → Prop), Q (pvV F e ρ) μ → wE w k e ρ μ Q
theorem knw_eq {x b : B} (h : knw x = some b) : x = b ∧ b ≠ .any := by
  cases x with
  | any => first | exact no_some h | exact no_ft h | cases h
  | _ => cases h; exact ⟨rfl, by intro x; cases x⟩
theorem methQ_imp {v : V} {j : Nat} {K K' : Value → Prop} (h : methQ v j K) (q : ∀ f, K f → K' f) : methQ v j K' := by
  cases v with
  | inst C l =>
    replace h : (match mTab.lookup (C, j) with | some f => K (.ref f) | none => False) := h
    show (match mTab.lookup (C, j) with | some f => K' (.ref f) | none => False)
    revert h
    cases mTab.lookup (C, j) with
    | none => exact id
    | some f => exact q _
  | int n =>
    replace h : if j = 26 then K (.builtin "int.to_bytes") else if j = 27 then K (.builtin "int.bit_length") else False := h
    show if j = 26 then K' (.builtin "int.to_bytes") else if j = 27 then K' (.builtin "int.bit_length") else False
    split at h
    · rename_i e; rw [if_pos e]; exact q _ h
    · rename_i e; rw [if_neg e]
      split at h
      · rename_i e; rw [if_pos e]; exact q _ h
      · exact h.elim
  | _ => exact h.elim
theorem pv_snd {F : PF} {w : World} {k : Nat} {β : List B} {ρ : List V} (hF : F.Ok w k) (hi : InBs β ρ) : ∀ {e : X} {b : B}, pvB F e β = some b → PVS F w k e b ρ
  | .var i, b, h => by
    obtain ⟨rfl, hne⟩ := knw_eq (show knw (bget β i) = some b from h)
    have hv := hi.2 i
    refine ⟨⟨hv, hne⟩, fun μ Q hq => ?_⟩
    have hu := inB_ne hv hne
    show (match lget ρ i with | .un => False | v => Q v μ)
    replace hq : Q (lget ρ i) μ := hq
    revert hu hq
    cases lget ρ i <;> first | exact fun hu _ => absurd rfl hu | exact fun _ q => q
  | .cint n, _, h => by obtain rfl := Option.some.inj h; exact ⟨⟨⟨Int.le_refl _, Int.le_refl _⟩, int_ne⟩, fun _ _ q => q⟩
  | .cnone, _, h => by obtain rfl := Option.some.inj h; exact ⟨⟨⟨rfl, fun x => by cases x⟩, cst_ne⟩, fun _ _ q => q⟩
  | .neg a, b, h => ob_ex (o := pvB F a β) h fun x ex h => by
    obtain ⟨hx, rfl⟩ := gd_ex h
    have g := pv_snd hF hi ex
    obtain ⟨n, hn⟩ := inB_isI hx g.1.1
    refine ⟨⟨trivial, num_ne⟩, fun μ Q hq => g.2 μ _ ?_⟩
    replace hq : Q (.int (-getI (pvV F a ρ))) μ := hq
    rw [hn] at hq ⊢; exact hq
  | .not a, b, h => ob_ex (o := pvB F a β) h fun x ex h => ob_ex h fun o eo h => by
    obtain rfl := Option.some.inj h
    have g := pv_snd hF hi ex
    obtain ⟨h1, h2, _⟩ := boB_snd eo g.1.1
    refine ⟨⟨?_, ofB_ne _⟩, fun μ Q hq => g.2 μ _ (by rw [h1]; exact hq)⟩
    cases o with
    | none => exact trivial
    | some z => exact ⟨congrArg (fun z => V.bool !z) (h2 z rfl), fun x => by cases x⟩
  | .cmp op x y, b, h => ob_ex (o := pvB F x β) h fun bx ex h => ob_ex (o := pvB F y β) h fun by_ ey h => by
    have gx := pv_snd hF hi ex
    have gy := pv_snd hF hi ey
    have q := cm_snd h gx.1.1 gy.1.1
    exact ⟨q.1, fun μ Q hq => gx.2 μ _ (gy.2 μ _ (q.2 _ hq))⟩
  | .cmp2 o1 o2 x y z, b, h => ob_ex (o := pvB F x β) h fun bx ex h => ob_ex (o := pvB F y β) h fun by_ ey h => ob_ex (o := pvB F z β) h fun bz ez h => by
    obtain ⟨hc, rfl⟩ := gd_ex h
    have gx := pv_snd hF hi ex
    have gy := pv_snd hF hi ey
    have gz := pv_snd hF hi ez
    obtain ⟨h1, h2⟩ := and_ex hc
    refine ⟨⟨trivial, bool_ne⟩, fun μ Q hq => gx.2 μ _ (gy.2 μ _ (cmpB_snd h1 gx.1.1 gy.1.1 _ ?_))⟩
    replace hq : Q (.bool (cmpV o1 (pvV F x ρ) (pvV F y ρ) && cmpV o2 (pvV F y ρ) (pvV F z ρ))) μ := hq
    cases hc1 : cmpV o1 (pvV F x ρ) (pvV F y ρ) with
    | false => rw [hc1, Bool.false_and] at hq; exact hq
    | true => rw [hc1, Bool.true_and] at hq; exact gz.2 μ _ (cmpB_snd h2 gy.1.1 gz.1.1 _ hq)
  | .bor x y, b, h => ob_ex (o := pvB F x β) h fun bx ex h => ob_ex h fun o eo h => by
    have gx := pv_snd hF hi ex
    obtain ⟨h1, h2, _⟩ := boB_snd eo gx.1.1
    have hy : ∀ oy, ob (pvB F y β) boB = some oy → pvV F y ρ = .bool (getB (pvV F y ρ)) ∧ InB (ofB oy) (pvV F y ρ) ∧ ∀ (μ : Mu) (Q : V → Mu → Prop), Q (pvV F y ρ) μ → wE w k y ρ μ Q := fun oy e => ob_ex e fun by_ ey e => by
      have gy := pv_snd hF hi ey
      have q := boB_snd e gy.1.1
      exact ⟨q.1, q.2.2, gy.2⟩
    have q := or_snd (bx := getB (pvV F x ρ)) (by_ := getB (pvV F y ρ)) h h2 fun oy e => (hy oy e).1 ▸ (hy oy e).2.1
    refine ⟨⟨q.1, q.2.1⟩, fun μ Q hq => gx.2 μ _ ?_⟩
    rw [h1]
    replace hq : Q (.bool (getB (pvV F x ρ) || getB (pvV F y ρ))) μ := hq
    cases hc : getB (pvV F x ρ) with
    | true => rw [hc] at hq; exact hq
    | false =>
      rw [hc] at hq
      obtain ⟨oy, e⟩ := q.2.2 hc
      exact (hy oy e).2.2 μ _ (by rw [(hy oy e).1]; exact hq)
  | .ife c x y, b, h => ob_ex (o := pvB F c β) h fun bc ec h => ob_ex h fun o eo h => by
    have gc := pv_snd hF hi ec
    obtain ⟨h1, h2, _⟩ := boB_snd eo gc.1.1
    rw [PVS, show pvV F (.ife c x y) ρ = bif getB (pvV F c ρ) then pvV F x ρ else pvV F y ρ from rfl]
    cases o with
    | some z => cases z with
      | true =>
        have g := pv_snd hF hi (e := x) h
        rw [h2 _ rfl]
        exact ⟨g.1, fun μ Q hq => gc.2 μ _ (by rw [h1, h2 _ rfl]; exact g.2 μ _ hq)⟩
      | false =>
        have g := pv_snd hF hi (e := y) h
        rw [h2 _ rfl]
        exact ⟨g.1, fun μ Q hq => gc.2 μ _ (by rw [h1, h2 _ rfl]; exact g.2 μ _ hq)⟩
    | none =>
      refine ob_ex (o := pvB F x β) h fun bx ex h => ob_ex (o := pvB F y β) h fun by_ ey h => ?_
      obtain rfl := Option.some.inj h
      have gx := pv_snd hF hi ex
      have gy := pv_snd hF hi ey
      have hv : ∀ v : V, v ≠ .un → InB .val v := fun v h => by cases v <;> first | exact absurd rfl h | trivial
      cases hc : getB (pvV F c ρ) with
      | true => exact ⟨⟨hv _ (inB_ne gx.1.1 gx.1.2), val_ne⟩, fun μ Q hq => gc.2 μ _ (by rw [h1, hc]; exact gx.2 μ _ hq)⟩
      | false => exact ⟨⟨hv _ (inB_ne gy.1.1 gy.1.2), val_ne⟩, fun μ Q hq => gc.2 μ _ (by rw [h1, hc]; exact gy.2 μ _ hq)⟩
  | .attr o j, b, h => ob_ex (o := pvB F o β) h fun x eo h => ob_ex h fun v ev h => by
    have g := pv_snd hF hi eo
    rw [csB_eq ev] at g
    obtain ⟨hb, hu⟩ := ofC_in h
    rw [PVS, show pvV F (.attr o j) ρ = attV v j from congrArg (attV · j) g.1.1.1]
    exact ⟨⟨hb, (knw_eq h).2⟩, fun μ Q hq => g.2 μ _ (by rw [g.1.1.1]; exact attV_snd (K := fun v => Q v μ) hu hq)⟩
  | .call j as, b, h => ob_ex (o := pvB F as β) h fun x ea h => ob_ex h fun l el h => ob_ex h fun b' hb' h => by
    obtain ⟨rfl, hne⟩ := knw_eq h
    have g := pv_snd hF hi ea
    rw [tpB_eq el] at g
    obtain ⟨vs, ev, hl⟩ := inB_tup g.1.1
    obtain ⟨hb, hp⟩ := hF.call _ _ _ _ hb' hl
    rw [PVS, show pvV F (.call j as) ρ = F.cv j vs by show (match pvV F as ρ with | .tup l => F.cv j l | _ => .un) = _; rw [ev]]
    refine ⟨⟨hb, hne⟩, fun μ Q hq => g.2 μ _ ?_⟩
    rw [ev]
    exact hp μ Q hq
  | .meth o j as, b, h => ob_ex (o := pvB F o β) h fun x eo h => ob_ex (o := pvB F as β) h fun y ea h => ob_ex h fun l el h => ob_ex h fun b' hb' h => by
    obtain ⟨rfl, hne⟩ := knw_eq h
    have go := pv_snd hF hi eo
    have g := pv_snd hF hi ea
    rw [tpB_eq el] at g
    obtain ⟨vs, ev, hl⟩ := inB_tup g.1.1
    obtain ⟨hb, hp⟩ := hF.meth _ _ _ _ _ _ hb' go.1.1 hl
    rw [PVS, show pvV F (.meth o j as) ρ = F.mv j (pvV F o ρ :: vs) by show (match pvV F as ρ with | .tup l => F.mv j (pvV F o ρ :: l) | _ => .un) = _; rw [ev]]
    refine ⟨⟨hb, hne⟩, fun μ Q hq => go.2 μ _ (methQ_imp (hp μ Q hq) fun f hf => g.2 μ _ ?_)⟩
    rw [ev]; exact hf
  | .bin op x y, b, h => ob_ex (o := pvB F x β) h fun bx ex h => ob_ex (o := pvB F y β) h fun by_ ey h => by
    have gx := pv_snd hF hi ex
    have gy := pv_snd hF hi ey
    obtain ⟨a, ea⟩ := inB_isI (opB_I h).1 gx.1.1
    obtain ⟨c, ec⟩ := inB_isI (opB_I h).2 gy.1.1
    have q := opB_snd h (ea ▸ gx.1.1) (ec ▸ gy.1.1)
    rw [PVS, show pvV F (.bin op x y) ρ = .int (opI op a c) by show V.int (opI op (getI (pvV F x ρ)) (getI (pvV F y ρ))) = _; rw [ea, ec]; rfl]
    refine ⟨q.1, fun μ Q hq => gx.2 μ _ (gy.2 μ _ ?_)⟩
    rw [ea, ec]
    exact q.2 (fun z => Q z μ) hq
  | .sub o i, b, h => ob_ex (o := pvB F o β) h fun x eo h => ob_ex h fun l el h => ob_ex (o := litOf i) h fun n ei h => ob_ex h fun n' en h2 => ob_ex h2 fun b' hb' h3 => by
    clear h h2
    obtain rfl := litOf_eq ei
    obtain ⟨hn, rfl⟩ := gd_ex en
    obtain ⟨rfl, hne⟩ := knw_eq h3
    have g := pv_snd hF hi eo
    rw [tpB_eq el] at g
    obtain ⟨vs, ev, hl⟩ := inB_tup g.1.1
    obtain ⟨v, hv, hb⟩ := inBl_get hl hb'
    have hn := and_ex hn
    rw [PVS, show pvV F (.sub o (.cint n)) ρ = v by
      show (match pvV F o ρ, litOf (X.cint n) with | .tup l, some n => (l[n.toNat]?).getD .un | _, _ => .un) = v
      rw [ev]; show (vs[n.toNat]?).getD .un = v; rw [hv]; rfl]
    refine ⟨⟨hb, hne⟩, fun μ Q hq => g.2 μ _ ?_⟩
    rw [ev]
    exact ⟨by rw [← inBl_len hl]; exact of_decide_eq_true hn.2, v, by unfold idx; rw [if_pos (of_decide_eq_true hn.1)]; exact hv, hq⟩
  | .tup as, b, h => pv_snd hF (e := as) hi h
  | .nil, _, h => by obtain rfl := Option.some.inj h; exact ⟨⟨trivial, tup_ne⟩, fun _ _ q => q⟩
  | .cons x as, b, h => ob_ex (o := pvB F x β) h fun b1 ex h => ob_ex (o := pvB F as β) h fun y ea h => ob_ex h fun l el h => by
    obtain rfl := Option.some.inj h
    have gx := pv_snd hF hi ex
    have g := pv_snd hF hi ea
    rw [tpB_eq el] at g
    obtain ⟨vs, ev, hl⟩ := inB_tup g.1.1
    rw [PVS, show pvV F (.cons x as) ρ = .tup (pvV F x ρ :: vs) by
      show (match pvV F as ρ with | .tup l => V.tup (pvV F x ρ :: l) | _ => .un) = _
      rw [ev]]
    refine ⟨⟨⟨gx.1.1, hl⟩, tup_ne⟩, fun μ Q hq => gx.2 μ _ (g.2 μ _ ?_)⟩
    rw [ev]; exact hq
  | .lst _, _, h => no_some h
  | .own _, _, h => no_some h
  | .dct, _, h => no_some h
  | .map _ _, _, h => no_some h
  | .flt _ _, _, h => no_some h
  | .slb _ _, _, h => no_some h
  | .slt _ _, _, h => no_some h
  | .frb _, _, h => no_some h
  | .band _ _, _, h => no_some h
  | .glb _, _, h => no_some h
  | .cbytes _, _, h => no_some h
  | .cbool _, _, h => no_some h
  | .cstr _, _, h => no_some h
theorem bset_len : ∀ (β : List B) (i : Nat) (b : B), (bset β i b).length = β.length
  | [], _, _ => rfl
  | _ :: _, 0, _ => rfl
  | _ :: l, i + 1, b => congrArg (· + 1) (bset_len l i b)
theorem lset_lenE : ∀ (ρ : List V) (i : Nat) (b : V), (lset ρ i b).length = ρ.length
  | [], _, _ => rfl
  | _ :: _, 0, _ => rfl
  | _ :: l, i + 1, b => congrArg (· + 1) (lset_lenE l i b)
theorem inBs_set : ∀ {β : List B} {ρ : List V} {i : Nat} {b : B} {v : V}, InBs β ρ → InB b v → InBs (bset β i b) (lset ρ i v) := by
  intro β ρ i b v h hb
  refine ⟨by rw [bset_len, lset_lenE]; exact h.1, ?_⟩
  have key : ∀ (β : List B) (ρ : List V) (i : Nat), β.length ≤ ρ.length → (∀ j, InB (bget β j) (lget ρ j)) → ∀ j, InB (bget (bset β i b) j) (lget (lset ρ i v) j) := by
    intro β
    induction β with
    | nil => intro ρ i _ _ j; trivial
    | cons b0 β ih =>
      intro ρ i hl h j
      cases ρ with
      | nil => simp at hl
      | cons v0 ρ =>
        cases i with
        | zero => cases j with
          | zero => exact hb
          | succ j => exact h (j + 1)
        | succ i => cases j with
          | zero => exact h 0
          | succ j => exact ih ρ i (by simpa using hl) (fun j => h (j + 1)) j
  exact key β ρ i h.1 h.2
noncomputable def lsetsA : List Nat → List V → List V → List V
  | [], _, ρ => ρ
  | _ :: _, [], ρ => ρ
  | i :: is, v :: vs, ρ => lsetsA is vs (lset ρ i v)
noncomputable def bsetsA : List Nat → List B → List B → List B
  | [], _, β => β
  | _ :: _, [], β => β
  | i :: is, b :: bs, β => bsetsA is bs (bset β i b)
noncomputable abbrev lsets (ρ : List V) (is : List Nat) (vs : List V) : List V := lsetsA is vs ρ
noncomputable abbrev bsets (β : List B) (is : List Nat) (bs : List B) : List B := bsetsA is bs β
theorem asgQ_of : ∀ {is : List Nat} {vs ρ : List V} {K : List V → Prop}, is.length = vs.length → K (lsets ρ is vs) → asgQ is vs ρ K
  | [], [], _, _, _, h => h
  | _ :: is, _ :: vs, _, _, hl, h => asgQ_of (is := is) (vs := vs) (Nat.succ.inj hl) h
  | [], _ :: _, _, _, hl, _ => by cases hl
  | _ :: _, [], _, _, hl, _ => by cases hl
theorem inBs_sets : ∀ {is : List Nat} {bs : List B} {vs : List V} {β : List B} {ρ : List V}, InBs β ρ → InBl bs vs → InBs (bsets β is bs) (lsets ρ is vs)
  | [], _, _, _, _, h, _ => h
  | _ :: _, [], [], _, _, h, _ => h
  | _ :: is, _ :: bs, _ :: vs, _, _, h, hl => inBs_sets (is := is) (bs := bs) (vs := vs) (inBs_set h hl.1) hl.2
  | _ :: _, [], _ :: _, _, _, _, hl => hl.elim
  | _ :: _, _ :: _, [], _, _, _, hl => hl.elim
theorem inBl_rev {bs : List B} {vs : List V} (h : InBl bs vs) : InBl bs.reverse vs.reverse := by
  have app : ∀ (a b : List B) (u v : List V), InBl a u → InBl b v → InBl (a ++ b) (u ++ v) := by
    intro a
    induction a with
    | nil => intro b u v h1 h2; cases u with
      | nil => exact h2
      | cons _ _ => exact h1.elim
    | cons x a ih => intro b u v h1 h2; cases u with
      | nil => exact h1.elim
      | cons y u => exact ⟨h1.1, ih b u v h1.2 h2⟩
  induction bs generalizing vs with
  | nil => cases vs with
    | nil => exact trivial
    | cons _ _ => exact h.elim
  | cons b bs ih => cases vs with
    | nil => exact h.elim
    | cons v vs => rw [List.reverse_cons, List.reverse_cons]; exact app _ _ _ _ (ih h.2) ⟨h.1, trivial⟩
noncomputable def tupB (b : Option B) (n : Nat) : Option (List B) := ob b fun x => ob (tpB x) fun l => gd (n == l.length) l
noncomputable def ifT (o : Option Bool) (p q : Bool) : Bool := match o with
  | none => p && q
  | some z => (match z with | true => p | false => q)
/-- a body that is a plain function: the look at what is known, the answer -/
noncomputable def okT (F : PF) : T → List B → (List B → Bool) → Bool
  | .done, β, K => K β
  | .asg i e t, β, K => (pvB F e β).any fun b => okT F t (bset β i b) K
  | .asgT sw is e t, β, K => (tupB (pvB F e β) is.length).any fun bs => okT F t (bif sw then bsets β is.reverse bs.reverse else bsets β is bs) K
  | .ret e, β, _ => (pvB F e β).isSome
  | .ife c a b t, β, K => (pvB F c β).any fun x => (boB x).any fun o => ifT o (okT F a β fun β => okT F t β K) (okT F b β fun β => okT F t β K)
  | _, _, _ => false
noncomputable def vT {α : Type} (F : PF) (r : V → α) : T → List V → (List V → α) → α
  | .done, ρ, K => K ρ
  | .asg i e t, ρ, K => vT F r t (lset ρ i (pvV F e ρ)) K
  | .asgT sw is e t, ρ, K => vT F r t (bif sw then lsets ρ is.reverse (getT (pvV F e ρ)).reverse else lsets ρ is (getT (pvV F e ρ))) K
  | .ret e, ρ, _ => r (pvV F e ρ)
  | .ife c a b t, ρ, K => bif getB (pvV F c ρ) then vT F r a ρ (fun ρ => vT F r t ρ K) else vT F r b ρ fun ρ => vT F r t ρ K
  | _, _, _ => r .un
theorem pure_snd {α : Type} {F : PF} {w : World} {k : Nat} {μ : Mu} {P : α → Prop} {r : V → α} (hF : F.Ok w k) : ∀ {t : T} {β : List B} {ρ : List V} {Kb : List B → Bool} {K : List V → α} {R : PS}, okT F t β Kb = true → InBs β ρ → (∀ v ρ', P (r v) → R (.ret v) ρ' μ) →
    (∀ β' ρ', Kb β' = true → InBs β' ρ' → P (K ρ') → R .next ρ' μ) → P (vT F r t ρ K) → wS w k t ρ μ R
  | .done, β, ρ, Kb, K, R, hc, hi, _, h2, hp => h2 β ρ hc hi hp
  | .ret e, β, ρ, Kb, K, R, hc, hi, h1, _, hp => by
    obtain ⟨b, hb⟩ := Option.isSome_iff_exists.mp (show (pvB F e β).isSome = true from hc)
    exact (pv_snd hF hi hb).2 μ _ (h1 _ _ hp)
  | .asg i e t, β, ρ, Kb, K, R, hc, hi, h1, h2, hp => any_k (o := pvB F e β) hc fun b hb hc => by
    have g := pv_snd hF hi hb
    exact g.2 μ _ (pure_snd hF hc (inBs_set hi g.1.1) h1 h2 hp)
  | .asgT sw is e t, β, ρ, Kb, K, R, hc, hi, h1, h2, hp => any_k (o := tupB (pvB F e β) is.length) hc fun bs hb hc => ob_ex (o := pvB F e β) hb fun x ex hb => ob_ex hb fun l el hb => by
    obtain ⟨hlen, rfl⟩ := gd_ex hb
    have g := pv_snd hF hi ex
    rw [tpB_eq el] at g
    obtain ⟨vs, ev, hv⟩ := inB_tup g.1.1
    have hvl : is.length = vs.length := (eq_of_beq hlen).trans (inBl_len hv)
    replace hp : P (vT F r t (bif sw then lsets ρ is.reverse (getT (pvV F e ρ)).reverse else lsets ρ is (getT (pvV F e ρ))) K) := hp
    rw [show getT (pvV F e ρ) = vs by rw [ev]; rfl] at hp
    refine g.2 μ _ ?_
    rw [ev]
    cases sw with
    | false => exact asgQ_of hvl (pure_snd hF hc (inBs_sets hi hv) h1 h2 hp)
    | true => exact asgQ_of (by rw [List.length_reverse, List.length_reverse, hvl]) (pure_snd hF hc (inBs_sets hi (inBl_rev hv)) h1 h2 hp)
  | .ife c a b t, β, ρ, Kb, K, R, hc, hi, h1, h2, hp => any_k (o := pvB F c β) hc fun bc ec hc => any_k hc fun o eo hc => by
    replace hp : P (bif getB (pvV F c ρ) then vT F r a ρ (fun ρ => vT F r t ρ K) else vT F r b ρ fun ρ => vT F r t ρ K) := hp
    have g := pv_snd hF hi ec
    obtain ⟨e1, e2, _⟩ := boB_snd eo g.1.1
    refine g.2 μ _ ?_
    rw [e1]
    have ga := fun (c2 : okT F a β (fun β => okT F t β Kb) = true) (hp : P (vT F r a ρ fun ρ => vT F r t ρ K)) => pure_snd (R := thn (fun ρ' μ' => wS w k t ρ' μ' R) R) hF c2 hi h1 (fun β' ρ' k1 k2 k3 => pure_snd hF k1 k2 h1 h2 k3) hp
    have gb := fun (c2 : okT F b β (fun β => okT F t β Kb) = true) (hp : P (vT F r b ρ fun ρ => vT F r t ρ K)) => pure_snd (R := thn (fun ρ' μ' => wS w k t ρ' μ' R) R) hF c2 hi h1 (fun β' ρ' k1 k2 k3 => pure_snd hF k1 k2 h1 h2 k3) hp
    cases o with
    | some z =>
      rw [e2 _ rfl] at hp ⊢
      cases z with
      | true => exact ga hc hp
      | false => exact gb hc hp
    | none =>
      obtain ⟨ha, hb⟩ := and_ex hc
      cases hg : getB (pvV F c ρ) with
      | true => rw [hg] at hp; exact ga ha hp
      | false => rw [hg] at hp; exact gb hb hp
  | .expr _ _, _, _, _, _, _, hc, _, _, _, _ => no_ft hc
  | .dead, _, _, _, _, _, hc, _, _, _, _ => no_ft hc
  | .whl _ _ _, _, _, _, _, _, hc, _, _, _, _ => no_ft hc
  | .forV _ _ _ _, _, _, _, _, _, hc, _, _, _, _ => no_ft hc
  | .forR _ _ _ _ _, _, _, _, _, _, hc, _, _, _, _ => no_ft hc
  | .asgN _ _ _ _, _, _, _, _, _, hc, _, _, _, _ => no_ft hc
  | .retF _ _, _, _, _, _, _, hc, _, _, _, _ => no_ft hc
  | .exc, _, _, _, _, _, hc, _, _, _, _ => no_ft hc
  | .setI _ _ _ _, _, _, _, _, _, hc, _, _, _, _ => no_ft hc
  | .setII _ _ _ _ _, _, _, _, _, _, hc, _, _, _, _ => no_ft hc
  | .app _ _ _, _, _, _, _, _, hc, _, _, _, _ => no_ft hc
  | .setA _ _ _ _, _, _, _, _, _, hc, _, _, _, _ => no_ft hc
theorem inBs_of : ∀ {β : List B} {ρ : List V}, InBl β ρ → InBs β ρ
  | [], _, _ => ⟨Nat.zero_le _, fun _ => trivial⟩
  | _ :: _, [], h => h.elim
  | _ :: β, _ :: ρ, h => by
    have ih := inBs_of (β := β) (ρ := ρ) h.2
    refine ⟨Nat.succ_le_succ ih.1, fun i => ?_⟩
    cases i with
    | zero => exact h.1
    | succ i => exact ih.2 i
theorem inB_unk : ∀ {β : List B} {args : List V} {n : Nat}, InBl β args → InBl (β ++ List.replicate n .any) (args ++ List.replicate n .un)
  | [], [], 0, _ => trivial
  | [], [], n + 1, h => ⟨trivial, inB_unk (β := []) (args := []) (n := n) h⟩
  | _ :: β, _ :: args, _, h => ⟨h.1, inB_unk (β := β) (args := args) h.2⟩
  | [], _ :: _, _, h => h.elim
  | _ :: _, [], _, h => h.elim
/-- a def that is a plain function -/
theorem fn_pure {F : PF} {w : World} {k : Nat} {f : Addr} {n : Nat} {ns : List Str} {t : T} {args : List V} {μ : Mu} {Q : V → Mu → Prop} (hF : F.Ok w k) (hk : k < 60) (β : List B) (h : fnChk (Mine.hd.heap_1 w.params) f n ns t = true) (hn : args.length = n)
    (hok : okT F t (β ++ List.replicate (ns.length - n) .any) (fun _ => true) = true) (hb : InBl β args)
    (hq : Q (vT F id t (args ++ List.replicate (ns.length - n) .un) fun _ => .none) μ) : CallOK w (k + 1) (.ref f) args μ Q :=
  fn_ok h hn hk (pure_snd (P := fun v => Q v μ) (r := id) hF hok (inBs_of (inB_unk hb)) (fun _ _ h => h) (fun _ _ _ _ h => h) hq)
/-- a test whose second part is empty -/
theorem ifd_pv {F : PF} {w : World} {k : Nat} {μ : Mu} {R : PS} {c : X} {a t : T} {β : List B} {ρ : List V} (hF : F.Ok w k) (h : InBs β ρ) (hb : (ob (pvB F c β) boB).isSome = true)
    (q1 : getB (pvV F c ρ) = true → wS w k a ρ μ (thn (fun ρ' μ' => wS w k t ρ' μ' R) R)) (q2 : getB (pvV F c ρ) = false → wS w k t ρ μ R) : wS w k (.ife c a .done t) ρ μ R := by
  obtain ⟨o, eo⟩ := Option.isSome_iff_exists.mp hb
  refine ob_ex eo fun bc ec eo => ?_
  have g := pv_snd hF h ec
  have e := boB_snd eo g.1.1
  refine g.2 μ _ ?_
  rw [e.1]
  cases hc : getB (pvV F c ρ) with
  | true => exact q1 hc
  | false => exact q2 hc
mutual
noncomputable def eqV : V → V → Bool
  | .none, b => (match b with | .none => true | _ => false)
  | .int a, b => (match b with | .int c => a == c | _ => false)
  | .tup a, b => (match b with | .tup c => eqVs a c | _ => false)
  | .inst C a, b => (match b with | .inst D c => C == D && eqVs a c | _ => false)
  | .raw a, b => (match b with | .raw c => a == c | _ => false)
  | _, _ => false
noncomputable def eqVs : List V → List V → Bool
  | [], m => m.isEmpty
  | a :: l, m => (match m with | b :: m => eqV a b && eqVs l m | [] => false)
end
mutual
theorem eqV_eq : ∀ {a b : V}, eqV a b = true → a = b
  | .none, b, h => by cases b with | none => rfl | _ => exact absurd h Bool.false_ne_true
  | .int a, b, h => by cases b with | int c => exact congrArg V.int (eq_of_beq h) | _ => exact absurd h Bool.false_ne_true
  | .tup a, b, h => by cases b with | tup c => exact congrArg V.tup (eqVs_eq h) | _ => exact absurd h Bool.false_ne_true
  | .inst C a, b, h => by
    cases b with
    | inst D c =>
      have h := Bool.and_eq_true_iff.mp (show (C == D && eqVs a c) = true from h)
      rw [eq_of_beq h.1, eqVs_eq h.2]
    | _ => exact absurd h Bool.false_ne_true
  | .raw a, b, h => by cases b with | raw c => exact congrArg V.raw (eq_of_beq h) | _ => exact absurd h Bool.false_ne_true
  | .un, b, h => absurd h Bool.false_ne_true
  | .bool _, b, h => absurd h Bool.false_ne_true
  | .bytes _, b, h => absurd h Bool.false_ne_true
  | .str _, b, h => absurd h Bool.false_ne_true
  | .list _, b, h => absurd h Bool.false_ne_true
theorem eqVs_eq : ∀ {a b : List V}, eqVs a b = true → a = b
  | [], m, h => by cases m with | nil => rfl | cons _ _ => exact absurd h Bool.false_ne_true
  | a :: l, m, h => by
    cases m with
    | nil => exact absurd h Bool.false_ne_true
    | cons b m =>
      have h := Bool.and_eq_true_iff.mp (show (eqV a b && eqVs l m) = true from h)
      rw [eqV_eq h.1, eqVs_eq h.2]
end
mutual
noncomputable def subsB : B → B → Bool
  | .int l h, b => (match b with | .int l2 h2 => decide (l2 ≤ l) && decide (h ≤ h2) | .num => true | .any => true | _ => false)
  | .num, b => (match b with | .num => true | .any => true | _ => false)
  | .bool, b => (match b with | .bool => true | .any => true | _ => false)
  | .val, b => (match b with | .val => true | .any => true | _ => false)
  | .any, b => (match b with | .any => true | _ => false)
  | .tup l, b => (match b with | .tup m => subsBl l m | .any => true | _ => false)
  | .cst u, b => (match b with | .cst v => eqV u v | .any => true | _ => false)
noncomputable def subsBl : List B → List B → Bool
  | [], m => m.isEmpty
  | a :: l, m => (match m with | b :: m => subsB a b && subsBl l m | [] => false)
end
mutual
theorem subsB_snd : ∀ {a b : B} {v : V}, subsB a b = true → InB a v → InB b v
  | .int l h, b, v, e, hi => by
    obtain ⟨n, rfl⟩ := inB_isI rfl hi
    cases b with
    | int l2 h2 =>
      have e := Bool.and_eq_true_iff.mp (show (decide (l2 ≤ l) && decide (h ≤ h2)) = true from e)
      exact ⟨Int.le_trans (of_decide_eq_true e.1) hi.1, Int.le_trans hi.2 (of_decide_eq_true e.2)⟩
    | num => exact trivial
    | any => exact trivial
    | _ => exact absurd e Bool.false_ne_true
  | .num, b, v, e, hi => by cases b <;> first | exact hi | exact trivial | exact absurd e Bool.false_ne_true
  | .bool, b, v, e, hi => by cases b <;> first | exact hi | exact trivial | exact absurd e Bool.false_ne_true
  | .val, b, v, e, hi => by cases b <;> first | exact hi | exact trivial | exact absurd e Bool.false_ne_true
  | .any, b, v, e, hi => by cases b <;> first | exact trivial | exact absurd e Bool.false_ne_true
  | .tup l, b, v, e, hi => by
    obtain ⟨vs, rfl, hl⟩ := inB_tup hi
    cases b with
    | tup m => exact subsBl_snd (show subsBl l m = true from e) hl
    | any => exact trivial
    | _ => exact absurd e Bool.false_ne_true
  | .cst u, b, v, e, hi => by
    cases b with
    | cst w => rw [← eqV_eq (show eqV u w = true from e)]; exact hi
    | any => exact trivial
    | _ => exact absurd e Bool.false_ne_true
theorem subsBl_snd : ∀ {l m : List B} {vs : List V}, subsBl l m = true → InBl l vs → InBl m vs
  | [], m, vs, e, hi => by
    cases m with
    | nil => exact hi
    | cons _ _ => exact absurd e Bool.false_ne_true
  | a :: l, m, vs, e, hi => by
    cases m with
    | nil => exact absurd e Bool.false_ne_true
    | cons b m =>
      cases vs with
      | nil => exact hi.elim
      | cons v vs =>
        have e := Bool.and_eq_true_iff.mp (show (subsB a b && subsBl l m) = true from e)
        exact ⟨subsB_snd e.1 hi.1, subsBl_snd e.2 hi.2⟩
end
/-- what is asked of the arguments, what is known of the answer -/
noncomputable def asks (want : List B) (res : B) (bl : List B) : Option B := if subsBl bl want then some res else none
noncomputable def PF.addC (F : PF) (j : Nat) (want : List B) (res : B) (fv : List V → V) : PF :=
  { F with c := fun i => if i = j then asks want res else F.c i, cv := fun i => if i = j then fv else F.cv i }
noncomputable def PF.addM (F : PF) (j : Nat) (want : List B) (res : B) (fv : List V → V) : PF :=
  { F with m := fun i => if i = j then asks want res else F.m i, mv := fun i => if i = j then fv else F.mv i }
noncomputable def PF.nil : PF := ⟨fun _ _ => none, fun _ _ => .un, fun _ _ => none, fun _ _ => .un⟩
/-- the contract of a plain def -/
noncomputable def IsP (w : World) (k : Nat) (f : Value) (want : List B) (res : B) (fv : List V → V) : Prop :=
  ∀ (vs : List V), InBl want vs → InB res (fv vs) ∧ ∀ (μ : Mu) (Q : V → Mu → Prop), Q (fv vs) μ → CallOK w k f vs μ Q
theorem PF.nil_ok {w : World} {k : Nat} : PF.nil.Ok w k := ⟨fun _ _ _ _ h => (by cases h), fun _ _ _ _ _ _ h => (by cases h)⟩
theorem asks_eq {want bl : List B} {res b : B} (h : asks want res bl = some b) : subsBl bl want = true ∧ res = b := by
  unfold asks at h; split at h
  · rename_i e; cases h; exact ⟨e, rfl⟩
  · first | exact no_some h | exact no_ft h | cases h
theorem PF.addC_ok {F : PF} {w : World} {k j : Nat} {want : List B} {res : B} {fv : List V → V} {f : Value} (hF : F.Ok w k) (hj : (gtL j).2.1 = .raw f) (h : IsP w k f want res fv) : (F.addC j want res fv).Ok w k := by
  refine ⟨fun i bl b vs e hi => ?_, hF.meth⟩
  by_cases hij : i = j
  · subst hij
    have e' : asks want res bl = some b := by rw [← e]; exact (congrFun (if_pos rfl) bl).symm
    obtain ⟨e1, rfl⟩ := asks_eq e'
    have hv : (F.addC i want res fv).cv i = fv := if_pos rfl
    rw [hv]
    obtain ⟨h1, h2⟩ := h vs (subsBl_snd e1 hi)
    refine ⟨h1, fun μ Q hq => ?_⟩
    rw [hj]; exact h2 μ Q hq
  · have e' : F.c i bl = some b := by rw [← e]; exact (congrFun (if_neg hij) bl).symm
    have hv : (F.addC j want res fv).cv i = F.cv i := if_neg hij
    rw [hv]; exact hF.call i bl b vs e' hi
theorem PF.addM_ok {F : PF} {w : World} {k j : Nat} {want : List B} {res : B} {fv : List V → V} {C : Addr} {l : List V} {f : Addr} (hF : F.Ok w k) (hj : mTab.lookup (C, j) = some f) (h : IsP w k (.ref f) (.cst (.inst C l) :: want) res fv) : (F.addM j (.cst (.inst C l) :: want) res fv).Ok w k := by
  refine ⟨hF.call, fun i x bl b v vs e hx hi => ?_⟩
  by_cases hij : i = j
  · subst hij
    have e' : asks (.cst (.inst C l) :: want) res (x :: bl) = some b := by rw [← e]; exact (congrFun (if_pos rfl) (x :: bl)).symm
    obtain ⟨e1, rfl⟩ := asks_eq e'
    have hv : (F.addM i (.cst (.inst C l) :: want) res fv).mv i = fv := if_pos rfl
    rw [hv]
    have hw : InBl (.cst (.inst C l) :: want) (v :: vs) := subsBl_snd e1 ⟨hx, hi⟩
    obtain ⟨h1, h2⟩ := h (v :: vs) hw
    refine ⟨h1, fun μ Q hq => ?_⟩
    have hvv : v = .inst C l := hw.1.1
    have h3 := h2 μ Q hq
    rw [hvv] at h3 ⊢
    show (match mTab.lookup (C, i) with | some f => CallOK w k (.ref f) (.inst C l :: vs) μ Q | none => False)
    rw [hj]; exact h3
  · have e' : F.m i (x :: bl) = some b := by rw [← e]; exact (congrFun (if_neg hij) (x :: bl)).symm
    have hv : (F.addM j (.cst (.inst C l) :: want) res fv).mv i = F.mv i := if_neg hij
    rw [hv]; exact hF.meth i x bl b v vs e' hx hi
theorem PF.Ok.mono {F : PF} {w : World} {k k' : Nat} (h : F.Ok w k) (hk : k ≤ k') : F.Ok w k' := by
  refine ⟨fun j bl b vs e hi => ?_, fun j x bl b v vs e hx hi => ?_⟩
  · obtain ⟨h1, h2⟩ := h.call j bl b vs e hi
    refine ⟨h1, fun μ Q hq => ?_⟩
    have h3 := h2 μ Q hq
    revert h3
    cases (gtL j).2.1 <;> first | exact id | exact fun h => h.mono hk
  · obtain ⟨h1, h2⟩ := h.meth j x bl b v vs e hx hi
    exact ⟨h1, fun μ Q hq => methQ_imp (h2 μ Q hq) fun f hf => hf.mono hk⟩
theorem IsP.mono {w : World} {k k' : Nat} {f : Value} {want : List B} {res : B} {fv : List V → V} (h : IsP w k f want res fv) (hk : k ≤ k') : IsP w k' f want res fv :=
  fun vs hi => ⟨(h vs hi).1, fun μ Q hq => ((h vs hi).2 μ Q hq).mono hk⟩
theorem isP_of {F : PF} {w : World} {k : Nat} {f : Addr} {ns : List Str} {t : T} {want : List B} {res : B} {fv : List V → V} (hF : F.Ok w k) (hk : k < 60) (h : fnChk (Mine.hd.heap_1 w.params) f want.length ns t = true)
    (hok : okT F t (want ++ List.replicate (ns.length - want.length) .any) (fun _ => true) = true)
    (hv : ∀ vs, InBl want vs → InB res (fv vs) ∧ vT F id t (vs ++ List.replicate (ns.length - want.length) .un) (fun _ => .none) = fv vs) : IsP w (k + 1) (.ref f) want res fv :=
  fun vs hi => ⟨(hv vs hi).1, fun μ Q hq => fn_pure hF hk want h (inBl_len hi).symm hok hi (by rw [(hv vs hi).2]; exact hq)⟩
noncomputable def T3V (q : Int × Int × Int) : V := .tup [.int q.1, .int q.2.1, .int q.2.2]
noncomputable def T2V (p : Option (Int × Int)) : V := match p with
  | none => .none
  | some q => .tup [.int q.1, .int q.2]
noncomputable def CV : V := .inst 194 [.int 67, .int 7, .tup [.int 2, .int 22], .int 79]
noncomputable def wDbl (q : Int × Int × Int) : Int × Int × Int :=
  if q.2.1 = 0 ∨ q.2.2 = 0 then (1, 1, 0) else
  let square := (q.2.1 * q.2.1).fmod 67
  let middle := (4 * q.1 * square).fmod 67
  let slope := (3 * q.1 * q.1).fmod 67
  let far := (slope * slope - 2 * middle).fmod 67
  (far, (slope * (middle - far) - 8 * square * square).fmod 67, (2 * q.2.1 * q.2.2).fmod 67)
noncomputable def wAdd (q r : Int × Int × Int) : Int × Int × Int :=
  if q.2.2 = 0 then r else if r.2.2 = 0 then q else
  let left := (q.1 * r.2.2 * r.2.2).fmod 67
  let right := (r.1 * q.2.2 * q.2.2).fmod 67
  let low := (q.2.1 * r.2.2 * r.2.2 * r.2.2).fmod 67
  let high := (r.2.1 * q.2.2 * q.2.2 * q.2.2).fmod 67
  if left = right then (if low = high then wDbl q else (1, 1, 0)) else
  let step := right - left
  let rise := high - low
  let square := (step * step).fmod 67
  let cube := (step * square).fmod 67
  let middle := (left * square).fmod 67
  let far := (rise * rise - cube - 2 * middle).fmod 67
  (far, (rise * (middle - far) - low * cube).fmod 67, (step * q.2.2 * r.2.2).fmod 67)
noncomputable def narrow (q : Int × Int × Int) : Option (Int × Int) :=
  if q.2.2 = 0 then none else
  let back := powI q.2.2 (67 - 2) 67
  let square := (back * back).fmod 67
  some ((q.1 * square).fmod 67, (q.2.1 * square * back).fmod 67)
noncomputable def aDbl (p : Int × Int) : Option (Int × Int) :=
  if p.2 = 0 then none else
  let slope := 3 * p.1 * p.1 * powI (2 * p.2) (67 - 2) 67
  let far := (slope * slope - 2 * p.1).fmod 67
  some (far, (slope * (p.1 - far) - p.2).fmod 67)
noncomputable abbrev bF : B := .int 0 66
noncomputable abbrev bT : B := .tup [bF, bF, bF]
noncomputable abbrev b2 : B := .tup [bF, bF]
noncomputable abbrev bP : B := .int 67 67
noncomputable def g3 (v : V) : Int × Int × Int := match v with
  | .tup [.int a, .int b, .int c] => (a, b, c)
  | _ => (0, 0, 0)
noncomputable def ar0 (vs : List V) : V := vs.getD 0 .un
noncomputable def ar1 (vs : List V) : V := vs.getD 1 .un
noncomputable def ar2 (vs : List V) : V := vs.getD 2 .un
noncomputable def powW : List V → V
  | [.int a, .int b, .int c] => .int (powI a b c)
  | _ => .un
theorem fm {n : Int} (x : Int) (h : 0 < n) : 0 ≤ x.fmod n ∧ x.fmod n ≤ n - 1 := ⟨Int.fmod_nonneg_of_pos x h, Int.le_sub_one_of_lt (Int.fmod_lt_of_pos x h)⟩
theorem bT_in {v : V} (h : InB bT v) : ∃ q, v = T3V q := by
  obtain ⟨l, rfl, hl⟩ := inB_tup h
  match l, hl with
  | [a, b, c], ⟨ha, hb, hc, _⟩ =>
    obtain ⟨x, rfl⟩ := inB_isI rfl ha
    obtain ⟨y, rfl⟩ := inB_isI rfl hb
    obtain ⟨z, rfl⟩ := inB_isI rfl hc
    exact ⟨(x, y, z), rfl⟩
theorem bP_in {n : Int} {v : V} (h : InB (.int n n) v) : v = .int n := by
  obtain ⟨x, rfl⟩ := inB_isI rfl h
  rw [Int.le_antisymm h.2 h.1]
theorem one_in : InB bT (T3V (1, 1, 0)) := ⟨⟨by decide, by decide⟩, ⟨by decide, by decide⟩, ⟨by decide, by decide⟩, trivial⟩
theorem wDbl_in (q : Int × Int × Int) : InB bT (T3V (wDbl q)) := by
  unfold wDbl; split
  · exact one_in
  · exact ⟨fm _ (by decide), fm _ (by decide), fm _ (by decide), trivial⟩
theorem wAdd_in {q r : Int × Int × Int} (hq : InB bT (T3V q)) (hr : InB bT (T3V r)) : InB bT (T3V (wAdd q r)) := by
  unfold wAdd; split
  · exact hr
  · split
    · exact hq
    · dsimp only; split
      · split
        · exact wDbl_in q
        · exact one_in
      · exact ⟨fm _ (by decide), fm _ (by decide), fm _ (by decide), trivial⟩
theorem bif_t {α : Type} {c : Bool} {a b : α} (h : c = true) : (bif c then a else b) = a := by rw [h]; rfl
theorem bif_f {α : Type} {c : Bool} {a b : α} (h : c = false) : (bif c then a else b) = b := by rw [h]; rfl
theorem dor {p q : Prop} [Decidable p] [Decidable q] (h : p ∨ q) : (decide p || decide q) = true := by simpa using h
theorem dnor {p q : Prop} [Decidable p] [Decidable q] (h : ¬ (p ∨ q)) : (decide p || decide q) = false := by simpa using h
/-- pow alone -/
noncomputable def F1 : PF := PF.nil.addC 52 [.num, .int 0 1000000, .int 2 1000000] (.int 0 1000000) powW
theorem pow_isP {w : World} {k : Nat} : IsP w k (.builtin "pow") [.num, .int 0 1000000, .int 2 1000000] (.int 0 1000000) powW := by
  intro vs hi
  match vs, hi with
  | [a, b, c], ⟨ha, hb, hc, _⟩ =>
    obtain ⟨x, rfl⟩ := inB_isI rfl ha
    obtain ⟨y, rfl⟩ := inB_isI rfl hb
    obtain ⟨z, rfl⟩ := inB_isI rfl hc
    have hp := powI_in (b := x) (e := y) hc.1
    exact ⟨⟨hp.1, Int.le_trans (Int.le_of_lt hp.2) hc.2⟩, fun μ Q hq => pow_ok hb.1 hc.1 hq⟩
theorem F1_ok {w : World} {k : Nat} : F1.Ok w k := PF.addC_ok PF.nil_ok rfl pow_isP
theorem bif_or {α : Type} {p q : Prop} [Decidable p] [Decidable q] {a b : α} : (bif decide p || decide q then a else b) = if p ∨ q then a else b := by
  by_cases h : p ∨ q
  · rw [dor h, if_pos h]; rfl
  · rw [dnor h, if_neg h]; rfl
theorem bif_d {α : Type} {p : Prop} [Decidable p] {a b : α} : (bif decide p then a else b) = if p then a else b := by
  by_cases h : p
  · rw [decide_eq_true h, if_pos h]; rfl
  · rw [decide_eq_false h, if_neg h]; rfl
theorem ite_app {α β : Type} {p : Prop} [Decidable p] {a b : α} (f : α → β) : f (if p then a else b) = if p then f a else f b := by split <;> rfl
noncomputable def wDblV (x y z : Int) : V := bif decide (y = 0) || decide (z = 0) then T3V (1, 1, 0) else
  let square := (y * y).fmod 67
  let middle := (4 * x * square).fmod 67
  let slope := (3 * x * x).fmod 67
  let far := (slope * slope - 2 * middle).fmod 67
  T3V (far, (slope * (middle - far) - 8 * square * square).fmod 67, (2 * y * z).fmod 67)
theorem wDblV_eq (x y z : Int) : wDblV x y z = T3V (wDbl (x, y, z)) := by
  unfold wDblV wDbl; rw [bif_or, ite_app T3V]
theorem wd_isP {w : World} : IsP w 1 (.ref 205) [bT, bP] bT fun vs => T3V (wDbl (g3 (ar0 vs))) := by
  refine isP_of (F := F1) F1_ok (by decide) (k205 _) (by kernel_rfl) fun vs hi => ?_
  match vs, hi with
  | [a, b], ⟨ha, hb, _⟩ =>
    obtain ⟨⟨x, y, z⟩, rfl⟩ := bT_in ha
    obtain rfl := bP_in hb
    exact ⟨wDbl_in _, Eq.trans (by kernel_rfl) (wDblV_eq x y z)⟩
noncomputable def F2 : PF := F1.addC 19 [bT, bP] bT fun vs => T3V (wDbl (g3 (ar0 vs)))
theorem F2_ok {w : World} : F2.Ok w 1 := PF.addC_ok F1_ok rfl wd_isP
noncomputable def wAddV (x y z a b c : Int) : V := bif decide (z = 0) || decide (c = 0) then (bif decide (z = 0) then T3V (a, b, c) else T3V (x, y, z)) else
  let left := (x * c * c).fmod 67
  let right := (a * z * z).fmod 67
  let low := (y * c * c * c).fmod 67
  let high := (b * z * z * z).fmod 67
  bif decide (left = right) then (bif decide (low = high) then T3V (wDbl (x, y, z)) else T3V (1, 1, 0)) else
  let step := right - left
  let rise := high - low
  let square := (step * step).fmod 67
  let cube := (step * square).fmod 67
  let middle := (left * square).fmod 67
  let far := (rise * rise - cube - 2 * middle).fmod 67
  T3V (far, (rise * (middle - far) - low * cube).fmod 67, (step * z * c).fmod 67)
theorem wAddV_eq (x y z a b c : Int) : wAddV x y z a b c = T3V (wAdd (x, y, z) (a, b, c)) := by
  unfold wAddV wAdd; dsimp only
  simp only [bif_or, bif_d]
  by_cases h : z = 0
  · simp [h]
  · by_cases h2 : c = 0
    · simp [h, h2]
    · simp only [h, h2, or_self, if_false]
      split
      · split <;> rfl
      · rfl
theorem wa_isP {w : World} : IsP w 2 (.ref 212) [bT, bT, bP] bT fun vs => T3V (wAdd (g3 (ar0 vs)) (g3 (ar1 vs))) := by
  refine isP_of (F := F2) F2_ok (by decide) (k212 _) (by kernel_rfl) fun vs hi => ?_
  match vs, hi with
  | [a, b, c], ⟨ha, hb, hc, _⟩ =>
    obtain ⟨⟨x, y, z⟩, rfl⟩ := bT_in ha
    obtain ⟨⟨a, b, c⟩, rfl⟩ := bT_in hb
    obtain rfl := bP_in hc
    exact ⟨wAdd_in ha hb, Eq.trans (by kernel_rfl) (wAddV_eq x y z a b c)⟩
noncomputable def narrowV (x y z : Int) : V := bif decide (z = 0) then .none else
  let back := powI z (67 - 2) 67
  let square := (back * back).fmod 67
  T2V (some ((x * square).fmod 67, (y * square * back).fmod 67))
theorem narrowV_eq (x y z : Int) : narrowV x y z = T2V (narrow (x, y, z)) := by
  unfold narrowV narrow; rw [bif_d, ite_app T2V]; rfl
theorem T2_val (p : Option (Int × Int)) : InB .val (T2V p) := by cases p <;> exact trivial
theorem T2_in {q : Int × Int} (h1 : 0 ≤ q.1 ∧ q.1 ≤ 66) (h2 : 0 ≤ q.2 ∧ q.2 ≤ 66) : InB b2 (T2V (some q)) := ⟨h1, h2, trivial⟩
theorem nr_isP {w : World} : IsP w 1 (.ref 219) [bT, bP] .val fun vs => T2V (narrow (g3 (ar0 vs))) := by
  refine isP_of (F := F1) F1_ok (by decide) (k219 _) (by kernel_rfl) fun vs hi => ?_
  match vs, hi with
  | [a, b], ⟨ha, hb, _⟩ =>
    obtain ⟨⟨x, y, z⟩, rfl⟩ := bT_in ha
    obtain rfl := bP_in hb
    exact ⟨T2_val _, Eq.trans (by kernel_rfl) (narrowV_eq x y z)⟩
noncomputable def g2 (v : V) : Int × Int := match v with
  | .tup [.int a, .int b] => (a, b)
  | _ => (0, 0)
theorem b2_in {v : V} (h : InB b2 v) : ∃ q, v = T2V (some q) := by
  obtain ⟨l, rfl, hl⟩ := inB_tup h
  match l, hl with
  | [a, b], ⟨ha, hb, _⟩ =>
    obtain ⟨x, rfl⟩ := inB_isI rfl ha
    obtain ⟨y, rfl⟩ := inB_isI rfl hb
    exact ⟨(x, y), rfl⟩
noncomputable def aDblV (x y : Int) : V := bif decide (y = 0) then .none else
  let slope := 3 * x * x * powI (2 * y) (67 - 2) 67
  let far := (slope * slope - 2 * x).fmod 67
  T2V (some (far, (slope * (x - far) - y).fmod 67))
theorem aDblV_eq (x y : Int) : aDblV x y = T2V (aDbl (x, y)) := by
  unfold aDblV aDbl; rw [bif_d, ite_app T2V]; rfl
noncomputable abbrev bC : B := .cst CV
theorem ad_isP {w : World} : IsP w 1 (.ref 170) [bC, b2] .val fun vs => T2V (aDbl (g2 (ar1 vs))) := by
  refine isP_of (F := F1) F1_ok (by decide) (k170 _) (by kernel_rfl) fun vs hi => ?_
  match vs, hi with
  | [a, b], ⟨ha, hb, _⟩ =>
    obtain ⟨⟨x, y⟩, rfl⟩ := b2_in hb
    obtain rfl := ha.1
    exact ⟨T2_val _, Eq.trans (by kernel_rfl) (aDblV_eq x y)⟩
noncomputable def liftL (x parity : Int) : Option (Int × Int) :=
  if 0 ≤ x ∧ x < 67 then
    let square := (x * x * x + 7).fmod 67
    let y := powI square (Int.fdiv (67 + 1) 4) 67
    if (y * y).fmod 67 = square then
      let y2 := if y.fmod 2 = parity then y else 67 - y
      if y2 < 67 then some (x, y2) else none
    else none
  else none
noncomputable def liftV (x parity : Int) : V := bif !(decide (0 ≤ x) && decide (x < 67)) then .none else
    let square := (x * x * x + 7).fmod 67
    let y := powI square (Int.fdiv (67 + 1) 4) 67
    bif !(decide ((y * y).fmod 67 = square)) then .none else
    bif !(decide (y.fmod 2 = parity)) then (bif decide (67 - y < 67) then T2V (some (x, 67 - y)) else .none) else (bif decide (y < 67) then T2V (some (x, y)) else .none)
theorem bif_n {α : Type} {p : Prop} [Decidable p] {a b : α} : (bif !decide p then a else b) = if p then b else a := by
  by_cases h : p
  · rw [decide_eq_true h, if_pos h]; rfl
  · rw [decide_eq_false h, if_neg h]; rfl
theorem bif_na {α : Type} {p q : Prop} [Decidable p] [Decidable q] {a b : α} : (bif !(decide p && decide q) then a else b) = if p ∧ q then b else a := by
  by_cases h : p ∧ q
  · rw [decide_eq_true h.1, decide_eq_true h.2, if_pos h]; rfl
  · rw [if_neg h, show (decide p && decide q) = false by simpa using h]; rfl
theorem liftV_eq (x p : Int) : liftV x p = T2V (liftL x p) := by
  unfold liftV liftL; dsimp only
  simp only [bif_n, bif_na, bif_d, ite_app T2V]
  split
  · split
    · split <;> rfl
    · rfl
  · rfl
theorem li_isP {w : World} : IsP w 1 (.ref 191) [bC, .int 0 1000000, .num] .val fun vs => T2V (liftL (getI (ar1 vs)) (getI (ar2 vs))) := by
  refine isP_of (F := F1) F1_ok (by decide) (k191 _) (by kernel_rfl) fun vs hi => ?_
  match vs, hi with
  | [a, b, c], ⟨ha, hb, hc, _⟩ =>
    obtain rfl := ha.1
    obtain ⟨x, rfl⟩ := inB_isI rfl hb
    obtain ⟨p, rfl⟩ := inB_isI rfl hc
    exact ⟨T2_val _, Eq.trans (by kernel_rfl) (liftV_eq x p)⟩
noncomputable def F3 : PF := F2.addC 20 [bT, bT, bP] bT fun vs => T3V (wAdd (g3 (ar0 vs)) (g3 (ar1 vs)))
theorem F3_ok {w : World} : F3.Ok w 2 := PF.addC_ok (F2_ok.mono (Nat.le_succ _)) rfl wa_isP
noncomputable def tLoop : Nat → Int → Int × Int × Int → Int × Int × Int → Int × Int × Int
  | 0, _, q, _ => q
  | f + 1, k, q, r => if 0 < k then tLoop f (k.fdiv (2 ^ Int.toNat 1)) (if Builtin.bitAnd k 1 = 1 then wAdd q r else q) (wDbl r) else q
noncomputable def timesL (n : Int) (p : Int × Int) : Option (Int × Int) := narrow (tLoop 7 (n.fmod 79) (1, 1, 0) (p.1, p.2, 1))
/-- the loop's body -/
noncomputable def c184b : T := .ife (.cmp .Eq (.bin .BitAnd (.var 1) (.cint 1)) (.cint 1)) (.asg 3 (.call 20 (.cons (.var 3) (.cons (.var 4) (.cons (.attr (.var 0) 0) .nil)))) .done) .done (.asg 4 (.call 19 (.cons (.var 4) (.cons (.attr (.var 0) 0) .nil))) (.asg 1 (.bin .RShift (.var 1) (.cint 1)) .done))
theorem c184b_v (k : Int) (p : V) (q r : Int × Int × Int) : vT F3 (fun _ => none) c184b [CV, .int k, p, T3V q, T3V r] some = some [CV, .int (k.fdiv (2 ^ Int.toNat 1)), p, T3V (if Builtin.bitAnd k 1 = 1 then wAdd q r else q), T3V (wDbl r)] := by
  by_cases h : Builtin.bitAnd k 1 = 1
  · rw [if_pos h]
    have e : vT F3 (fun _ => none) c184b [CV, .int k, p, T3V q, T3V r] some = bif decide (Builtin.bitAnd k 1 = 1) then some [CV, .int (k.fdiv (2 ^ Int.toNat 1)), p, T3V (wAdd q r), T3V (wDbl r)] else some [CV, .int (k.fdiv (2 ^ Int.toNat 1)), p, T3V q, T3V (wDbl r)] := by kernel_rfl
    rw [e, decide_eq_true h]; rfl
  · rw [if_neg h]
    have e : vT F3 (fun _ => none) c184b [CV, .int k, p, T3V q, T3V r] some = bif decide (Builtin.bitAnd k 1 = 1) then some [CV, .int (k.fdiv (2 ^ Int.toNat 1)), p, T3V (wAdd q r), T3V (wDbl r)] else some [CV, .int (k.fdiv (2 ^ Int.toNat 1)), p, T3V q, T3V (wDbl r)] := by kernel_rfl
    rw [e, decide_eq_false h]; rfl
theorem times_isP {w : World} : IsP w 3 (.ref 184) [bC, .num, b2] .val fun vs => T2V (timesL (getI (ar1 vs)) (g2 (ar2 vs))) := by
  intro vs hi
  match vs, hi with
  | [a, b, c], ⟨ha, hb, hc, _⟩ =>
    obtain rfl := ha.1
    obtain ⟨n, rfl⟩ := inB_isI rfl hb
    obtain ⟨⟨x, y⟩, rfl⟩ := b2_in hc
    refine ⟨T2_val _, fun μ Q hq => ?_⟩
    replace hq : Q (T2V (narrow (tLoop 7 (n.fmod 79) (1, 1, 0) (x, y, 1)))) μ := hq
    refine fn_ok (k := 2) (k184 _) rfl (by decide) ⟨by decide, fun kk hk k0 k1 => ?_⟩
    have hr : InB bT (T3V (x, y, 1)) := ⟨hc.1, hc.2.1, ⟨(by decide : (0 : Int) ≤ 1), (by decide : (1 : Int) ≤ 66)⟩, trivial⟩
    have key : ∀ (f : Nat) (kk : Int) (q r : Int × Int × Int), 0 ≤ kk → kk < 2 ^ f → InB bT (T3V q) → InB bT (T3V r) → Q (T2V (narrow (tLoop f kk q r))) μ →
        whlQ (fun ρ μ K => wE w 2 (.cmp .Gt (.var 1) (.cint 0)) ρ μ fun v μ' => truthQ v fun z => K z μ') (fun ρ μ R => wS w 2 c184b ρ μ R) (fun ρ μ => wS w 2 (.ret (.call 21 (.cons (.var 3) (.cons (.attr (.var 0) 0) .nil)))) ρ μ (retQ Q fun _ => False))
          (retQ Q fun _ => False) (f + 1) [CV, .int kk, T2V (some (x, y)), T3V q, T3V r] μ := by
      intro f
      induction f with
      | zero =>
        intro kk q r k0 k1 iq ir hq
        refine brI (fun h => absurd h (by simp at k1; (first | lia | omega))) fun h => ?_
        exact ((nr_isP (w := w) [T3V q, .int 67] ⟨iq, ⟨by decide, by decide⟩, trivial⟩).2 μ _ hq).mono (by (first | lia | omega))
      | succ f ih =>
        intro kk q r k0 k1 iq ir hq
        refine brI (fun h => ?_) fun h => ?_
        · have h : 0 < kk := h
          have e2 : kk.fdiv (2 ^ Int.toNat 1) = kk / 2 := Int.fdiv_eq_ediv_of_nonneg _ (by decide)
          refine pure_snd (F := F3) (r := fun _ => none) (K := some) (P := fun o => o = some [CV, .int (kk.fdiv (2 ^ Int.toNat 1)), T2V (some (x, y)), T3V (if Builtin.bitAnd kk 1 = 1 then wAdd q r else q), T3V (wDbl r)])
            (β := [bC, .num, b2, bT, bT]) (Kb := fun _ => true) F3_ok (by kernel_rfl) (inBs_of ⟨ha, trivial, hc, iq, ir, trivial⟩) (fun _ _ h => nomatch h) (fun β' ρ' _ _ e => ?_) (c184b_v kk _ q r)
          obtain rfl := Option.some.inj e
          refine ih _ _ _ (by rw [e2]; (first | lia | omega)) (by rw [e2]; rw [Int.pow_succ] at k1; (first | lia | omega)) ?_ (wDbl_in r) ?_
          · split
            · exact wAdd_in iq ir
            · exact iq
          · have e3 : tLoop (f + 1) kk q r = tLoop f (kk.fdiv (2 ^ Int.toNat 1)) (if Builtin.bitAnd kk 1 = 1 then wAdd q r else q) (wDbl r) := if_pos h
            rw [e3] at hq; exact hq
        · have e3 : tLoop (f + 1) kk q r = q := if_neg h
          rw [e3] at hq
          exact ((nr_isP (w := w) [T3V q, .int 67] ⟨iq, ⟨by decide, by decide⟩, trivial⟩).2 μ _ hq).mono (by (first | lia | omega))
    subst hk
    exact ⟨(by decide : 2 ≤ 1000), _, rfl, (by decide : 2 ≤ 1000), _, rfl, 8, key 7 (n.fmod 79) (1, 1, 0) (x, y, 1) k0 (by (first | lia | omega)) one_in hr hq⟩
theorem times_ok {w : World} {n : Int} {p : Int × Int} {o : Option (Int × Int)} {μ : Mu} {Q : V → Mu → Prop} (hp : (0 ≤ p.1 ∧ p.1 ≤ 66) ∧ 0 ≤ p.2 ∧ p.2 ≤ 66) (h : timesL n p = o) (hq : Q (T2V o) μ) : CallOK w 3 (.ref 184) [CV, .int n, T2V (some p)] μ Q := by
  subst h
  exact ((times_isP (w := w) [CV, .int n, T2V (some p)] ⟨⟨rfl, by intro x; cases x⟩, trivial, T2_in hp.1 hp.2, trivial⟩).2 μ Q hq)
noncomputable abbrev WB : Int := 115792089237316195423570985008687907853269984665640564039457584007913129639936
noncomputable def sigL (secret word k px py : Int) : Option (Int × Int × Int) :=
  let parity := py.fmod 2
  let s := ((word + px * secret) * powI k (79 - 2) 79).fmod 79
  if s = 0 then none else
  if Int.fdiv 79 2 < s then some (1 - parity, px, 79 - s) else some (parity, px, s)
noncomputable def sigV (o : Option (Int × Int × Int)) : V := match o with
  | none => .none
  | some q => T3V q
noncomputable def sigT (secret word k px py : Int) : V :=
  let parity := py.fmod 2
  let s := ((word + px * secret) * powI k (79 - 2) 79).fmod 79
  bif false || !(decide (0 < secret) && decide (secret < 79)) then .none else
  bif !(decide (0 < px) && decide (px < 79)) || decide (s = 0) then .none else
  bif decide (Int.fdiv 79 2 < s) then T3V (1 - parity, px, 79 - s) else T3V (parity, px, s)
theorem sigT_eq {secret word k px py : Int} (h1 : 0 < secret ∧ secret < 79) (h2 : 0 < px ∧ px < 79) : sigT secret word k px py = sigV (sigL secret word k px py) := by
  unfold sigT sigL; dsimp only
  rw [decide_eq_true h1.1, decide_eq_true h1.2, decide_eq_true h2.1, decide_eq_true h2.2]
  simp only [Bool.and_self, Bool.not_true, Bool.false_or, cond_false, bif_d]
  split
  · rfl
  · split <;> rfl
theorem sig_ok {w : World} {secret word kk px py : Int} {μ : Mu} {Q : V → Mu → Prop} (hs : 0 < secret ∧ secret < 79) (hp : 0 < px ∧ px ≤ 66) (hy : 0 ≤ py ∧ py ≤ 66) (ht : timesL kk (2, 22) = some (px, py))
    (hq : Q (sigV (sigL secret word kk px py)) μ) : CallOK w 4 (.ref 226) [CV, .int secret, .int word, .int kk] μ Q := by
  refine fn_ok (k := 3) (k226 _) rfl (by decide) ?_
  refine times_ok (p := (2, 22)) ⟨⟨by decide, by decide⟩, by decide, by decide⟩ ht ?_
  refine pure_snd (F := F1) (r := id) (K := fun _ => .none) (P := fun v => Q v μ) (β := [bC, .int 1 78, .num, .num, b2, .any, .any, .any]) (Kb := fun _ => true)
    (ρ := [CV, .int secret, .int word, .int kk, T2V (some (px, py)), .un, .un, .un]) F1_ok (by kernel_rfl) (inBs_of ⟨⟨rfl, by intro x; cases x⟩, ⟨hs.1, by (first | lia | omega)⟩, trivial, trivial, T2_in ⟨by (first | lia | omega), hp.2⟩ hy, trivial, trivial, trivial, trivial⟩) (fun _ _ h => h) (fun _ _ _ _ h => h) ?_
  rw [← sigT_eq hs ⟨hp.1, by (first | lia | omega)⟩] at hq
  exact Eq.mp (by kernel_rfl) hq
noncomputable def aAdd (p q : Option (Int × Int)) : Option (Int × Int) := match p, q with
  | none, q => q
  | some p, none => some p
  | some p, some q =>
    if p.1 = q.1 then (if p.2 = q.2 then aDbl p else none) else
    let slope := (q.2 - p.2) * powI (q.1 - p.1) (67 - 2) 67
    let far := (slope * slope - p.1 - q.1).fmod 67
    some (far, (slope * (p.1 - far) - p.2).fmod 67)
noncomputable def P67 (p : Option (Int × Int)) : Prop := ∀ q, p = some q → (0 ≤ q.1 ∧ q.1 ≤ 66) ∧ (0 ≤ q.2 ∧ q.2 ≤ 66)
noncomputable def addV (x y a b : Int) : V := bif false || false then (bif false then T2V (some (a, b)) else T2V (some (x, y))) else
  bif decide (x = a) then (bif decide (y = b) then T2V (aDbl (x, y)) else .none) else
    let slope := (b - y) * powI (a - x) (67 - 2) 67
    let far := (slope * slope - x - a).fmod 67
    T2V (some (far, (slope * (x - far) - y).fmod 67))
theorem addV_eq (x y a b : Int) : addV x y a b = T2V (aAdd (some (x, y)) (some (a, b))) := by
  unfold addV aAdd; dsimp only
  simp only [Bool.or_self, cond_false, bif_d]
  split
  · split <;> rfl
  · rfl
noncomputable def F4 : PF := F1.addM 22 [bC, b2] .val fun vs => T2V (aDbl (g2 (ar1 vs)))
theorem F4_ok {w : World} : F4.Ok w 1 := PF.addM_ok F1_ok rfl ad_isP
theorem add_ok {w : World} {p q : Option (Int × Int)} {μ : Mu} {Q : V → Mu → Prop} (hp : P67 p) (hr : P67 q) (hq : Q (T2V (aAdd p q)) μ) : CallOK w 2 (.ref 177) [CV, T2V p, T2V q] μ Q := by
  have hc : InB bC CV := ⟨rfl, by intro x; cases x⟩
  have hn : InB (.cst .none) V.none := ⟨rfl, by intro x; cases x⟩
  cases p with
  | none => cases q with
    | none => exact fn_pure (k := 1) F1_ok (by decide) [bC, .cst .none, .cst .none] (k177 _) rfl (by kernel_rfl) ⟨hc, hn, hn, trivial⟩ hq
    | some q => exact fn_pure (k := 1) F1_ok (by decide) [bC, .cst .none, b2] (k177 _) rfl (by kernel_rfl) ⟨hc, hn, T2_in (hr q rfl).1 (hr q rfl).2, trivial⟩ hq
  | some p => cases q with
    | none => exact fn_pure (k := 1) F1_ok (by decide) [bC, b2, .cst .none] (k177 _) rfl (by kernel_rfl) ⟨hc, T2_in (hp p rfl).1 (hp p rfl).2, hn, trivial⟩ hq
    | some q =>
      refine fn_pure (k := 1) F4_ok (by decide) [bC, b2, b2] (k177 _) rfl (by kernel_rfl) ⟨hc, T2_in (hp p rfl).1 (hp p rfl).2, T2_in (hr q rfl).1 (hr q rfl).2, trivial⟩ ?_
      rw [← addV_eq] at hq
      exact Eq.mp (by kernel_rfl) hq
noncomputable def recL (word r s lx ly : Int) : Option (Int × Int) :=
  aAdd (timesL (s * powI r (79 - 2) 79) (lx, ly)) (timesL (-word * powI r (79 - 2) 79) (2, 22))
theorem narrow_P (q : Int × Int × Int) : P67 (narrow q) := by
  unfold narrow; split
  · intro _ h; cases h
  · intro p h; cases h; exact ⟨fm _ (by decide), fm _ (by decide)⟩
theorem times_P (n : Int) (p : Int × Int) : P67 (timesL n p) := narrow_P _
theorem aAdd_P {p q : Option (Int × Int)} (hp : P67 p) (hq : P67 q) : P67 (aAdd p q) := by
  cases p with
  | none => exact hq
  | some p => cases q with
    | none => exact hp
    | some q =>
      unfold aAdd; dsimp only
      split
      · split
        · unfold aDbl; split
          · intro _ h; cases h
          · intro p h; cases h; exact ⟨fm _ (by decide), fm _ (by decide)⟩
        · intro _ h; cases h
      · intro p h; cases h; exact ⟨fm _ (by decide), fm _ (by decide)⟩
theorem rec_ok {w : World} {word parity r s lx ly : Int} {μ : Mu} {Q : V → Mu → Prop} (hpa : parity = 0 ∨ parity = 1) (hr : 0 < r ∧ r < 79) (hs : 0 < s ∧ s < 79) (hl : liftL r parity = some (lx, ly)) (hx : 0 ≤ lx ∧ lx ≤ 66) (hy : 0 ≤ ly ∧ ly ≤ 66)
    (hq : Q (T2V (recL word r s lx ly)) μ) : CallOK w 4 (.ref 233) [CV, .int word, .int parity, .int r, .int s] μ Q := by
  have hC : InB bC CV := ⟨rfl, by intro x; cases x⟩
  refine fn_ok (k := 3) (k233 _) rfl (by decide) (ifd_pv (F := F1) (β := [bC, .num, .int 0 1, .int 1 78, .int 1 78, .any, .any]) F1_ok (inBs_of ⟨hC, trivial, ⟨by (first | lia | omega), by (first | lia | omega)⟩, ⟨by (first | lia | omega), by (first | lia | omega)⟩, ⟨by (first | lia | omega), by (first | lia | omega)⟩, trivial, trivial, trivial⟩) (by kernel_rfl) (fun h => ?_) fun _ => ?_)
  · exfalso
    have h : (!([(0 : Int), 1].any (· == parity)) || (!(decide (0 < r) && decide (r < 79)) || !(decide (0 < s) && decide (s < 79)))) = true := h
    rw [decide_eq_true hr.1, decide_eq_true hr.2, decide_eq_true hs.1, decide_eq_true hs.2] at h
    rcases hpa with rfl | rfl <;> exact absurd h (by decide)
  · refine (((li_isP (w := w)).mono (k' := 3) (by decide) [CV, .int r, .int parity] ⟨hC, ⟨by (first | lia | omega), by (first | lia | omega)⟩, trivial, trivial⟩).2 μ _ ?_)
    have e : T2V (liftL (getI (ar1 [CV, .int r, .int parity])) (getI (ar2 [CV, .int r, .int parity]))) = T2V (some (lx, ly)) := congrArg T2V hl
    rw [e]
    refine pow_ok (by decide) (by decide) ?_
    have hpw := powI_in (b := r) (e := 79 - 2) (m := 79) (by decide)
    refine mulI (.inr ⟨by (first | lia | omega), by (first | lia | omega)⟩) ?_
    refine times_ok (p := (lx, ly)) ⟨hx, hy⟩ rfl ?_
    refine mulI (.inr ⟨by (first | lia | omega), by (first | lia | omega)⟩) ?_
    refine times_ok (p := (2, 22)) ⟨⟨by decide, by decide⟩, by decide, by decide⟩ rfl ?_
    exact (add_ok (times_P _ _) (times_P _ _) hq).mono (by decide)
theorem Dg.add_n {D : Dg} {k : Int} : (D.add k).n ≤ D.n + 1 := by unfold Dg.add; split <;> simp
theorem e64 : (1 * 2 ^ Int.toNat 64 : Int) = ((18446744073709551616 : Nat) : Int) := by decide
theorem fmodN (a m : Nat) : Int.toNat (Int.fmod (a : Int) (m : Int)) = a % m := by
  rw [Int.fmod_eq_emod_of_nonneg _ (Int.natCast_nonneg _)]; exact Int.toNat_natCast (a % m)
theorem midN {x : Int} (h : 0 ≤ x) : ((x * 281479271743489).fmod (1 * 2 ^ Int.toNat 64)).toNat = x.toNat * 281479271743489 % 2 ^ 64 := by
  obtain ⟨n, rfl⟩ := Int.eq_ofNat_of_zero_le h
  rw [e64]
  exact fmodN (n * 281479271743489) 18446744073709551616
noncomputable abbrev LEAST : Nat := 605153021707326989568713251046585937826284568576
noncomputable def digB (n : Nat) : List UInt8 := leB 4 n ++ beB 8 (n * 281479271743489 % 2 ^ 64) ++ beB 20 (LEAST + n)
noncomputable abbrev wordN (n : Int) : Int := (ofBE (digB n.toNat) : Int)
theorem digB_length (n : Nat) : (digB n).length = 32 := by simp [digB, beB_length, leB_length]
noncomputable def WO (w : Int) : List UInt8 := beB 32 (w.fmod WB).toNat
theorem WO_length (w : Int) : (WO w).length = 32 := beB_length _ _
noncomputable abbrev MOSTA : Int := 1461501637330902918203684832716283019655932542976
noncomputable def AO (w : Int) : List UInt8 := beB 20 w.toNat
theorem AO_length (w : Int) : (AO w).length = 20 := beB_length _ _
theorem beB_drop (k n : Nat) : ∀ j, (beB (j + k) n).drop j = beB k n := by
  induction k generalizing n with
  | zero => intro j; rw [List.drop_of_length_le (by rw [beB_length]; (first | lia | omega))]; rfl
  | succ k ih => intro j; rw [show j + (k + 1) = (j + k) + 1 from rfl, beB_succ, beB_succ, List.drop_append_of_le_length (by rw [beB_length]; (first | lia | omega)), ih]
noncomputable def homeN (n : Int) : Int := LEAST + n
noncomputable def PO (x y : Int) : List UInt8 := beB 32 x.toNat ++ beB 32 y.toNat
theorem WO_eq {x : Int} (h0 : 0 ≤ x) (h1 : x < WB) : WO x = beB 32 x.toNat := by
  unfold WO; rw [Int.fmod_eq_emod_of_nonneg _ (by decide), Int.emod_eq_of_lt h0 h1]
theorem PO_length (x y : Int) : (PO x y).length = 64 := by simp [PO, beB_length]
theorem digB_tail (n : Nat) : (digB n).drop 12 = beB 20 (LEAST + n) := by
  unfold digB
  rw [List.drop_append_of_le_length (by simp [leB_length, beB_length]), List.drop_of_length_le (by simp [leB_length, beB_length])]
  rfl
theorem ofBE_tail {n : Nat} (h : n ≤ 100000) : ofBE ((digB n).drop 12) = LEAST + n := by
  rw [digB_tail, ofBE_beB]; unfold LEAST; (first | lia | omega)
theorem fmodNat (a m : Nat) : Int.fmod (a : Int) (m : Int) = ((a % m : Nat) : Int) := by
  rw [Int.fmod_eq_emod_of_nonneg _ (Int.natCast_nonneg _)]; rfl
theorem ofBE_low (l : List UInt8) {m : Nat} (h : m < 256 ^ 20) : ofBE (l ++ beB 20 m) % 256 ^ 20 = m := by
  rw [ofBE_app, beB_length, ofBE_beB _ _ h, Nat.mul_add_mod_self_right, Nat.mod_eq_of_lt h]
theorem word_home {n : Int} (h0 : 0 ≤ n) (h1 : n ≤ 100000) : (wordN n).fmod 1461501637330902918203684832716283019655932542976 = homeN n := by
  obtain ⟨k, rfl⟩ := Int.eq_ofNat_of_zero_le h0
  have h := ofBE_low (leB 4 k ++ beB 8 (k * 281479271743489 % 2 ^ 64)) (m := LEAST + k) (by
    have : LEAST + 100000 < 256 ^ 20 := by decide
    (first | lia | omega))
  refine (fmodNat (ofBE (digB k)) 1461501637330902918203684832716283019655932542976).trans ?_
  refine (congrArg (fun z : Nat => (z : Int)) h).trans ?_
  unfold homeN
  exact Int.natCast_add _ _
noncomputable def bitsN (n : Nat) : Nat := if n = 0 then 0 else n.log2 + 1
noncomputable def blen (n : Nat) : Nat := (bitsN n + 7) / 8
noncomputable def nOct (n : Int) : List UInt8 := beB (blen n.toNat) n.toNat
theorem blen_lt (n : Nat) : n < 256 ^ blen n := by
  unfold blen bitsN
  split
  · subst n; decide
  · rename_i h
    have h1 : n < 2 ^ (n.log2 + 1) := (Nat.log2_lt h).mp (Nat.lt_succ_self _)
    have e : (256 : Nat) ^ ((n.log2 + 1 + 7) / 8) = 2 ^ (8 * ((n.log2 + 1 + 7) / 8)) := by rw [show (256 : Nat) = 2 ^ 8 from rfl, ← Nat.pow_mul]
    rw [e]
    exact Nat.lt_of_lt_of_le h1 (Nat.pow_le_pow_right (by decide) (by (first | lia | omega)))
theorem ofBE_nOct {n : Int} (h : 0 ≤ n) : (ofBE (nOct n) : Int) = n := by
  unfold nOct; rw [ofBE_beB _ _ (blen_lt _)]; (first | lia | omega)
theorem nOct_inj {a b : Int} (ha : 0 ≤ a) (hb : 0 ≤ b) (h : nOct a = nOct b) : a = b := by
  rw [← ofBE_nOct ha, ← ofBE_nOct hb, h]
theorem nlen {x : Int} (h : 0 ≤ x) : ((Builtin.Int.intBits x : Int) + 7).fdiv 8 = ((blen x.toNat : Nat) : Int) := by
  obtain ⟨n, rfl⟩ := Int.eq_ofNat_of_zero_le h
  have e : Builtin.Int.intBits (n : Int) = bitsN n := by
    unfold Builtin.Int.intBits bitsN
    by_cases hn : n = 0
    · subst hn; rfl
    · rw [if_neg hn, if_neg (by simp; (first | lia | omega))]; rfl
  show ((Builtin.Int.intBits (n : Int) : Int) + 7).fdiv 8 = ((blen n : Nat) : Int)
  rw [e, Int.fdiv_eq_ediv_of_nonneg _ (by decide)]
  unfold blen
  (first | lia | omega)
theorem blen_small {x : Int} (h1 : x < WB) : blen x.toNat ≤ 32 := by
  have h2 : x.toNat < 2 ^ 256 := by
    have : WB = ((2 ^ 256 : Nat) : Int) := by decide
    rw [this] at h1
    (first | lia | omega)
  unfold blen bitsN
  split
  · decide
  · rename_i h
    have := (Nat.log2_lt h).mpr h2
    (first | lia | omega)
theorem nOct_length {x : Int} (h1 : x < WB) : (nOct x).length ≤ 32 := by unfold nOct; rw [beB_length]; exact blen_small h1
noncomputable def hdL (low n : Nat) : List UInt8 := if n ≤ 55 then [(low + n).toUInt8] else (low + 55 + (nOct (n : Int)).length).toUInt8 :: nOct (n : Int)
theorem nOct_short {n : Nat} (h : n ≤ 100000) : (nOct (n : Int)).length ≤ 3 := by
  unfold nOct; rw [beB_length, Int.toNat_natCast]
  unfold blen bitsN
  split
  · decide
  · rename_i h0
    have := (Nat.log2_lt h0).mpr (show n < 2 ^ 17 by (first | lia | omega))
    (first | lia | omega)
theorem hdL_length {low n : Nat} (h : n ≤ 100000) : (hdL low n).length ≤ 4 := by
  unfold hdL; have := nOct_short h; split <;> simp <;> (first | lia | omega)
noncomputable def encB (b : List UInt8) : List UInt8 := if b.length = 1 ∧ (b.getD 0 0).toNat < 128 then b else hdL 128 b.length ++ b
theorem encB_length {b : List UInt8} (h : b.length ≤ 100000) : (encB b).length ≤ b.length + 4 := by
  unfold encB; have := hdL_length (low := 128) h; split <;> simp <;> (first | lia | omega)
theorem brT {c : Prop} [Decidable c] {P R : Prop} (h : c) (p : P) : brq (decide c) P R := by rw [decide_eq_true h]; exact p
theorem brF {c : Prop} [Decidable c] {P R : Prop} (h : ¬ c) (r : R) : brq (decide c) P R := by rw [decide_eq_false h]; exact r
theorem brnT {c : Prop} [Decidable c] {P R : Prop} (h : c) (r : R) : brq (!decide c) P R := by rw [decide_eq_true h]; exact r
theorem brnF {c : Prop} [Decidable c] {P R : Prop} (h : ¬ c) (p : P) : brq (!decide c) P R := by rw [decide_eq_false h]; exact p
section
variable {w : World} {μ : Mu} {Q : V → Mu → Prop}
theorem led_ok {x : Int} (hq : Q (.int (x.fmod WB)) μ) : CallOK w 1 (.ref 114) [.int x] μ Q := fn_ok (k114 _) rfl (by decide) (modI (by decide) fun r hr _ _ => hr ▸ hq)
theorem adr_ok {x : Int} (hq : Q (.int (x.fmod MOSTA)) μ) : CallOK w 1 (.ref 128) [.int x] μ Q := fn_ok (k128 _) rfl (by decide) (modI (by decide) fun r hr _ _ => hr ▸ hq)
theorem wo_ok {x : Int} (hq : Q (.bytes (WO x)) μ) : CallOK w 2 (.ref 121) [.int x] μ Q :=
  fn_ok (k := 1) (k121 _) rfl (by decide) (led_ok (tobB_ok (j := 32) (by decide) (Int.fmod_nonneg_of_pos _ (by decide)) (Int.fmod_lt_of_pos _ (by decide)) hq))
theorem ao_ok {x : Int} (h0 : 0 ≤ x) (h1 : x < MOSTA) (hq : Q (.bytes (AO x)) μ) : CallOK w 3 (.ref 135) [.int x] μ Q := by
  refine fn_ok (k := 2) (k135 _) rfl (by decide) ?_
  refine brT h0 (brnT h1 (wo_ok ⟨by rw [WO_length]; decide, ?_⟩))
  have e : (WO x).drop 12 = AO x := by
    rw [WO_eq h0 (by unfold MOSTA at h1; unfold WB; (first | lia | omega))]
    exact beB_drop 20 _ 12
  rw [e]; exact hq
theorem noct_ok {x : Int} (h0 : 0 ≤ x) (h1 : x < WB) (hq : Q (.bytes (nOct x)) μ) : CallOK w 1 (.ref 247) [.int x] μ Q := by
  refine fn_ok (k := 0) (k247 _) rfl (by decide) ?_
  refine brF (by (first | lia | omega)) (bitl_ok ⟨⟨by decide, by decide, by decide⟩, ?_⟩)
  rw [nlen h0]
  obtain ⟨n, rfl⟩ := Int.eq_ofNat_of_zero_le h0
  have h2 := Int.ofNat_lt.mpr (blen_lt n)
  rw [Int.natCast_pow] at h2
  exact tobB_ok (Nat.le_trans (blen_small h1) (by decide)) h0 h2 hq
theorem head_ok {low n : Nat} (hl : low ≤ 192) (hn : n ≤ 100000) (hq : Q (.bytes (hdL low n)) μ) : CallOK w 2 (.ref 254) [.int (low : Int), .int (n : Int)] μ Q := by
  refine fn_ok (k := 1) (k254 _) rfl (by decide) ?_
  unfold hdL at hq
  refine brI (fun h => ?_) fun h => ?_
  · have h : (n : Int) ≤ 55 := h
    rw [if_pos (by (first | lia | omega))] at hq
    exact byI_ok (ns := [(low : Int) + n]) (fun x hx => by rw [List.mem_singleton.mp hx]; (first | lia | omega)) (Nat.le_of_ble_eq_true rfl) hq
  · have h : ¬ (n : Int) ≤ 55 := h
    rw [if_neg (by (first | lia | omega))] at hq
    have hs := nOct_short hn
    refine (noct_ok (Int.natCast_nonneg n) (by unfold WB; (first | lia | omega)) (lenB_ok (by (first | lia | omega)) (byI_ok (ns := [(low : Int) + 55 + ((nOct (n : Int)).length : Int)]) (fun x hx => by rw [List.mem_singleton.mp hx]; (first | lia | omega)) (Nat.le_of_ble_eq_true rfl) ⟨⟨Nat.le_of_ble_eq_true rfl, by (first | lia | omega)⟩, hq⟩)))
end
noncomputable abbrev dgV (kd : Addr) : V := .inst 52 [.raw (.ref kd)]
/-- the digest's dict -/
structure DK (w : World) (kd : Addr) (ko : Obj) (D : Dg) : Prop where
  lo : (kd == sysModules) = false
  known : KnownO w ko D
  wf : D.WF
theorem DK.next {w : World} {kd : Addr} {ko o' : Obj} {D : Dg} {x : Int} (h : DK w kd ko D) (hk : KnownO w o' (D.add x)) : DK w kd o' (D.add x) := ⟨h.lo, hk, Dg.add_WF h.wf _⟩
section
variable {w : World} {kd : Addr} {ko : Obj} {D : Dg} {b : List UInt8} {μ1 μ2 : Mu} {Q : V → Mu → Prop}
theorem of_ok (h : DK w kd ko D) (hs : D.n ≤ 1000) (hb : b.length ≤ 100000) (hq : ∀ o', DK w kd o' (D.add (keyOf b)) → Q (.bytes (digB (D.num (keyOf b)).toNat)) (μ1 ++ .obj (kd, o') :: μ2)) :
    CallOK w 4 (.ref 49) [dgV kd, .bytes b] (μ1 ++ .obj (kd, ko) :: μ2) Q := by
  refine fn_ok (k := 3) (k49 _) rfl (by decide) ?_
  refine num_ok h.lo h.known h.wf hs hb fun o' hK => ?_
  have hn := Dg.num_in h.wf (keyOf b)
  have hq := hq o' (h.next hK)
  generalize D.num (keyOf b) = x at hn hq
  refine tobL_ok (j := 4) (by decide) (by (first | lia | omega)) (by have : (256 : Int) ^ 4 = 4294967296 := rfl; (first | lia | omega)) ?_
  refine ⟨.inl ⟨by (first | lia | omega), by (first | lia | omega)⟩, ⟨⟨by decide, by decide, by decide⟩, ⟨by decide, fun r hr h0 h1 => ?_⟩⟩⟩
  refine tobB_ok (j := 8) (by decide) h0 h1 ?_
  rw [hr, midN (by (first | lia | omega))]
  refine ⟨⟨by simp [leB_length], by simp [beB_length]⟩, ?_⟩
  have e : ((LEAST : Int) + x).toNat = LEAST + x.toNat := by (first | lia | omega)
  refine tobB_ok (x := (LEAST : Int) + x) (j := 20) (by decide) (by (first | lia | omega)) (by have : (256 : Int) ^ 20 = 1461501637330902918203684832716283019655932542976 := rfl; unfold LEAST; (first | lia | omega)) ?_
  rw [e]
  exact ⟨⟨by simp [leB_length, beB_length], by simp [beB_length]⟩, hq⟩
theorem word_of_ok (h : DK w kd ko D) (hs : D.n ≤ 1000) (hb : b.length ≤ 100000) (hq : ∀ o', DK w kd o' (D.add (keyOf b)) → Q (.int (wordN (D.num (keyOf b)))) (μ1 ++ .obj (kd, o') :: μ2)) :
    CallOK w 5 (.ref 63) [dgV kd, .bytes b] (μ1 ++ .obj (kd, ko) :: μ2) Q := by
  refine fn_ok (k := 4) (k63 _) rfl (by decide) ?_
  exact of_ok h hs hb fun o' hD => ⟨rfl, by rw [digB_length]; decide, hq o' hD⟩
end
noncomputable abbrev setV (kd : Addr) : V := .inst 358 [dgV kd, CV, .int 1, .int 64, .int 20]
section
variable {w : World} {kd : Addr} {ko : Obj} {D : Dg} {x y : Int} {μ1 μ2 : Mu} {Q : V → Mu → Prop}
theorem aop_ok (h : DK w kd ko D) (hs : D.n ≤ 1000) (hx : 0 ≤ x ∧ x ≤ 66) (hy : 0 ≤ y ∧ y ≤ 66) (hq : ∀ o', DK w kd o' (D.add (keyOf (PO x y))) → Q (.int (homeN (D.num (keyOf (PO x y))))) (μ1 ++ .obj (kd, o') :: μ2)) :
    CallOK w 6 (.ref 142) [T2V (some (x, y)), setV kd] (μ1 ++ .obj (kd, ko) :: μ2) Q := by
  refine fn_ok (k := 5) (k142 _) rfl (by decide) ?_
  refine ⟨Nat.le_of_ble_eq_true rfl, .int x, rfl, ?_⟩
  refine CallOK.mono (k := 2) (k' := 5) (wo_ok ?_) (by decide)
  refine ⟨Nat.le_of_ble_eq_true rfl, .int y, rfl, ?_⟩
  refine CallOK.mono (k := 2) (k' := 5) (wo_ok ?_) (by decide)
  refine ⟨⟨by rw [WO_length]; decide, by rw [WO_length]; decide⟩, ?_⟩
  rw [WO_eq hx.1 (by unfold WB; (first | lia | omega)), WO_eq hy.1 (by unfold WB; (first | lia | omega))]
  refine word_of_ok h hs (b := PO x y) (by rw [PO_length]; decide) fun o' hD => ?_
  refine CallOK.mono (k := 1) (k' := 5) (adr_ok ?_) (by decide)
  have hn := Dg.num_in h.wf (keyOf (PO x y))
  have e := word_home (n := D.num (keyOf (PO x y))) (by (first | lia | omega)) (by (first | lia | omega))
  rw [show (wordN (D.num (keyOf (PO x y)))).fmod MOSTA = homeN (D.num (keyOf (PO x y))) from e]
  exact hq o' hD
theorem home_ok (h : DK w kd ko D) (hs : D.n ≤ 1000) (hx : 0 ≤ x ∧ x ≤ 66) (hy : 0 ≤ y ∧ y ≤ 66) (hq : ∀ o', DK w kd o' (D.add (keyOf (PO x y))) → Q (.int (homeN (D.num (keyOf (PO x y))))) (μ1 ++ .obj (kd, o') :: μ2)) :
    CallOK w 6 (.ref 397) [dgV kd, T2V (some (x, y))] (μ1 ++ .obj (kd, ko) :: μ2) Q := by
  refine fn_ok (k := 5) (k397 _) rfl (by decide) ?_
  refine ⟨Nat.le_of_ble_eq_true rfl, .int x, rfl, ?_⟩
  refine tobB_ok (x := x) (j := 32) (by decide) hx.1 (by have : (256 : Int) ^ 32 = WB := rfl; rw [this]; unfold WB; (first | lia | omega)) ?_
  refine ⟨Nat.le_of_ble_eq_true rfl, .int y, rfl, ?_⟩
  refine tobB_ok (x := y) (j := 32) (by decide) hy.1 (by have : (256 : Int) ^ 32 = WB := rfl; rw [this]; unfold WB; (first | lia | omega)) ?_
  refine ⟨⟨by rw [beB_length]; decide, by rw [beB_length]; decide⟩, ?_⟩
  refine CallOK.mono (k := 4) (k' := 5) (of_ok h hs (b := PO x y) (by rw [PO_length]; decide) fun o' hD => ?_) (by decide)
  refine ⟨by rw [digB_length]; decide, rfl, ?_⟩
  have hn := Dg.num_in h.wf (keyOf (PO x y))
  have hq := hq o' hD
  obtain ⟨n, hn'⟩ := Int.eq_ofNat_of_zero_le (show 0 ≤ D.num (keyOf (PO x y)) by (first | lia | omega))
  rw [hn'] at hn hq ⊢
  refine ⟨by rw [List.length_drop, digB_length]; decide, ?_⟩
  rw [show ofBE ((digB (Int.toNat (n : Int))).drop 12) = LEAST + n from ofBE_tail (by (first | lia | omega))]
  exact hq
end
mutual
noncomputable def encV : V → List UInt8
  | .bytes b => encB b
  | .list l => hdL 192 (encVs l).length ++ encVs l
  | _ => []
noncomputable def encVs : List V → List UInt8
  | [] => []
  | v :: l => encV v ++ encVs l
end
/-- octets, or a list of such, n deep -/
noncomputable def okV : Nat → V → Prop
  | _, .bytes _ => True
  | n + 1, .list l => ∀ v ∈ l, okV n v
  | _, _ => False
theorem encVs_app : ∀ (l r : List V), encVs (l ++ r) = encVs l ++ encVs r
  | [], _ => rfl
  | v :: l, r => by show encV v ++ encVs (l ++ r) = encV v ++ encVs l ++ encVs r; rw [encVs_app l r, List.append_assoc]
section
variable {w : World} {μ : Mu}
theorem enc_loop {m : Nat} {k : Int} {item : V} {K : List V → Mu → Prop} {R : PS} {b : T} (hb : b = .asg 2 (.bin .Add (.var 2) (.call 27 (.cons (.var 3) (.cons (.bin .Add (.var 1) (.cint 1)) .nil)))) .done) :
    ∀ (l : List V) (acc : List UInt8) (p : V), (∀ v ∈ l, (∀ Q : V → Mu → Prop, Q (.bytes (encV v)) μ → CallOK w m (.ref 261) [v, .int (k + 1)] μ Q) ∧ v ≠ .un) → (acc ++ encVs l).length ≤ 100000 → (∀ p', K [item, .int k, .bytes (acc ++ encVs l), p'] μ) →
      forQ [3] (fun ρ μ R => wS w m b ρ μ R) K R l [item, .int k, .bytes acc, p] μ
  | [], acc, p, _, _, hK => by have := hK p; rw [show encVs [] = [] from rfl, List.append_nil] at this; exact this
  | v :: l, acc, p, hl, hn, hK => by
    have e : acc ++ encVs (v :: l) = (acc ++ encV v) ++ encVs l := (List.append_assoc _ _ _).symm
    rw [e] at hn hK
    have h1 : (acc ++ encV v).length ≤ 100000 := by rw [List.length_append] at hn; (first | lia | omega)
    rw [List.length_append] at h1
    subst hb
    have hv := hl v (.head _)
    have ih := enc_loop (R := R) rfl l (acc ++ encV v) v (fun u hu => hl u (.tail _ hu)) hn hK
    have key : CallOK w m (.ref 261) [v, .int (k + 1)] μ fun y μ2 => binQ .Add (.bytes acc) y fun z => forQ [3] (fun ρ μ R => wS w m (.asg 2 (.bin .Add (.var 2) (.call 27 (.cons (.var 3) (.cons (.bin .Add (.var 1) (.cint 1)) .nil)))) .done) ρ μ R) K R l [item, .int k, z, v] μ2 :=
      hv.1 _ ⟨⟨by (first | lia | omega), by (first | lia | omega)⟩, ih⟩
    clear ih hK hn h1 e
    have hu := hv.2
    clear hv hl
    cases v <;> first | exact absurd rfl hu | exact key
theorem encb_ok {m : Nat} {b : List UInt8} {k : Int} {Q : V → Mu → Prop} (hm : 2 ≤ m) (hm2 : m < 60) (hk : k ≤ 60) (hb : b.length ≤ 50000) (hq : Q (.bytes (encB b)) μ) : CallOK w (m + 1) (.ref 261) [.bytes b, .int k] μ Q := by
  refine fn_ok (k := m) (k261 _) rfl hm2 ?_
  refine brF (by (first | lia | omega)) (isiB_ok (.inr ⟨rfl, rfl⟩) (isiB_ok (.inl ⟨rfl, rfl⟩) (lenB_ok (by (first | lia | omega)) ?_)))
  have fin : encB b = hdL 128 b.length ++ b → CallOK w m (.builtin "len") [.bytes b] μ fun v μ' => CallOK w m (.ref 254) [.int 128, v] μ' fun v μ' => binQ .Add v (.bytes b) fun z => Q z μ' := fun e => by
    refine lenB_ok (by (first | lia | omega)) (CallOK.mono (k := 2) (head_ok (low := 128) (by decide) (by (first | lia | omega)) ⟨⟨Nat.le_trans (hdL_length (by (first | lia | omega))) (by decide), by (first | lia | omega)⟩, ?_⟩) hm)
    rw [← e]; exact hq
  refine brI (fun h1 => ?_) fun h1 => ?_
  · have h1 : b.length = 1 := by have h1 : (b.length : Int) = 1 := h1; (first | lia | omega)
    obtain ⟨x, rfl⟩ := List.length_eq_one_iff.mp h1
    refine ⟨⟨Int.le_refl 0, Nat.le_of_ble_eq_true rfl⟩, x, rfl, ?_⟩
    refine brI (fun h2 => ?_) fun h2 => ?_
    · have h2 : (x.toNat : Int) < 128 := h2
      rw [show encB [x] = [x] from if_pos ⟨rfl, by show x.toNat < 128; (first | lia | omega)⟩] at hq
      exact hq
    · have h2 : ¬ (x.toNat : Int) < 128 := h2
      exact fin (if_neg fun q => h2 (by have : x.toNat < 128 := q.2; (first | lia | omega)))
  · exact fin (if_neg fun q => h1 (by show (b.length : Int) = 1; (first | lia | omega)))
theorem encB_ge (b : List UInt8) : b.length ≤ (encB b).length := by
  unfold encB; split
  · exact Nat.le_refl _
  · rw [List.length_append]; (first | lia | omega)
theorem encVs_ge {v : V} : ∀ {l : List V}, v ∈ l → (encV v).length ≤ (encVs l).length
  | u :: l, h => by
    show _ ≤ (encV u ++ encVs l).length
    rw [List.length_append]
    rcases List.mem_cons.mp h with rfl | h
    · (first | lia | omega)
    · have := encVs_ge h; (first | lia | omega)
theorem enc_ok : ∀ (n : Nat) {v : V} {k : Int} {Q : V → Mu → Prop}, okV n v → n < 50 → k + n ≤ 60 → (encV v).length ≤ 50000 → Q (.bytes (encV v)) μ → CallOK w (n + 3) (.ref 261) [v, .int k] μ Q := by
  intro n
  induction n with
  | zero =>
    intro v k Q hv hn hk hl hq
    cases v with
    | bytes b => exact encb_ok (m := 2) (by decide) (by decide) (by (first | lia | omega)) (Nat.le_trans (encB_ge b) hl) hq
    | _ => exact hv.elim
  | succ n ih =>
    intro v k Q hv hn hk hl hq
    cases v with
    | bytes b => exact encb_ok (m := n + 3) (by (first | lia | omega)) (by (first | lia | omega)) (by (first | lia | omega)) (Nat.le_trans (encB_ge b) hl) hq
    | list l =>
      have hl2 : (encVs l).length ≤ 50000 := by
        have : (encV (.list l)).length = (hdL 192 (encVs l).length ++ encVs l).length := rfl
        rw [List.length_append] at this; (first | lia | omega)
      refine fn_ok (k := n + 3) (k261 _) rfl (by (first | lia | omega)) ?_
      refine brF (by (first | lia | omega)) (isiL_ok (.inr ⟨rfl, rfl⟩) ?_)
      refine enc_loop rfl l [] .un (fun v hm => ⟨fun Q hq => ih (hv v hm) (by (first | lia | omega)) (by (first | lia | omega)) ?_ hq, ?_⟩) (by simpa using by (first | lia | omega)) fun p' => ?_
      · exact Nat.le_trans (encVs_ge hm) hl2
      · have := hv v hm
        intro e; subst e; cases n <;> exact this
      · refine lenB_ok (by simp; (first | lia | omega)) (CallOK.mono (k := 2) (head_ok (low := 192) (by decide) (by simp; (first | lia | omega)) ⟨⟨Nat.le_trans (hdL_length (by simp; (first | lia | omega))) (by decide), by simp; (first | lia | omega)⟩, hq⟩) (by (first | lia | omega)))
    | _ => first | exact no_some hv | exact no_ft hv | cases hv
theorem encd_ok {n : Nat} {v : V} {Q : V → Mu → Prop} (hv : okV n v) (hn : n < 50) (hl : (encV v).length ≤ 50000) (hq : Q (.bytes (encV v)) μ) : CallOK w (n + 4) (.ref 268) [v] μ Q := by
  refine fn_ok (k := n + 3) (k268 _) rfl (by (first | lia | omega)) ?_
  have key : CallOK w (n + 3) (.ref 261) [v, .int 0] μ fun v μ' => Q v μ' := enc_ok n hv hn (by (first | lia | omega)) hl hq
  cases v <;> first | exact key | (cases n <;> exact hv.elim)
end
set_option genInjectivity true in
structure Row where
  kind : Int
  chain : Int
  nonce : Int
  prio : Int
  cap : Int
  limit : Int
  target : Option Int
  value : Int
  data : List UInt8
  access : List (Int × List Int)
structure RowOK (r : Row) : Prop where
  kind : r.kind = 0 ∨ r.kind = 1 ∨ r.kind = 2
  chain : 0 ≤ r.chain ∧ r.chain < WB
  nonce : 0 ≤ r.nonce ∧ r.nonce < 18446744073709551616
  prio : 0 ≤ r.prio ∧ r.prio < WB
  cap : 0 ≤ r.cap ∧ r.cap < WB
  limit : 0 ≤ r.limit ∧ r.limit < 18446744073709551616
  target : ∀ a, r.target = some a → 0 ≤ a ∧ a < MOSTA
  value : 0 ≤ r.value ∧ r.value < WB
  data : r.data.length ≤ 1000
  one : r.kind ≠ 2 → r.prio = r.cap
  none : r.kind = 0 → r.access = []
  acc : ∀ p ∈ r.access, (0 ≤ p.1 ∧ p.1 < MOSTA) ∧ p.2.length ≤ 4 ∧ ∀ s ∈ p.2, 0 ≤ s ∧ s < WB
  accN : r.access.length ≤ 4
noncomputable def optV (o : Option Int) : V := match o with
  | none => .none
  | some a => .int a
noncomputable def accR (p : Int × List Int) : V := .tup [.int p.1, .list (p.2.map .int)]
noncomputable def accV (l : List (Int × List Int)) : V := .list (l.map accR)
noncomputable def txV (r : Row) (sg : V) : V := .inst 285 [.int r.kind, .int r.chain, .int r.nonce, .int r.prio, .int r.cap, .int r.limit, optV r.target, .int r.value, .bytes r.data, accV r.access, sg]
theorem brQ {b : Bool} {P R : Prop} (h : b = false) (r : R) : brq b P R := by subst h; exact r
theorem bandN {a b : Bool} {P : Prop} {F : Prop} (h : a = true → b = false) (p : P) : brq a (brq b F P) P := by
  cases a with
  | false => exact p
  | true => rw [h rfl]; exact p
theorem bandC {a b : Bool} {c P F : Prop} (h : a = true → c ∧ b = false) (p : P) : brq a (c ∧ brq b F P) P := by
  cases a with
  | false => exact p
  | true => obtain ⟨hc, rfl⟩ := h rfl; exact ⟨hc, p⟩
section
variable {w : World} {μ : Mu} {Q : V → Mu → Prop} {r : Row} {sg : V}
theorem nf_ok (ok : RowOK r) (hq : Q .none μ) : CallOK w 1 (.ref 303) [txV r sg] μ Q := by
  refine fn_ok (k := 0) (k303 _) rfl (by decide) ?_
  have h1 : (!([0, 1, 2] : List Int).any (· == r.kind)) = false := by rcases ok.kind with h | h | h <;> rw [h] <;> rfl
  refine brQ h1 ?_
  refine bandN (a := !decide (r.kind = 2)) (b := !decide (r.prio = r.cap)) (fun h => ?_) ?_
  · rw [decide_eq_true (ok.one (by simpa using h))]; rfl
  refine bandC (a := decide (r.kind = 0)) (b := !veq 6 (accV r.access) (.list [])) (c := cmpOK 6 (accV r.access) (.list []) = true) (fun h => ?_) ?_
  · rw [ok.none (of_decide_eq_true h)]; exact ⟨rfl, rfl⟩
  refine brT ok.nonce.1 (brnT ok.nonce.2 (brT ok.limit.1 (brnT ok.limit.2 ?_)))
  refine brT ok.chain.1 (brnT ok.chain.2 (brT ok.prio.1 (brnT ok.prio.2 (brT ok.cap.1 (brnT ok.cap.2 (brT ok.value.1 (brnT ok.value.2 ?_)))))))
  have fin : CallOK w 0 (.builtin "isinstance") [.bytes r.data, .raw (.type "bytes")] μ fun v μ' => truthQ v fun z => brq (!z) False (Q .none μ') := isiB_ok (.inl ⟨rfl, rfl⟩) hq
  have ht := ok.target
  clear ok h1
  obtain ⟨kind, chain, nonce, prio, cap, limit, target, value, data, access⟩ := r
  cases target with
  | none => exact fin
  | some a => exact brT (ht a rfl).1 (brnT (ht a rfl).2 fin)
end
noncomputable def rowV (p : Int × List Int) : V := .list [.bytes (AO p.1), .list (p.2.map fun s => .bytes (WO s))]
structure AccOK (p : Int × List Int) : Prop where
  adr : 0 ≤ p.1 ∧ p.1 < MOSTA
  num : p.2.length ≤ 4
  slot : ∀ s ∈ p.2, 0 ≤ s ∧ s < WB
section
variable {w : World} {μ : Mu} {Q : V → Mu → Prop}
theorem wo_map {k : Nat} (hk : 2 ≤ k) : ∀ l : List Int, MapOK w k (.ref 121) (l.map .int) (l.map fun s => .bytes (WO s))
  | [] => .nil
  | x :: l => .cons (fun _ => (wo_ok ⟨rfl, rfl⟩).mono hk) (wo_map hk l)
theorem all_in {hi : Int} : ∀ {l : List Int}, (∀ s ∈ l, 0 ≤ s ∧ s < hi) → allIn 0 hi (l.map .int)
  | [], _ => trivial
  | x :: l, h => ⟨h x (.head _), all_in fun s hs => h s (.tail _ hs)⟩
theorem acc_loop {A : V} {a : Addr} {K : List V → Mu → Prop} {R : PS} {b : T} (hb : b = .ife (.bor (.not (.cmp2 .LtE .Lt (.cint 0) (.var 2) (.glb 5))) (.cmp .NotEq (.flt 2 (.var 3)) (.lst .nil))) .dead .done (.app 1 (.lst (.cons (.call 16 (.cons (.var 2) .nil)) (.cons (.map 14 (.var 3)) .nil))) .done)) :
    ∀ (l : List (Int × List Int)) (acc : List V) (p s : V), (∀ x ∈ l, AccOK x) → acc.length + l.length ≤ 100 → (∀ p' s', K [A, .raw (.ref a), p', s'] (.lst a (acc ++ l.map rowV) :: μ)) →
      forQ [2, 3] (fun ρ μ R => wS w 3 b ρ μ R) K R (l.map accR) [A, .raw (.ref a), p, s] (.lst a acc :: μ)
  | [], acc, p, s, _, _, hK => by have := hK p s; rw [List.map_nil, List.append_nil] at this; exact this
  | x :: l, acc, p, s, hl, hn, hK => by
    have hx := hl x (.head _)
    have e : acc ++ (x :: l).map rowV = (acc ++ [rowV x]) ++ l.map rowV := by simp
    rw [e] at hK
    have ih := acc_loop (R := R) hb l (acc ++ [rowV x]) (.int x.1) (.list (x.2.map .int)) (fun u hu => hl u (.tail _ hu)) (by simp at hn ⊢; (first | lia | omega)) hK
    subst hb
    have h4 := hx.num
    simp at hn
    refine brT hx.adr.1 (brnT hx.adr.2 ⟨⟨by rw [List.length_map]; (first | lia | omega), all_in hx.slot⟩, rfl, ?_⟩)
    refine ⟨⟨acc, .head _⟩, ao_ok hx.adr.1 hx.adr.2 ⟨by rw [List.length_map]; (first | lia | omega), _, wo_map (by decide) x.2, ?_⟩⟩
    exact ⟨[], acc, _, μ, rfl, by (first | lia | omega), rfl, ih⟩
theorem acc_ok {l : List (Int × List Int)} (hl : ∀ x ∈ l, AccOK x) (hn : l.length ≤ 50) (hq : Q (.list (l.map rowV)) μ) : CallOK w 4 (.ref 308) [accV l] μ Q := by
  refine fn_ok (k := 3) (k308 _) rfl (by decide) ?_
  refine fun a => acc_loop rfl l [] .un .un hl (by simp; (first | lia | omega)) fun p s => ?_
  exact ⟨[], _, μ, rfl, hq⟩
end
noncomputable def tgtB : Option Int → List UInt8
  | none => []
  | some a => AO a
noncomputable def aheadL (r : Row) : List Int := (if r.kind = 0 then [] else [r.chain]) ++ ([r.nonce] ++ (if r.kind = 2 then [r.prio, r.cap] else [r.cap]) ++ [r.limit])
noncomputable def itemV (r : Row) : List V := ((aheadL r).map (fun n => .bytes (nOct n)) ++ [.bytes (tgtB r.target), .bytes (nOct r.value), .bytes r.data]) ++ (if r.kind = 0 then [] else [.list (r.access.map rowV)])
noncomputable def c313t : T := (.asg 3 (.ife (.cmp .Is (.attr (.var 0) 11) .cnone) (.cbytes []) (.call 16 (.cons (.attr (.var 0) 11) .nil))) (.asg 4 (.bin .Add (.map 25 (.var 2)) (.lst (.cons (.var 3) (.cons (.call 25 (.cons (.attr (.var 0) 12) .nil)) (.cons (.attr (.var 0) 13) .nil))))) (.ret (.ife (.cmp .Eq (.attr (.var 0) 5) (.cint 0)) (.var 4) (.bin .Add (.var 4) (.lst (.cons (.call 32 (.cons (.attr (.var 0) 14) .nil)) .nil)))))))
theorem RowOK.acc' {r : Row} (ok : RowOK r) : ∀ x ∈ r.access, AccOK x := fun x hx => ⟨(ok.acc x hx).1, (ok.acc x hx).2.1, (ok.acc x hx).2.2⟩
theorem ahead_ok {r : Row} (ok : RowOK r) : ∀ n ∈ aheadL r, 0 ≤ n ∧ n < WB := by
  have h1 := ok.chain
  have h2 : 0 ≤ r.nonce ∧ r.nonce < WB := ⟨ok.nonce.1, Int.lt_trans ok.nonce.2 (by decide)⟩
  have h3 := ok.prio
  have h4 := ok.cap
  have h5 : 0 ≤ r.limit ∧ r.limit < WB := ⟨ok.limit.1, Int.lt_trans ok.limit.2 (by decide)⟩
  intro n hn
  unfold aheadL at hn
  rcases List.mem_append.mp hn with hn | hn
  · split at hn
    · first | exact no_some hn | exact no_ft hn | cases hn
    · rw [List.mem_singleton.mp hn]; exact h1
  · rcases List.mem_append.mp hn with hn | hn
    · rcases List.mem_append.mp hn with hn | hn
      · rw [List.mem_singleton.mp hn]; exact h2
      · split at hn
        · rcases List.mem_cons.mp hn with rfl | hn
          · exact h3
          · rw [List.mem_singleton.mp hn]; exact h4
        · rw [List.mem_singleton.mp hn]; exact h4
    · rw [List.mem_singleton.mp hn]; exact h5
theorem ahead_len (r : Row) : (aheadL r).length ≤ 5 := by unfold aheadL; split <;> split <;> simp
section
variable {w : World} {μ : Mu} {Q : V → Mu → Prop} {r : Row} {sg : V}
theorem noct_map {k : Nat} (hk : 1 ≤ k) : ∀ l : List Int, (∀ n ∈ l, 0 ≤ n ∧ n < WB) → MapOK w k (.ref 247) (l.map .int) (l.map fun n => .bytes (nOct n))
  | [], _ => .nil
  | x :: l, h => .cons (fun _ => (noct_ok (h x (.head _)).1 (h x (.head _)).2 ⟨rfl, rfl⟩).mono hk) (noct_map hk l fun n hn => h n (.tail _ hn))
theorem item_tail (ok : RowOK r) {p : V} (hq : Q (.list (itemV r)) μ) : wS w 4 c313t [txV r sg, p, .list ((aheadL r).map .int), .un, .un] μ (retQ Q fun _ => False) := by
  have ha := ahead_ok ok
  have hl := ahead_len r
  have hv := ok.value
  have acc := ok.acc'
  have accN := ok.accN
  have ht := ok.target
  clear ok
  unfold itemV at hq
  have fin : ∀ t : List UInt8, t = tgtB r.target → wS w 4 (.asg 4 (.bin .Add (.map 25 (.var 2)) (.lst (.cons (.var 3) (.cons (.call 25 (.cons (.attr (.var 0) 12) .nil)) (.cons (.attr (.var 0) 13) .nil))))) (.ret (.ife (.cmp .Eq (.attr (.var 0) 5) (.cint 0)) (.var 4) (.bin .Add (.var 4) (.lst (.cons (.call 32 (.cons (.attr (.var 0) 14) .nil)) .nil))))))
      [txV r sg, p, .list ((aheadL r).map .int), .bytes t, .un] μ (retQ Q fun _ => False) := fun t e => by
    subst e
    refine ⟨by rw [List.length_map]; (first | lia | omega), _, noct_map (by decide) _ ha, ?_⟩
    refine CallOK.mono (k := 1) (k' := 4) (noct_ok hv.1 hv.2 ⟨⟨by rw [List.length_map]; (first | lia | omega), Nat.le_of_ble_eq_true rfl⟩, ?_⟩) (by decide)
    refine brI (fun h => ?_) fun h => ?_
    · have h : r.kind = 0 := h
      rw [if_pos h, List.append_nil] at hq
      exact hq
    · have h : ¬ r.kind = 0 := h
      rw [if_neg h] at hq
      refine acc_ok acc (by (first | lia | omega)) ⟨⟨?_, Nat.le_of_ble_eq_true rfl⟩, hq⟩
      rw [List.length_append, List.length_map]; show _ + 3 ≤ 100; (first | lia | omega)
  obtain ⟨kind, chain, nonce, prio, cap, limit, target, value, data, access⟩ := r
  cases target with
  | none => exact fin [] rfl
  | some a => exact CallOK.mono (k := 3) (k' := 4) (ao_ok (ht a rfl).1 (ht a rfl).2 (fin (AO a) rfl)) (by decide)
theorem item_ok (ok : RowOK r) (hq : Q (.list (itemV r)) μ) : CallOK w 5 (.ref 313) [txV r sg] μ Q := by
  refine fn_ok (k := 4) (k313 _) rfl (by decide) ?_
  refine CallOK.mono (k := 1) (k' := 4) (nf_ok ok ?_) (by decide)
  have fin := fun p => item_tail (w := w) (sg := sg) (p := p) ok hq
  unfold aheadL at fin
  clear hq ok
  refine brI (fun h => ?_) fun h => ?_
  · have h : r.kind = 2 := h
    rw [if_pos h, if_neg (by (first | lia | omega))] at fin
    refine ⟨⟨Nat.le_of_ble_eq_true rfl, Nat.le_of_ble_eq_true rfl⟩, ⟨Nat.le_of_ble_eq_true rfl, Nat.le_of_ble_eq_true rfl⟩, ?_⟩
    refine brnF (by (first | lia | omega)) ⟨⟨Nat.le_of_ble_eq_true rfl, Nat.le_of_ble_eq_true rfl⟩, fin _⟩
  · have h : ¬ r.kind = 2 := h
    rw [if_neg h] at fin
    refine ⟨⟨Nat.le_of_ble_eq_true rfl, Nat.le_of_ble_eq_true rfl⟩, ⟨Nat.le_of_ble_eq_true rfl, Nat.le_of_ble_eq_true rfl⟩, ?_⟩
    by_cases h0 : r.kind = 0
    · rw [if_pos h0] at fin
      exact brnT h0 (fin _)
    · rw [if_neg h0] at fin
      exact brnF h0 ⟨⟨Nat.le_of_ble_eq_true rfl, Nat.le_of_ble_eq_true rfl⟩, fin _⟩
end
noncomputable def tailV (r : Row) : List V := if r.kind = 0 ∧ r.chain ≠ 0 then [.bytes (nOct r.chain), .bytes [], .bytes []] else []
noncomputable def kindB (r : Row) : List UInt8 := if r.kind = 0 then [] else [r.kind.toNat.toUInt8]
noncomputable def sigB (r : Row) : List UInt8 := kindB r ++ encV (.list (itemV r ++ tailV r))
theorem encVs_len {B : Nat} : ∀ {l : List V}, (∀ v ∈ l, (encV v).length ≤ B) → (encVs l).length ≤ l.length * B
  | [], _ => Nat.zero_le _
  | v :: l, h => by
    show (encV v ++ encVs l).length ≤ _
    rw [List.length_append, List.length_cons, Nat.succ_mul]
    have := h v (.head _)
    have := encVs_len fun u hu => h u (.tail _ hu)
    (first | lia | omega)
theorem encb_len {b : List UInt8} {B : Nat} (h : b.length ≤ B) (hB : B ≤ 100000) : (encV (.bytes b)).length ≤ B + 4 := Nat.le_trans (encB_length (by (first | lia | omega))) (by (first | lia | omega))
theorem encl_len {l : List V} {n B : Nat} (hn : l.length ≤ n) (h : ∀ v ∈ l, (encV v).length ≤ B) (hB : n * B ≤ 100000) : (encV (.list l)).length ≤ n * B + 4 := by
  have h1 := encVs_len h
  have h2 := Nat.mul_le_mul_right B hn
  show (hdL 192 (encVs l).length ++ encVs l).length ≤ _
  rw [List.length_append]
  have := hdL_length (low := 192) (n := (encVs l).length) (by (first | lia | omega))
  (first | lia | omega)
theorem rowV_len {p : Int × List Int} (h : p.2.length ≤ 4) : (encV (rowV p)).length ≤ 400 := by
  refine Nat.le_trans (encl_len (n := 2) (B := 150) (Nat.le_refl 2) (fun v hv => ?_) (by decide)) (by decide)
  rcases List.mem_cons.mp hv with rfl | hv
  · exact Nat.le_trans (encb_len (B := 20) (by rw [AO_length]; exact Nat.le_refl _) (by decide)) (by decide)
  · rw [List.mem_singleton.mp hv]
    refine Nat.le_trans (encl_len (n := 4) (B := 36) (by rw [List.length_map]; exact h) (fun v hv => ?_) (by decide)) (by decide)
    obtain ⟨s, _, rfl⟩ := List.mem_map.mp hv
    exact encb_len (B := 32) (by rw [WO_length]; exact Nat.le_refl _) (by decide)
theorem tgtB_len (o : Option Int) : (tgtB o).length ≤ 20 := by cases o with
  | none => exact Nat.zero_le _
  | some a => exact Nat.le_of_eq (AO_length a)
theorem sig_all {r : Row} {P : V → Prop} (h1 : ∀ n ∈ aheadL r, P (.bytes (nOct n))) (h2 : P (.bytes (tgtB r.target))) (h3 : P (.bytes (nOct r.value))) (h4 : P (.bytes r.data)) (h5 : P (.list (r.access.map rowV))) (h6 : P (.bytes (nOct r.chain))) (h7 : P (.bytes [])) : ∀ v ∈ itemV r ++ tailV r, P v := by
  intro v hv
  unfold itemV tailV at hv
  rcases List.mem_append.mp hv with hv | hv
  · rcases List.mem_append.mp hv with hv | hv
    · rcases List.mem_append.mp hv with hv | hv
      · obtain ⟨n, hn, rfl⟩ := List.mem_map.mp hv; exact h1 n hn
      · rcases List.mem_cons.mp hv with rfl | hv
        · exact h2
        · rcases List.mem_cons.mp hv with rfl | hv
          · exact h3
          · rw [List.mem_singleton.mp hv]; exact h4
    · split at hv
      · first | exact no_some hv | exact no_ft hv | cases hv
      · rw [List.mem_singleton.mp hv]; exact h5
  · split at hv
    · rcases List.mem_cons.mp hv with rfl | hv
      · exact h6
      · rcases List.mem_cons.mp hv with rfl | hv
        · exact h7
        · rw [List.mem_singleton.mp hv]; exact h7
    · first | exact no_some hv | exact no_ft hv | cases hv
theorem sig_num (r : Row) : (itemV r ++ tailV r).length ≤ 12 := by
  have := ahead_len r
  unfold itemV tailV
  simp only [List.length_append, List.length_map]
  split <;> split <;> simp <;> (first | lia | omega)
theorem sig_len {r : Row} (ok : RowOK r) : (encV (.list (itemV r ++ tailV r))).length ≤ 20404 := by
  refine encl_len (B := 1700) (sig_num r) (sig_all ?_ ?_ ?_ ?_ ?_ ?_ ?_) (by decide)
  · intro n hn; exact Nat.le_trans (encb_len (nOct_length (ahead_ok ok n hn).2) (by decide)) (by decide)
  · exact Nat.le_trans (encb_len (tgtB_len _) (by decide)) (by decide)
  · exact Nat.le_trans (encb_len (nOct_length ok.value.2) (by decide)) (by decide)
  · exact Nat.le_trans (encb_len ok.data (by decide)) (by decide)
  · refine Nat.le_trans (encl_len (n := 4) (B := 400) (by rw [List.length_map]; exact ok.accN) (fun v hv => ?_) (by decide)) (by decide)
    obtain ⟨p, hp, rfl⟩ := List.mem_map.mp hv
    exact rowV_len (ok.acc p hp).2.1
  · exact Nat.le_trans (encb_len (nOct_length ok.chain.2) (by decide)) (by decide)
  · exact Nat.le_trans (encb_len (Nat.zero_le 0) (by decide)) (by decide)
theorem okb (n : Nat) (b : List UInt8) : okV n (.bytes b) := by cases n <;> trivial
theorem sig_okV (r : Row) : okV 4 (.list (itemV r ++ tailV r)) := by
  refine sig_all (P := okV 3) (fun n _ => okb _ _) (okb _ _) (okb _ _) (okb _ _) (fun v hv => ?_) (okb _ _) (okb _ _)
  obtain ⟨p, hp, rfl⟩ := List.mem_map.mp hv
  intro u hu
  rcases List.mem_cons.mp hu with rfl | hu
  · exact okb _ _
  · rw [List.mem_singleton.mp hu]
    intro x hx
    obtain ⟨s, _, rfl⟩ := List.mem_map.mp hx
    exact okb _ _
theorem kindB_len (r : Row) : (kindB r).length ≤ 1 := by unfold kindB; split <;> simp
theorem sigB_len {r : Row} (ok : RowOK r) : (sigB r).length ≤ 21000 := by
  unfold sigB; rw [List.length_append]; have := kindB_len r; have := sig_len ok; (first | lia | omega)
section
variable {w : World} {μ : Mu} {Q : V → Mu → Prop} {r : Row} {sg : V}
theorem kind_ok (ok : RowOK r) (hq : Q (.bytes (kindB r)) μ) : CallOK w 1 (.ref 320) [txV r sg] μ Q := by
  refine fn_ok (k := 0) (k320 _) rfl (by decide) ?_
  unfold kindB at hq
  refine brI (fun h => ?_) fun h => ?_
  · have h : r.kind = 0 := h
    rw [if_pos h] at hq; exact hq
  · have h : ¬ r.kind = 0 := h
    rw [if_neg h] at hq
    refine byI_ok (ns := [r.kind]) (fun x hx => ?_) (Nat.le_of_ble_eq_true rfl) hq
    rw [List.mem_singleton.mp hx]
    rcases ok.kind with h | h | h <;> (first | lia | omega)
theorem soct_ok (ok : RowOK r) (hq : Q (.bytes (sigB r)) μ) : CallOK w 9 (.ref 327) [txV r sg] μ Q := by
  refine fn_ok (k := 8) (k327 _) rfl (by decide) ?_
  refine CallOK.mono (k := 5) (k' := 8) (item_ok ok ?_) (by decide)
  have hn := sig_num r
  have fin : ∀ l, l = itemV r ++ tailV r → wS w 8 (.ret (.bin .Add (.call 34 (.cons (.var 0) .nil)) (.call 28 (.cons (.var 1) .nil)))) [txV r sg, .list l] μ (retQ Q fun _ => False) := fun l e => by
    subst e
    refine CallOK.mono (k := 1) (k' := 8) (kind_ok ok ?_) (by decide)
    have hl := sig_len ok
    have hk := kindB_len r
    exact encd_ok (n := 4) (v := .list (itemV r ++ tailV r)) (sig_okV r) (by decide) (by (first | lia | omega)) ⟨⟨by (first | lia | omega), by show (encV (.list (itemV r ++ tailV r))).length ≤ 100000; (first | lia | omega)⟩, hq⟩
  have hch := ok.chain
  unfold tailV at fin hn
  clear hq ok
  by_cases h : r.kind = 0
  · by_cases h2 : r.chain = 0
    · refine brT h (brnT h2 (fin _ ?_))
      rw [if_neg (fun q => q.2 h2), List.append_nil]
    · rw [if_pos ⟨h, h2⟩] at fin hn
      rw [List.length_append] at hn
      exact brT h (brnF h2 (CallOK.mono (k := 1) (k' := 8) (noct_ok hch.1 hch.2 ⟨⟨by (first | lia | omega), Nat.le_of_ble_eq_true rfl⟩, fin _ rfl⟩) (by decide)))
  · refine brF h (fin _ ?_)
    rw [if_neg (fun q => h q.1), List.append_nil]
end
section
variable {w : World} {k : Nat} {μ : Mu} {Q : V → Mu → Prop}
theorem setA_step {i j : Nat} {x C : Addr} {js fs : List Nat} {l ρ : List V} {μ1 μ2 : Mu} {v : V} {t : T} {R : PS} (hx : lget ρ 0 = .raw (.ref x)) (hv : lget ρ i = v) (hh : hnd v = true) (hfs : cTab.lookup C = some fs) (htk : fs.take (js.length + 1) = js ++ [j]) (hl : js.length ≤ 30)
    (q : wS w k t ρ (μ1 ++ .ins x C (js ++ [j]) (l ++ [v]) :: μ2) R) : wS w k (.setA 0 j (.var i) t) ρ (μ1 ++ .ins x C js l :: μ2) R := by
  have key : rawQ (lget ρ 0) fun a => ∃ C' js' l' μ1' μ2', μ1 ++ .ins x C js l :: μ2 = μ1' ++ .ins a C' js' l' :: μ2' ∧ ((∃ fs, cTab.lookup C' = some fs ∧ fs.take (js'.length + 1) = js' ++ [j]) ∧ js'.length ≤ 30) ∧ hnd v = true ∧ wS w k t ρ (μ1' ++ .ins a C' (js' ++ [j]) (l' ++ [v]) :: μ2') R := by
    rw [hx]
    exact ⟨C, js, l, μ1, μ2, rfl, ⟨⟨fs, hfs, htk⟩, hl⟩, hh, q⟩
  show (match lget ρ i with | .un => False | v => _)
  rw [hv]
  cases v <;> first | exact key | cases hh
theorem crv_ok (hq : Q CV μ) : CallOK w 3 (.ref 240) [] μ Q := by
  refine fn_ok (k := 2) (k240 _) rfl (by decide) ?_
  refine mk_ok (k := 0) (C := 194) (fI := 156) (fs := [0, 1, 2, 3]) (mk194 _) (k156 _) rfl rfl (by decide) fun x => ?_
  refine setA_step (μ1 := []) rfl rfl rfl rfl rfl (by decide) (setA_step (μ1 := []) rfl rfl rfl rfl rfl (by decide) (setA_step (μ1 := []) rfl rfl rfl rfl rfl (by decide) (setA_step (μ1 := []) rfl rfl rfl rfl rfl (by decide) ?_)))
  exact ⟨rfl, _, [], μ, rfl, hq⟩
theorem tx_mk {r : Row} {sg : V} (hs : hnd sg = true) (hq : Q (txV r sg) μ) : CallOK w 2 (.ref 285) [.int r.kind, .int r.chain, .int r.nonce, .int r.prio, .int r.cap, .int r.limit, optV r.target, .int r.value, .bytes r.data, accV r.access, sg] μ Q := by
  refine mk_ok (k := 0) (C := 285) (fI := 282) (fs := [5, 6, 7, 8, 9, 10, 11, 12, 13, 14, 15]) (mk285 _) (k282 _) rfl rfl (by decide) fun x => ?_
  have ht : hnd (optV r.target) = true := by cases r.target <;> rfl
  refine setA_step (μ1 := []) rfl rfl rfl rfl rfl (by decide) (setA_step (μ1 := []) rfl rfl rfl rfl rfl (by decide) (setA_step (μ1 := []) rfl rfl rfl rfl rfl (by decide) (setA_step (μ1 := []) rfl rfl rfl rfl rfl (by decide) (setA_step (μ1 := []) rfl rfl rfl rfl rfl (by decide) (setA_step (μ1 := []) rfl rfl rfl rfl rfl (by decide)
    (setA_step (μ1 := []) rfl rfl ht rfl rfl (by decide) (setA_step (μ1 := []) rfl rfl rfl rfl rfl (by decide) (setA_step (μ1 := []) rfl rfl rfl rfl rfl (by decide) (setA_step (μ1 := []) rfl rfl rfl rfl rfl (by decide) (setA_step (μ1 := []) rfl rfl hs rfl rfl (by decide) ?_))))))))))
  exact ⟨rfl, _, [], μ, rfl, hq⟩
theorem set_mk {kd : Addr} (hq : Q (setV kd) μ) : CallOK w 2 (.ref 358) [dgV kd, CV, .int 1, .int 64, .int 20] μ Q := by
  refine mk_ok (k := 0) (C := 358) (fI := 355) (fs := [16, 17, 6, 18, 19]) (mk358 _) (k355 _) rfl rfl (by decide) fun x => ?_
  have key : wS w 0 (.setA 0 16 (.var 1) (.setA 0 17 (.var 2) (.setA 0 6 (.var 3) (.setA 0 18 (.var 4) (.setA 0 19 (.var 5) .done))))) [.raw (.ref x), dgV kd, CV, .int 1, .int 64, .int 20] (.ins x 358 [] [] :: μ) fun r _ μ' => r = .next ∧ ∃ l μ1 μ2, μ' = μ1 ++ .ins x 358 [16, 17, 6, 18, 19] l :: μ2 ∧ Q (.inst 358 l) (μ1 ++ μ2) := by
    refine setA_step (μ1 := []) rfl rfl rfl rfl rfl (by decide) (setA_step (μ1 := []) rfl rfl rfl rfl rfl (by decide) (setA_step (μ1 := []) rfl rfl rfl rfl rfl (by decide) (setA_step (μ1 := []) rfl rfl rfl rfl rfl (by decide) (setA_step (μ1 := []) rfl rfl rfl rfl rfl (by decide) ?_))))
    exact ⟨rfl, _, [], μ, rfl, hq⟩
  exact key
noncomputable abbrev dg0 : Dg := ⟨fun _ => none, 0⟩
theorem known0 : KnownO w (dictOf [] 0) dg0 := by
  refine ⟨[], [], ?_, .nil, rfl, fun _ => rfl⟩
  obtain ⟨o, ho, hd⟩ := Heap.dictOf_iff.mp (Heap.DictOf.new (knd := PySem.intKind PR w) default)
  rw [Heap.get?_push_size _ rfl] at ho
  cases ho; exact hd
theorem num_mk (hq : ∀ kd, DK w kd (dictOf [] 0) dg0 → Q (dgV kd) (.obj (kd, dictOf [] 0) :: μ)) : CallOK w 2 (.ref 52) [] μ Q := by
  refine mk_ok (k := 0) (C := 52) (fI := 35) (fs := [4]) (mk52 _) (k35 _) rfl rfl (by decide) fun x => ?_
  refine fun a ha => ⟨52, [], [], [.obj (a, dictOf [] 0)], μ, rfl, ⟨⟨[4], rfl, rfl⟩, by decide⟩, rfl, ?_⟩
  exact ⟨rfl, _, [.obj (a, dictOf [] 0)], μ, rfl, hq a ⟨ha, known0, ⟨fun _ _ h => (by cases h), fun _ _ _ h => (by cases h)⟩⟩⟩
end
noncomputable abbrev rowL (r : Row) : List V := [.int r.kind, .int r.chain, .int r.nonce, .int r.prio, .int r.cap, .int r.limit, optV r.target, .int r.value, .bytes r.data, accV r.access]
section
variable {w : World} {μ : Mu} {Q : V → Mu → Prop} {r : Row} {sg : V}
theorem wsig_ok {sg2 : V} (hs : hnd sg2 = true) (hq : Q (txV r sg2) μ) : CallOK w 3 (.ref 296) [txV r sg, sg2] μ Q := by
  refine fn_ok (k := 2) (k296 _) rfl (by decide) ?_
  have key := tx_mk (w := w) (μ := μ) (Q := Q) hs hq
  clear hq
  cases sg2 <;> first | exact key | cases hs
theorem lawtx_ok {sg2 : V} (hs : hnd sg2 = true) (hn : r.access.length ≤ 50) (hq : Q (txV r sg2) μ) : CallOK w 3 (.ref 418) [.list (rowL r), sg2] μ Q := by
  refine fn_ok (k := 2) (k418 _) rfl (by decide) ?_
  have key := tx_mk (w := w) (μ := μ) (Q := Q) hs hq
  clear hq
  have l10 : (10 : Nat) ≤ 1000 := by decide
  have la : (r.access.map accR).length ≤ 100000 := by rw [List.length_map]; (first | lia | omega)
  refine ⟨l10, _, rfl, ⟨l10, _, rfl, ⟨l10, _, rfl, ⟨l10, _, rfl, ⟨l10, _, rfl, ⟨l10, _, rfl, ⟨l10, _, rfl, ⟨l10, _, rfl, ⟨l10, _, rfl, ⟨l10, _, rfl, listF_ok la ?_⟩⟩⟩⟩⟩⟩⟩⟩⟩⟩
  cases sg2 <;> first | exact key | cases hs
theorem flds_ok (hq : Q (.list (rowL r)) μ) : CallOK w 1 (.ref 425) [txV r sg] μ Q := by
  refine fn_ok (k := 0) (k425 _) rfl (by decide) ?_
  exact ⟨⟨Nat.le_of_ble_eq_true rfl, Nat.le_of_ble_eq_true rfl⟩, hq⟩
end
section
variable {w : World} {kd : Addr} {ko : Obj} {D : Dg} {μ1 μ2 : Mu} {Q : V → Mu → Prop} {r : Row} {sg : V}
theorem lword_ok (h : DK w kd ko D) (hs : D.n ≤ 1000) (ok : RowOK r) (hq : ∀ o', DK w kd o' (D.add (keyOf (sigB r))) → Q (.int (wordN (D.num (keyOf (sigB r))))) (μ1 ++ .obj (kd, o') :: μ2)) :
    CallOK w 10 (.ref 432) [dgV kd, .list (rowL r)] (μ1 ++ .obj (kd, ko) :: μ2) Q := by
  refine fn_ok (k := 9) (k432 _) rfl (by decide) ?_
  refine CallOK.mono (k := 3) (k' := 9) (lawtx_ok (sg2 := .none) rfl (Nat.le_trans ok.accN (by decide)) ?_) (by decide)
  refine soct_ok ok ?_
  exact CallOK.mono (k := 4) (k' := 9) (of_ok h hs (Nat.le_trans (sigB_len ok) (by decide)) fun o' hD => ⟨rfl, by rw [digB_length]; decide, hq o' hD⟩) (by decide)
end
section
variable {w : World} {kd : Addr} {ko : Obj} {D : Dg} {μ1 μ2 : Mu} {Q : V → Mu → Prop} {X : Mu → Prop} {r : Row} {sg : V}
/-- what a signing gives -/
noncomputable def sgnQ (o : Option (Int × Int × Int)) (r : Row) (Q : V → Mu → Prop) (X : Mu → Prop) (μ : Mu) : Prop := match o with
  | some q => Q (txV r (T3V q)) μ
  | none => X μ
theorem signed_ok {secret k px py : Int} (h : DK w kd ko D) (hs : D.n ≤ 1000) (ok : RowOK r) (hsec : 0 < secret ∧ secret < 79) (hp : 0 < px ∧ px ≤ 66) (hy : 0 ≤ py ∧ py ≤ 66) (ht : timesL k (2, 22) = some (px, py))
    (hq : ∀ o', DK w kd o' (D.add (keyOf (sigB r))) → sgnQ (sigL secret (wordN (D.num (keyOf (sigB r)))) k px py) r Q X (μ1 ++ .obj (kd, o') :: μ2)) : CallX w 11 (.ref 334) [txV r sg, .int secret, .int k, setV kd] (μ1 ++ .obj (kd, ko) :: μ2) Q X := by
  refine fn_okX (k := 10) (k334 _) rfl (by decide) ?_
  refine CallOK.mono (k := 9) (k' := 10) (soct_ok ok ?_) (by decide)
  refine CallOK.mono (k := 5) (k' := 10) (word_of_ok h hs (Nat.le_trans (sigB_len ok) (by decide)) fun o' hD => ?_) (by decide)
  have hq := hq o' hD
  refine CallOK.mono (k := 4) (k' := 10) (sig_ok hsec hp hy ht ?_) (by decide)
  revert hq
  cases sigL secret (wordN (D.num (keyOf (sigB r)))) k px py with
  | none => exact fun hq => ⟨by decide, hq⟩
  | some q => exact fun hq => CallOK.mono (k := 3) (k' := 10) (wsig_ok (sg2 := T3V q) rfl hq) (by decide)
/-- what asking for the sender gives -/
noncomputable def sndQ (w : World) (kd : Addr) (D : Dg) (o : Option (Int × Int)) (Q : V → Mu → Prop) (X : Mu → Prop) (μ1 μ2 : Mu) : Prop := match o with
  | some q => ∀ o', DK w kd o' (D.add (keyOf (PO q.1 q.2))) → Q (.int (homeN (D.num (keyOf (PO q.1 q.2))))) (μ1 ++ .obj (kd, o') :: μ2)
  | none => ∀ o', DK w kd o' D → X (μ1 ++ .obj (kd, o') :: μ2)
theorem sender_big {par rr ss : Int} (hbig : 39 < ss) (hx : X (μ1 ++ .obj (kd, ko) :: μ2)) : CallX w 11 (.ref 341) [txV r (T3V (par, rr, ss)), setV kd] (μ1 ++ .obj (kd, ko) :: μ2) Q X := by
  refine fn_okX (k := 10) (k341 _) rfl (by decide) ?_
  refine ⟨⟨by decide, by decide, by decide⟩, ?_⟩
  exact brT (c := Int.fdiv 79 2 < ss) hbig ⟨by decide, hx⟩
theorem sender_ok {par rr ss lx ly : Int} (h : DK w kd ko D) (hs : D.n ≤ 999) (ok : RowOK r) (hpa : par = 0 ∨ par = 1) (hr : 0 < rr ∧ rr < 79) (hss : 0 < ss ∧ ss ≤ 39) (hl : liftL rr par = some (lx, ly)) (hx : 0 ≤ lx ∧ lx ≤ 66) (hy : 0 ≤ ly ∧ ly ≤ 66)
    (hq : sndQ w kd (D.add (keyOf (sigB r))) (recL (wordN (D.num (keyOf (sigB r)))) rr ss lx ly) Q X μ1 μ2) : CallX w 11 (.ref 341) [txV r (T3V (par, rr, ss)), setV kd] (μ1 ++ .obj (kd, ko) :: μ2) Q X := by
  refine fn_okX (k := 10) (k341 _) rfl (by decide) ?_
  refine ⟨⟨by decide, by decide, by decide⟩, ?_⟩
  refine brF (c := Int.fdiv 79 2 < ss) (by have : Int.fdiv 79 2 = 39 := rfl; (first | lia | omega)) ?_
  refine CallOK.mono (k := 9) (k' := 10) (soct_ok ok ?_) (by decide)
  refine CallOK.mono (k := 5) (k' := 10) (word_of_ok h (by (first | lia | omega)) (Nat.le_trans (sigB_len ok) (by decide)) fun o' hD => ?_) (by decide)
  refine CallOK.mono (k := 4) (k' := 10) (rec_ok hpa hr ⟨hss.1, by show ss < 79; (first | lia | omega)⟩ hl hx hy ?_) (by decide)
  have hP : P67 (recL (wordN (D.num (keyOf (sigB r)))) rr ss lx ly) := aAdd_P (times_P _ _) (times_P _ _)
  have hn := Dg.add_n (D := D) (k := keyOf (sigB r))
  revert hq hP
  cases recL (wordN (D.num (keyOf (sigB r)))) rr ss lx ly with
  | none => exact fun hq _ => ⟨by decide, hq o' hD⟩
  | some q => exact fun hq hP => CallOK.mono (k := 6) (k' := 10) (aop_ok hD (by (first | lia | omega)) (hP q rfl).1 (hP q rfl).2 hq) (by decide)
theorem lsgn_ok {secret k px py : Int} (h : DK w kd ko D) (hs : D.n ≤ 1000) (ok : RowOK r) (hsec : 0 < secret ∧ secret < 79) (hp : 0 < px ∧ px ≤ 66) (hy : 0 ≤ py ∧ py ≤ 66) (ht : timesL k (2, 22) = some (px, py))
    (hq : ∀ o', DK w kd o' (D.add (keyOf (sigB r))) → sgnQ (sigL secret (wordN (D.num (keyOf (sigB r)))) k px py) r Q (Q .none) (μ1 ++ .obj (kd, o') :: μ2)) : CallOK w 60 (.ref 439) [.list (rowL r), .int secret, .int k, setV kd] (μ1 ++ .obj (kd, ko) :: μ2) Q := by
  refine fn_try (X := Q .none) (k439 _) rfl ?_ fun _ h => h
  refine CallOK.mono (k := 3) (k' := 59) (lawtx_ok (sg2 := .none) rfl (Nat.le_trans ok.accN (by decide)) ?_) (by decide)
  exact CallX.mono (k := 11) (k' := 59) (signed_ok h hs ok hsec hp hy ht hq) (by decide)
theorem lwho_big {par rr ss : Int} (hbig : 39 < ss) (hx : Q .none (μ1 ++ .obj (kd, ko) :: μ2)) : CallOK w 60 (.ref 446) [txV r (T3V (par, rr, ss)), setV kd] (μ1 ++ .obj (kd, ko) :: μ2) Q :=
  fn_try (X := Q .none) (k446 _) rfl (CallX.mono (k := 11) (k' := 59) (sender_big hbig hx) (by decide)) fun _ h => h
theorem lwho_ok {par rr ss lx ly : Int} (h : DK w kd ko D) (hs : D.n ≤ 999) (ok : RowOK r) (hpa : par = 0 ∨ par = 1) (hr : 0 < rr ∧ rr < 79) (hss : 0 < ss ∧ ss ≤ 39) (hl : liftL rr par = some (lx, ly)) (hx : 0 ≤ lx ∧ lx ≤ 66) (hy : 0 ≤ ly ∧ ly ≤ 66)
    (hq : sndQ w kd (D.add (keyOf (sigB r))) (recL (wordN (D.num (keyOf (sigB r)))) rr ss lx ly) Q (Q .none) μ1 μ2) : CallOK w 60 (.ref 446) [txV r (T3V (par, rr, ss)), setV kd] (μ1 ++ .obj (kd, ko) :: μ2) Q :=
  fn_try (X := Q .none) (k446 _) rfl (CallX.mono (k := 11) (k' := 59) (sender_ok h hs ok hpa hr hss hl hx hy hq) (by decide)) fun _ h => h
theorem snd_ok {par rr ss lx ly : Int} (h : DK w kd ko D) (hs : D.n ≤ 999) (ok : RowOK r) (hpa : par = 0 ∨ par = 1) (hr : 0 < rr ∧ rr < 79) (hss : 0 < ss ∧ ss ≤ 39) (hl : liftL rr par = some (lx, ly)) (hx : 0 ≤ lx ∧ lx ≤ 66) (hy : 0 ≤ ly ∧ ly ≤ 66)
    (hq : sndQ w kd (D.add (keyOf (sigB r))) (recL (wordN (D.num (keyOf (sigB r)))) rr ss lx ly) Q (fun _ => False) μ1 μ2) : CallOK w 11 (.ref 341) [txV r (T3V (par, rr, ss)), setV kd] (μ1 ++ .obj (kd, ko) :: μ2) Q := (sender_ok h hs ok hpa hr hss hl hx hy hq).ok
end
/-- the well: the script's first numbers, the spot, a figure of 0 to 100 -/
structure WK (wl : List V) : Prop where
  ex : ∃ (ns : List Int) (spot acc : Int), wl = [.list (ns.map .int), .int spot, .int acc] ∧ ns.length ≤ 40 ∧ 0 ≤ spot ∧ 0 ≤ acc ∧ acc ≤ 100
section
variable {w : World} {wa : Addr} {wl : List V} {μ1 μ2 : Mu} {Q : V → Mu → Prop}
theorem draw_ok {many : Int} (h : WK wl) (hm : 0 < many) (hq : ∀ v wl', 0 ≤ v → v < many → WK wl' → Q (.int v) (μ1 ++ .lst wa wl' :: μ2)) : CallOK w 1 (.ref 369) [.raw (.ref wa), .int many] (μ1 ++ .lst wa wl :: μ2) Q := by
  obtain ⟨ns, spot, acc, rfl, hn, h0, ha, hb⟩ := h.ex
  refine fn_ok (k := 0) (k369 _) rfl (by decide) ?_
  have l3 : (3 : Nat) ≤ 1000 := by decide
  have mem : ∀ l : List V, Cell.lst wa l ∈ μ1 ++ .lst wa l :: μ2 := fun l => List.mem_append_right _ (.head _)
  have hl : (ns.map V.int).length ≤ 1000000 := by rw [List.length_map]; (first | lia | omega)
  have fin : ∀ fed : Int, (spot < ((ns.map V.int).length : Int) → True) → wS w 0 (.setII 0 1 2 (.tup (.cons (.bin .Add (.var 2) (.cint 1)) (.cons (.bin .Mod (.bin .Add (.bin .Add (.bin .Mult (.sub (.var 0) (.cint 2)) (.cint 7)) (.bin .Mod (.var 3) (.cint 101))) (.cint 3)) (.cint 101)) .nil))) (.ret (.ife (.cmp .Lt (.var 2) (.call 53 (.cons (.sub (.var 0) (.cint 0)) .nil))) (.bin .Mod (.var 3) (.var 1)) (.bin .Mod (.sub (.var 0) (.cint 2)) (.var 1)))))
      [.raw (.ref wa), .int many, .int spot, .int fed] (μ1 ++ .lst wa [.list (ns.map .int), .int spot, .int acc] :: μ2) (retQ Q fun _ => False) := fun fed _ => by
    refine ⟨_, mem _, l3, 2, _, rfl, rfl, mulI (.inr ⟨by decide, by decide⟩) (modI (by decide) fun r1 _ _ _ => modI (by decide) fun r2 _ z0 z1 => ?_)⟩
    refine ⟨_, _, rfl, μ1, _, _, μ2, rfl, l3, ⟨⟨Nat.le_of_ble_eq_true rfl, Nat.le_of_ble_eq_true rfl⟩, rfl⟩, ?_⟩
    have hw : WK [.list (ns.map .int), .int (spot + 1), .int r2] := ⟨ns, spot + 1, r2, rfl, hn, by (first | lia | omega), z0, by (first | lia | omega)⟩
    refine ⟨_, mem _, l3, 0, _, rfl, rfl, lenL_ok hl (brI (fun h => ?_) fun h => ?_)⟩
    · exact modI hm fun v _ v0 v1 => hq v _ v0 v1 hw
    · exact ⟨_, mem _, l3, 2, _, rfl, rfl, modI hm fun v _ v0 v1 => hq v _ v0 v1 hw⟩
  refine ⟨_, mem _, l3, 1, _, rfl, rfl, ?_⟩
  refine ⟨_, mem _, l3, 0, _, rfl, rfl, lenL_ok hl (brI (fun h => ?_) fun h => ?_)⟩
  · refine ⟨_, mem _, l3, 0, _, rfl, rfl, by rw [List.length_map]; (first | lia | omega), ?_⟩
    have h : spot < ((ns.map V.int).length : Int) := h
    rw [List.length_map] at h
    have hlt : spot.toNat < ns.length := by (first | lia | omega)
    refine ⟨.int ns[spot.toNat], ?_, fin _ fun _ => trivial⟩
    unfold idx
    rw [if_pos h0, List.getElem?_map, List.getElem?_eq_getElem hlt]; rfl
  · exact fin spot fun _ => trivial
theorem one_ok {menu : List V} (h : WK wl) (hm : menu ≠ []) (hn : menu.length ≤ 1000) (hq : ∀ v wl', v ∈ menu → WK wl' → Q v (μ1 ++ .lst wa wl' :: μ2)) : CallOK w 2 (.ref 376) [.raw (.ref wa), .tup menu] (μ1 ++ .lst wa wl :: μ2) Q := by
  refine fn_ok (k := 1) (k376 _) rfl (by decide) ?_
  refine lenT_ok (by (first | lia | omega)) (draw_ok h (by have := List.length_pos_iff.mpr hm; (first | lia | omega)) fun v wl' v0 v1 hw => ?_)
  have hlt : v.toNat < menu.length := by (first | lia | omega)
  refine ⟨hn, menu[v.toNat], ?_, hq _ wl' (List.getElem_mem hlt) hw⟩
  unfold idx
  rw [if_pos v0, List.getElem?_eq_getElem hlt]
end
noncomputable def invN (p i : Nat) : Nat := i ^ (p - 2) % p
noncomputable def invS (p : Nat) : Bool := decide (3 ≤ p) && (decide (p ≤ 100) && ((List.range (p - 2)).all fun j => ((p - p / (2 + j)) * invN p (p % (2 + j))) % p == invN p (2 + j)))
theorem inv67 : invS 67 = true := by decide +kernel
theorem inv79 : invS 79 = true := by decide +kernel
theorem seq_pos {n : Int} {len : Nat} (h0 : 0 ≤ n) (h1 : n < len) : seqIndex? n len = some n.toNat := by
  simp [seqIndex?, show ¬ n < 0 by (first | lia | omega), h0, h1]
theorem inv0 (p : Nat) (h : 3 ≤ p) : ([.int 0, .int 1] : List V) = (List.range 2).map fun i => .int (invN p i : Nat) := by
  have e0 : invN p 0 = 0 := by
    unfold invN
    obtain ⟨q, hq⟩ : ∃ q, p - 2 = q + 1 := ⟨p - 3, by (first | lia | omega)⟩
    rw [hq, Nat.pow_succ, Nat.mul_zero, Nat.zero_mod]
  have e1 : invN p 1 = 1 := by unfold invN; rw [Nat.one_pow, Nat.mod_eq_of_lt (by (first | lia | omega))]
  rw [show List.range 2 = [0, 1] from rfl, List.map_cons, List.map_cons, List.map_nil, e0, e1]; rfl
section
variable {w : World} {μ : Mu} {Q : V → Mu → Prop}
theorem inv_ok {p : Nat} (hp : invS p = true) (hq : Q (.list ((List.range p).map fun i => .int (invN p i : Nat))) μ) : CallOK w 1 (.ref 383) [.int (p : Int)] μ Q := by
  obtain ⟨h3, hp⟩ := and_ex hp
  obtain ⟨h100, hst⟩ := and_ex hp
  have h3 : 3 ≤ p := of_decide_eq_true h3
  have h100 : p ≤ 100 := of_decide_eq_true h100
  refine fn_ok (k := 0) (k383 _) rfl (by decide) ?_
  refine fun a => ⟨⟨⟨by (first | lia | omega), by (first | lia | omega)⟩, by decide⟩, fun j ρ ν => (∃ x, ρ = [.int (p : Int), .raw (.ref a), x]) ∧ ν = .lst a ((List.range (j + 2)).map fun i => .int (invN p i : Nat)) :: μ, ⟨⟨.un, rfl⟩, by rw [← inv0 p h3]⟩, ?_, ?_⟩
  · rintro j _ _ hj ⟨⟨x, rfl⟩, rfl⟩
    have hj : 2 + j < p := by (first | lia | omega)
    have hlen : ((List.range (j + 2)).map fun i => V.int (invN p i : Nat)).length = j + 2 := by rw [List.length_map, List.length_range]
    have hs := List.all_eq_true.mp hst j (List.mem_range.mpr (by (first | lia | omega)))
    have hs : ((p - p / (2 + j)) * invN p (p % (2 + j))) % p = invN p (2 + j) := eq_of_beq hs
    refine ⟨⟨_, .head _⟩, ⟨⟨show (0 : Int) < 2 + (j : Int) by (first | lia | omega), show smallI (2 + (j : Int)) from ⟨by (first | lia | omega), by (first | lia | omega)⟩⟩, modI (show (0 : Int) < 2 + (j : Int) by (first | lia | omega)) fun r hr r0 r1 => ?_⟩⟩
    have er : r.toNat = p % (2 + j) := by
      rw [hr]
      show (Int.fmod (p : Int) ((2 + j : Nat) : Int)).toNat = _
      exact fmodN p (2 + j)
    have ed : Int.fdiv (p : Int) (((2 : Nat) : Int) + (j : Int)) = ((p / (2 + j) : Nat) : Int) := by
      show Int.fdiv (p : Int) ((2 + j : Nat) : Int) = _
      rw [Int.fdiv_eq_ediv_of_nonneg _ (by (first | lia | omega))]; rfl
    have hle : p / (2 + j) ≤ p := Nat.div_le_self _ _
    generalize p / (2 + j) = d at hs ed hle
    have e9 : ((List.range (j + 1 + 2)).map fun i => V.int (invN p i : Nat)) = ((List.range (j + 2)).map fun i => V.int (invN p i : Nat)) ++ [.int (invN p (2 + j) : Nat)] := by
      rw [show j + 1 + 2 = (j + 2) + 1 from rfl, List.range_succ, List.map_append, Nat.add_comm 2 j]; rfl
    refine ⟨_, .head _, by rw [hlen]; (first | lia | omega), r.toNat, .int (invN p r.toNat : Nat), ?_, ?_, ?_⟩
    · rw [hlen]; exact seq_pos r0 (by (first | lia | omega))
    · rw [List.getElem?_map, List.getElem?_range (by (first | lia | omega))]; rfl
    · rw [ed]
      refine mulI (.inl ⟨by (first | lia | omega), by (first | lia | omega)⟩) (modI (show (0 : Int) < (p : Int) by (first | lia | omega)) fun v hv _ _ => ?_)
      refine ⟨[], _, _, μ, rfl, by rw [hlen]; (first | lia | omega), rfl, rfl, ⟨_, rfl⟩, ?_⟩
      have ev : v = ((invN p (2 + j) : Nat) : Int) := by
        rw [hv, er, show ((p : Int) - ((d : Nat) : Int)) = ((p - d : Nat) : Int) by (first | lia | omega), ← Int.natCast_mul, fmodNat, hs]
      rw [ev, e9]; rfl
  · rintro _ _ ⟨⟨x, rfl⟩, rfl⟩
    refine ⟨[], _, μ, rfl, ?_⟩
    have e : ((p : Int) - ((2 : Nat) : Int)).toNat + 2 = p := by (first | lia | omega)
    rw [e]
    exact hq
end
noncomputable def TBL : List (Option (Int × Int)) := [none, some (2, 22), some (52, 7), some (62, 63), some (25, 17), some (46, 40), some (11, 20), some (16, 63), some (21, 42), some (13, 44), some (56, 4), some (24, 30), some (14, 65), some (55, 17), some (5, 20), some (53, 12), some (26, 30), some (54, 50), some (66, 26), some (38, 26), some (51, 47), some (12, 44), some (23, 39), some (58, 22), some (7, 45), some (47, 39), some (6, 42), some (17, 37), some (49, 65), some (63, 12), some (42, 23), some (48, 7), some (64, 39), some (34, 60), some (40, 25), some (18, 12), some (61, 40), some (30, 41), some (27, 40), some (4, 65), some (4, 2), some (27, 27), some (30, 26), some (61, 27), some (18, 55), some (40, 42), some (34, 7), some (64, 28), some (48, 60), some (42, 44), some (63, 55), some (49, 2), some (17, 30), some (6, 25), some (47, 28), some (7, 22), some (58, 45), some (23, 28), some (12, 23), some (51, 20), some (38, 41), some (66, 41), some (54, 17), some (26, 37), some (53, 55), some (5, 47), some (55, 50), some (14, 2), some (24, 37), some (56, 63), some (13, 23), some (21, 25), some (16, 4), some (11, 47), some (46, 27), some (25, 50), some (62, 4), some (52, 60), some (2, 45)]
noncomputable def TB (i : Nat) : Option (Int × Int) := TBL.getD i none
noncomputable def stepS (j : Nat) : Bool := match TB (j + 1), TB (j + 2) with
  | some p, some q =>
    let slope : Int := if j = 0 then 3 * 2 * 2 * (invN 67 (2 * 22 % 67) : Nat) else (p.2 - 22) * (invN 67 ((p.1 - 2).fmod 67).toNat : Nat)
    decide (0 ≤ p.1 ∧ p.1 ≤ 66 ∧ 0 ≤ p.2 ∧ p.2 ≤ 66) && (decide (q.1 = (slope * slope - 2 - p.1).fmod 67) && decide (q.2 = (slope * (2 - q.1) - 22).fmod 67))
  | _, _ => false
theorem step_all : (List.range 77).all stepS = true := by decide +kernel
theorem stepS_ex {j : Nat} (h : stepS j = true) : ∃ p q slope, TB (j + 1) = some p ∧ TB (j + 2) = some q ∧ slope = (if j = 0 then 3 * 2 * 2 * (invN 67 (2 * 22 % 67) : Nat) else (p.2 - 22) * (invN 67 ((p.1 - 2).fmod 67).toNat : Nat) : Int) ∧ (0 ≤ p.1 ∧ p.1 ≤ 66 ∧ 0 ≤ p.2 ∧ p.2 ≤ 66) ∧ q.1 = (slope * slope - 2 - p.1).fmod 67 ∧ q.2 = (slope * (2 - q.1) - 22).fmod 67 := by
  unfold stepS at h
  cases h1 : TB (j + 1) with
  | none => rw [h1] at h; cases h
  | some p => cases h2 : TB (j + 2) with
    | none => rw [h1, h2] at h; cases h
    | some q =>
      rw [h1, h2] at h
      obtain ⟨a, b⟩ := and_ex h
      obtain ⟨b, c⟩ := and_ex b
      exact ⟨p, q, _, rfl, rfl, rfl, of_decide_eq_true a, of_decide_eq_true b, of_decide_eq_true c⟩
noncomputable abbrev tblV : List V := TBL.map T2V
theorem tbl_get {i : Nat} (h : i < 79) : tblV[i]? = some (T2V (TB i)) := by
  rw [List.getElem?_map]
  unfold TB
  rw [List.getD_eq_getElem?_getD, List.getElem?_eq_getElem (show i < TBL.length from h)]
  rfl
theorem tbl_take {i : Nat} (h : i < 79) : tblV.take (i + 1) = tblV.take i ++ [T2V (TB i)] := by
  rw [List.take_add_one, tbl_get h]; rfl
theorem seq_neg {len : Nat} (h : 0 < len) : seqIndex? (-1) len = some (len - 1) := by
  have e : ((len : Int) - 1).toNat = len - 1 := by rw [← Int.natCast_one, ← Int.natCast_sub h]; rfl
  simp [seqIndex?, show (-1 : Int) + len = len - 1 by (first | lia | omega), e]
  (first | lia | omega)
theorem inv_lt (p i : Nat) (h : 0 < p) : invN p i < p := Nat.mod_lt _ h
section
variable {w : World} {μ : Mu} {Q : V → Mu → Prop}
theorem mult_ok (hq : Q (.list tblV) μ) : CallOK w 2 (.ref 390) [] μ Q := by
  refine fn_ok (k := 1) (k390 _) rfl (by decide) ?_
  refine fun a => inv_ok inv67 ⟨[.raw (.ref a), .list ((List.range 67).map fun i => .int (invN 67 i : Nat))], [.int 2, .int 22], rfl, ?_⟩
  have len67 : ((List.range 67).map fun i => V.int (invN 67 i : Nat)).length = 67 := by rw [List.length_map, List.length_range]
  have get67 : ∀ n : Int, 0 ≤ n → n < 67 → idx ((List.range 67).map fun i => V.int (invN 67 i : Nat)) n = some (.int (invN 67 n.toNat : Nat)) := fun n h0 h1 => by
    unfold idx
    rw [if_pos h0, List.getElem?_map, List.getElem?_range (by (first | lia | omega))]; rfl
  generalize (List.range 67).map (fun i => V.int (invN 67 i : Nat)) = I67 at len67 get67
  refine ⟨⟨⟨by decide, by decide⟩, by decide⟩, fun j ρ ν => (∃ t u v s f, ρ = [.raw (.ref a), .list I67, .int 2, .int 22, t, u, v, s, f]) ∧ ν = .lst a (tblV.take (j + 2)) :: μ, ⟨⟨.un, .un, .un, .un, .un, rfl⟩, rfl⟩, ?_, ?_⟩
  · rintro j _ _ hj ⟨⟨t, u, v, s, f, rfl⟩, rfl⟩
    have hj : j < 77 := by (first | lia | omega)
    obtain ⟨p, q, slope, e1, e2, es, hp, hq1, hq2⟩ := stepS_ex (List.all_eq_true.mp step_all j (List.mem_range.mpr hj))
    have hlen : (tblV.take (j + 2)).length = j + 2 := by rw [List.length_take]; show min (j + 2) 79 = _; (first | lia | omega)
    refine ⟨_, .head _, by rw [hlen]; (first | lia | omega), j + 1, T2V (some p), by rw [hlen]; exact seq_neg (by (first | lia | omega)), ?_, ?_⟩
    · rw [List.getElem?_take_of_lt (by (first | lia | omega)), tbl_get (by (first | lia | omega)), e1]
    have fin : (-10000 ≤ slope ∧ slope ≤ 10000) → wS w 1 (.asg 8 (.bin .Mod (.bin .Sub (.bin .Sub (.bin .Mult (.var 7) (.var 7)) (.var 2)) (.var 5)) (.cint 67)) (.app 0 (.tup (.cons (.var 8) (.cons (.bin .Mod (.bin .Sub (.bin .Mult (.var 7) (.bin .Sub (.var 2) (.var 8))) (.var 3)) (.cint 67)) .nil))) .done))
        [.raw (.ref a), .list I67, .int 2, .int 22, .int ((0 : Nat) + (j : Nat) : Int), .int p.1, .int p.2, .int slope, f] (.lst a (tblV.take (j + 2)) :: μ) fun r ρ₂ μ₂ => r = .next ∧ (∃ t u v s f, ρ₂ = [.raw (.ref a), .list I67, .int 2, .int 22, t, u, v, s, f]) ∧ μ₂ = .lst a (tblV.take (j + 1 + 2)) :: μ := fun hsl => by
      refine mulI (.inl ⟨by (first | lia | omega), by (first | lia | omega)⟩) (modI (by decide) fun far hfar f0 f1 => ?_)
      refine ⟨⟨_, .head _⟩, mulI (.inl ⟨by (first | lia | omega), by (first | lia | omega)⟩) (modI (by decide) fun y hy _ _ => ?_)⟩
      refine ⟨[], _, _, μ, rfl, by rw [hlen]; (first | lia | omega), rfl, rfl, ⟨_, _, _, _, _, rfl⟩, ?_⟩
      rw [show j + 1 + 2 = (j + 2) + 1 from rfl, tbl_take (i := j + 2) (by (first | lia | omega)), e2]
      have e3 : far = q.1 := by rw [hq1, hfar]
      have e4 : y = q.2 := by rw [hq2, hy, e3]
      rw [e3, e4]; rfl
    have bd : ∀ i : Nat, (0 : Int) ≤ (invN 67 i : Nat) ∧ ((invN 67 i : Nat) : Int) ≤ 66 := fun i => ⟨by (first | lia | omega), by have := inv_lt 67 i (by decide); (first | lia | omega)⟩
    refine brI (fun h => ?_) fun h => ?_
    · have h : (((0 : Nat) : Int) + (j : Int)) = 0 := h
      rw [if_pos (by (first | lia | omega))] at es
      refine mulI (.inl ⟨by decide, by decide⟩) (mulI (.inl ⟨by decide, by decide⟩) (mulI (.inl ⟨by decide, by decide⟩) (modI (by decide) fun r hr r0 r1 => ⟨by rw [len67]; decide, _, get67 r r0 r1, mulI (.inl ⟨by decide, by decide⟩) ?_⟩)))
      have er : r.toNat = 2 * 22 % 67 := by rw [hr]; rfl
      have hb := bd (2 * 22 % 67)
      rw [er]
      rw [← es]
      exact fin (by rw [es]; (first | lia | omega))
    · have h : ¬ (((0 : Nat) : Int) + (j : Int)) = 0 := h
      rw [if_neg (by (first | lia | omega))] at es
      refine modI (by decide) fun r hr r0 r1 => ⟨by rw [len67]; decide, _, get67 r r0 r1, mulI (.inl ⟨by (first | lia | omega), by (first | lia | omega)⟩) ?_⟩
      have hr : r = (p.1 - 2).fmod 67 := hr
      rw [hr, ← es]
      refine fin ?_
      have hb := bd ((p.1 - 2).fmod 67).toNat
      generalize (invN 67 ((p.1 - 2).fmod 67).toNat : Int) = x at es hb
      have h1 : -22 ≤ p.2 - 22 ∧ p.2 - 22 ≤ 44 := ⟨by (first | lia | omega), by (first | lia | omega)⟩
      have h3 : ((p.2 - 22) * x).natAbs ≤ 44 * 66 := by
        rw [Int.natAbs_mul]; exact Nat.mul_le_mul (by (first | lia | omega)) (by (first | lia | omega))
      rw [← es] at h3
      (first | lia | omega)
  · rintro _ _ ⟨⟨t, u, v, s, f, rfl⟩, rfl⟩
    exact ⟨[], _, μ, rfl, hq⟩
end
/-- what stands behind a statement -/
noncomputable def nxT : T → T
  | .asg _ _ k => k
  | .asgT _ _ _ k => k
  | .ife _ _ _ k => k
  | .forR _ _ _ _ k => k
  | k => k
structure Drawn (r : Row) : Prop where
  ok : RowOK r
  chain : r.chain + 1 < WB
  nonce : r.nonce + 1 < 18446744073709551616
  prio : r.prio + 1 < WB
  cap : r.cap + 1 < WB
  limit : r.limit + 1 < 18446744073709551616
  value : r.value + 1 < WB
  data : r.data.length ≤ 100
  accN : r.access.length ≤ 3
theorem mem4 {a b c d v : V} {P : V → Prop} (h : v ∈ [a, b, c, d]) (h1 : P a) (h2 : P b) (h3 : P c) (h4 : P d) : P v := by
  simp only [List.mem_cons, List.not_mem_nil, or_false] at h
  rcases h with rfl | rfl | rfl | rfl <;> assumption
theorem mem3 {a b c v : V} {P : V → Prop} (h : v ∈ [a, b, c]) (h1 : P a) (h2 : P b) (h3 : P c) : P v := by
  simp only [List.mem_cons, List.not_mem_nil, or_false] at h
  rcases h with rfl | rfl | rfl <;> assumption
section
variable {w : World} {wa : Addr} {wl : List V} {μ1 μ2 : Mu} {Q : V → Mu → Prop}
theorem one3 {menu : List V} (P : V → Prop) (h : WK wl) (hm : menu ≠ []) (hn : menu.length ≤ 1000) (hP : ∀ v, v ∈ menu → P v) (hq : ∀ v wl', P v → WK wl' → Q v (μ1 ++ .lst wa wl' :: μ2)) : CallOK w 3 (.ref 376) [.raw (.ref wa), .tup menu] (μ1 ++ .lst wa wl :: μ2) Q :=
  CallOK.mono (k := 2) (one_ok h hm hn fun v wl' hv hw => hq v wl' (hP v hv) hw) (by decide)
noncomputable abbrev IntP (lo hi : Int) (v : V) : Prop := ∃ x, v = .int x ∧ lo ≤ x ∧ x ≤ hi
noncomputable abbrev TgtP (v : V) : Prop := ∃ o, v = optV o ∧ ∀ a, o = some a → 0 ≤ a ∧ a < MOSTA
noncomputable abbrev BytP (v : V) : Prop := ∃ b : List UInt8, v = .bytes b ∧ b.length ≤ 56
noncomputable abbrev AccP (v : V) : Prop := ∃ l, v = accV l ∧ (∀ p ∈ l, AccOK p) ∧ l.length ≤ 3
theorem drawn_ok (h : WK wl) (hq : ∀ r wl', Drawn r → WK wl' → Q (.list (rowL r)) (μ1 ++ .lst wa wl' :: μ2)) : CallOK w 4 (.ref 404) [.raw (.ref wa)] (μ1 ++ .lst wa wl :: μ2) Q := by
  refine fn_ok (k := 3) (k404 _) rfl (by decide) ?_
  refine CallOK.mono (k := 1) (k' := 3) (draw_ok h (by decide) fun kind wl1 k0 k1 h1 => ?_) (by decide)
  refine ⟨⟨by decide, by decide, by decide⟩, one3 (IntP 0 (2 ^ 200)) h1 (List.cons_ne_nil _ _) (Nat.le_of_ble_eq_true rfl) (fun v hv => mem4 hv ⟨_, rfl, by decide, by decide⟩ ⟨_, rfl, by decide, by decide⟩ ⟨_, rfl, by decide, by decide⟩ ⟨_, rfl, by decide, by decide⟩) ?_⟩
  rintro _ wl2 ⟨chain, rfl, ch0, ch1⟩ h2
  refine ⟨⟨by decide, by decide, by decide⟩, one3 (IntP 0 (2 ^ 64 - 2)) h2 (List.cons_ne_nil _ _) (Nat.le_of_ble_eq_true rfl) (fun v hv => mem4 hv ⟨_, rfl, by decide, by decide⟩ ⟨_, rfl, by decide, by decide⟩ ⟨_, rfl, by decide, by decide⟩ ⟨_, rfl, by decide, by decide⟩) ?_⟩
  rintro _ wl3 ⟨nonce, rfl, n0, n1⟩ h3
  refine ⟨⟨by decide, by decide, by decide⟩, one3 (IntP 0 (10 ^ 9)) h3 (List.cons_ne_nil _ _) (Nat.le_of_ble_eq_true rfl) (fun v hv => mem3 hv ⟨_, rfl, by decide, by decide⟩ ⟨_, rfl, by decide, by decide⟩ ⟨_, rfl, by decide, by decide⟩) ?_⟩
  rintro _ wl4 ⟨cap, rfl, c0, c1⟩ h4
  refine one3 (IntP 0 21000) h4 (List.cons_ne_nil _ _) (Nat.le_of_ble_eq_true rfl) (fun v hv => mem3 hv ⟨_, rfl, by decide, by decide⟩ ⟨_, rfl, by decide, by decide⟩ ⟨_, rfl, by decide, by decide⟩) ?_
  rintro _ wl5 ⟨limit, rfl, l0, l1⟩ h5
  have fin : ∀ prio wl6, 0 ≤ prio → prio ≤ 10 ^ 9 + 5 → (kind ≠ 2 → prio = cap) → WK wl6 → wS w 3 (nxT (nxT (nxT c404))) [.raw (.ref wa), .int kind, .int chain, .int nonce, .int cap, .int limit, .int prio, .un, .un, .un, .un] (μ1 ++ .lst wa wl6 :: μ2) (retQ Q fun _ => False) := by
    clear h h1 h2 h3 h4 h5
    intro prio wl6 p0 p1 pe h6
    refine one3 TgtP h6 (List.cons_ne_nil _ _) (Nat.le_of_ble_eq_true rfl) (fun v hv => mem3 (P := TgtP) hv ⟨some 1001, rfl, fun a e => by cases e; decide⟩ ⟨none, rfl, fun a e => by cases e⟩ ⟨some 0, rfl, fun a e => by cases e; decide⟩) ?_
    rintro _ wl7 ⟨target, rfl, ht⟩ h7
    refine ⟨⟨by decide, by decide, by decide⟩, one3 (IntP 0 (10 ^ 18)) h7 (List.cons_ne_nil _ _) (Nat.le_of_ble_eq_true rfl) (fun v hv => mem4 hv ⟨_, rfl, by decide, by decide⟩ ⟨_, rfl, by decide, by decide⟩ ⟨_, rfl, by decide, by decide⟩ ⟨_, rfl, by decide, by decide⟩) ?_⟩
    rintro _ wl8 ⟨worth, rfl, w0, w1⟩ h8
    refine by56_ok (one3 BytP h8 (List.cons_ne_nil _ _) (Nat.le_of_ble_eq_true rfl) (fun v hv => mem4 (P := BytP) hv ⟨_, rfl, by decide⟩ ⟨_, rfl, by decide⟩ ⟨_, rfl, by decide⟩ ⟨_, rfl, by simp⟩) ?_)
    rintro _ wl9 ⟨data, rfl, hd⟩ h9
    have last : ∀ access wl10, (kind = 0 → access = []) → (∀ p ∈ access, AccOK p) → access.length ≤ 3 → WK wl10 → Q (.list (rowL ⟨kind, chain, nonce, prio, cap, limit, target, worth, data, access⟩)) (μ1 ++ .lst wa wl10 :: μ2) := by
      intro access wl10 ha hb hc h10
      have b64 : (2 : Int) ^ 64 = 18446744073709551616 := rfl
      have b200 : (2 : Int) ^ 200 = 1606938044258990275541962092341162602522202993782792835301376 := rfl
      have b9 : (10 : Int) ^ 9 = 1000000000 := rfl
      have b18 : (10 : Int) ^ 18 = 1000000000000000000 := rfl
      rw [b200] at ch1
      rw [b64] at n1
      rw [b9] at c1 p1
      rw [b18] at w1
      refine hq _ _ ⟨⟨by show kind = 0 ∨ kind = 1 ∨ kind = 2; (first | lia | omega), ⟨ch0, by show chain < WB; unfold WB; (first | lia | omega)⟩, ⟨n0, by show nonce < 18446744073709551616; (first | lia | omega)⟩, ⟨p0, by show prio < WB; unfold WB; (first | lia | omega)⟩, ⟨c0, by show cap < WB; unfold WB; (first | lia | omega)⟩, ⟨l0, by show limit < 18446744073709551616; (first | lia | omega)⟩, ht, ⟨w0, by show worth < WB; unfold WB; (first | lia | omega)⟩, Nat.le_trans hd (by decide), pe, ha, fun p hp => ⟨(hb p hp).adr, (hb p hp).num, (hb p hp).slot⟩, Nat.le_trans hc (by decide)⟩, ?_, ?_, ?_, ?_, ?_, ?_, Nat.le_trans hd (by decide), hc⟩ h10
      · show chain + 1 < WB; unfold WB; (first | lia | omega)
      · show nonce + 1 < 18446744073709551616; (first | lia | omega)
      · show prio + 1 < WB; unfold WB; (first | lia | omega)
      · show cap + 1 < WB; unfold WB; (first | lia | omega)
      · show limit + 1 < 18446744073709551616; (first | lia | omega)
      · show worth + 1 < WB; unfold WB; (first | lia | omega)
    refine brI (fun hk => ?_) fun hk => ?_
    · cases target <;> exact last [] wl9 (fun _ => rfl) (fun _ h => nomatch h) (Nat.zero_le _) h9
    · refine one3 AccP h9 (List.cons_ne_nil _ _) (Nat.le_of_ble_eq_true rfl) (fun v hv => mem3 (P := AccP) hv ⟨[], rfl, (fun _ h => nomatch h), by decide⟩ ⟨[(1001, [])], rfl, ?_, by decide⟩ ⟨[(1002, [5, 6]), (1001, [0])], rfl, ?_, by decide⟩) ?_
      · exact List.forall_mem_cons.mpr ⟨⟨⟨by decide, by decide⟩, by decide, (fun _ h => nomatch h)⟩, fun _ h => nomatch h⟩
      · exact List.forall_mem_cons.mpr ⟨⟨⟨by decide, by decide⟩, by decide, by decide⟩, List.forall_mem_cons.mpr ⟨⟨⟨by decide, by decide⟩, by decide, by decide⟩, fun _ h => nomatch h⟩⟩
      · rintro _ wl10 ⟨access, rfl, ha, hb⟩ h10
        cases target <;> exact last access wl10 (fun e => absurd e hk) ha hb h10
  refine brI (fun hk => ?_) fun hk => ?_
  · refine one3 (IntP 0 (10 ^ 9 + 5)) h5 (List.cons_ne_nil _ _) (Nat.le_of_ble_eq_true rfl) (fun v hv => mem3 hv ⟨_, rfl, c0, Int.le_trans c1 (by decide)⟩ ⟨_, rfl, by decide, by decide⟩ ⟨_, rfl, Int.add_nonneg c0 (by decide), Int.add_le_add_right c1 5⟩) ?_
    rintro _ wl6 ⟨prio, rfl, p0, p1⟩ h6
    exact fin prio wl6 p0 p1 (fun e => absurd hk e) h6
  · exact fin cap wl5 c0 (Int.le_trans c1 (by decide)) (fun _ => rfl) h5
end
section
variable {w : World} {wa : Addr} {wl : List V} {μ1 μ2 : Mu} {Q : V → Mu → Prop} {r : Row}
theorem brE {a b : Bool} {P R : Prop} (e : a = b) (h : brq b P R) : brq a P R := by rw [e]; exact h
theorem acc_nil (l : List (Int × List Int)) : cmpOK 6 (accV l) (.list []) = true ∧ veq 6 (accV l) (.list []) = decide (l = []) := by
  cases l <;> exact ⟨rfl, rfl⟩
theorem three {v : Int} (v0 : 0 ≤ v) (v1 : v < 3) : v = 0 ∨ v = 1 ∨ v = 2 := by omega
section
variable (h : Drawn r)
include h
theorem ch_nonce : RowOK { r with nonce := r.nonce + 1 } := { h.ok with nonce := ⟨Int.le_trans h.ok.nonce.1 (Int.le_add_one (Int.le_refl _)), h.nonce⟩ }
theorem ch_price : RowOK { r with prio := r.prio + 1, cap := r.cap + 1 } := { h.ok with prio := ⟨Int.le_trans h.ok.prio.1 (Int.le_add_one (Int.le_refl _)), h.prio⟩, cap := ⟨Int.le_trans h.ok.cap.1 (Int.le_add_one (Int.le_refl _)), h.cap⟩, one := fun e => congrArg (· + 1) (h.ok.one e) }
theorem ch_limit : RowOK { r with limit := r.limit + 1 } := { h.ok with limit := ⟨Int.le_trans h.ok.limit.1 (Int.le_add_one (Int.le_refl _)), h.limit⟩ }
theorem ch_some : RowOK { r with target := some 1003 } := { h.ok with target := fun a e => by cases e; decide }
theorem ch_none : RowOK { r with target := none } := { h.ok with target := fun a e => by cases e }
theorem ch_value : RowOK { r with value := r.value + 1 } := { h.ok with value := ⟨Int.le_trans h.ok.value.1 (Int.le_add_one (Int.le_refl _)), h.value⟩ }
theorem ch_data : RowOK { r with data := r.data ++ [0] } := { h.ok with data := by rw [List.length_append]; exact Nat.le_trans (Nat.succ_le_succ h.data) (by decide) }
theorem ch_chain : RowOK { r with chain := r.chain + 1 } := { h.ok with chain := ⟨Int.le_trans h.ok.chain.1 (Int.le_add_one (Int.le_refl _)), h.chain⟩ }
theorem ch_acc (k : 0 < r.kind) : RowOK { r with access := r.access ++ [(1004, [1])] } := { h.ok with
  none := fun e => absurd k (by rw [show r.kind = 0 from e]; decide)
  accN := by rw [List.length_append]; exact Nat.succ_le_succ h.accN
  acc := fun p hp => by
    rcases List.mem_append.mp hp with hp | hp
    · exact h.ok.acc p hp
    · rw [List.mem_singleton.mp hp]; exact ⟨⟨by decide, by decide⟩, by decide, by decide⟩ }
theorem ch_kind {v : Int} (v0 : 0 ≤ v) (v1 : v < 3) (ha : r.access = []) (hc : r.prio = r.cap) : RowOK { r with kind := v } := { h.ok with kind := three v0 v1, one := fun _ => hc, none := fun _ => ha }
end
theorem brJ {c : Prop} [Decidable c] {P R : Prop} (h1 : P) (h2 : R) : brq (decide c) P R := brI (fun _ => h1) fun _ => h2
theorem brK {c : Prop} [Decidable c] {P R : Prop} (h1 : c → P) (h2 : R) : brq (decide c) P R := brI h1 fun _ => h2
theorem si_ok {n : Nat} {e : X} {u a y : V} {x : Addr} {l : List V} {t : T} {R : PS} {μ : Mu} {k : Nat} {b : V} (he : ∀ Q' : V → Mu → Prop, Q' u (.lst x l :: μ) → wE w k e [a, b, .raw (.ref x), y] (.lst x l :: μ) Q') (h0 : l.length ≤ 1000) (hn : n < l.length)
    (hw : wS w k t [a, b, .raw (.ref x), y] (.lst x (lset l n u) :: μ) R) : wS w k (.setI 2 n e t) [a, b, .raw (.ref x), y] (.lst x l :: μ) R :=
  he _ ⟨[], _, _, _, rfl, h0, ⟨hn, rfl⟩, hw⟩
theorem chg_ok (h : WK wl) (hr : Drawn r) (hq : ∀ r2 wl', RowOK r2 → WK wl' → Q (.list (rowL r2)) (μ1 ++ .lst wa wl' :: μ2)) : CallOK w 2 (.ref 411) [.raw (.ref wa), .list (rowL r)] (μ1 ++ .lst wa wl :: μ2) Q := by
  refine fn_ok (k := 1) (k411 _) rfl (by decide) ?_
  refine listO_ok (l := rowL r) (Nat.le_of_ble_eq_true rfl) fun x => ?_
  refine draw_ok (μ1 := .lst x (rowL r) :: μ1) h (by decide) fun way wl1 w0 w1 h1 => ?_
  have l10 : (10 : Nat) ≤ 1000 := by decide
  have fin : ∀ r2 : Row, RowOK r2 → wS w 1 (.retF 2 (.var 2)) [.raw (.ref wa), .list (rowL r), .raw (.ref x), .int way] (.lst x (rowL r2) :: (μ1 ++ .lst wa wl1 :: μ2)) (retQ Q fun _ => False) := fun r2 ok => ⟨[], _, _, rfl, hq r2 wl1 ok h1⟩
  clear hq h h1
  refine brJ ?_ ?_
  · exact si_ok (fun _ q => ⟨l10, _, rfl, q⟩) l10 (Nat.le_of_ble_eq_true rfl) (fin _ (ch_nonce hr))
  refine brJ ?_ ?_
  · exact ⟨l10, _, rfl, l10, _, rfl, _, _, rfl, [], _, _, _, rfl, l10, ⟨⟨Nat.le_of_ble_eq_true rfl, Nat.le_of_ble_eq_true rfl⟩, rfl⟩, fin _ (ch_price hr)⟩
  refine brJ ?_ ?_
  · exact si_ok (fun _ q => ⟨l10, _, rfl, q⟩) l10 (Nat.le_of_ble_eq_true rfl) (fin _ (ch_limit hr))
  refine brJ ?_ ?_
  · have f1 := fin _ (ch_some hr)
    have f2 := fin _ (ch_none hr)
    unfold rowL at *
    dsimp only at *
    generalize r.target = t at *
    cases t with
    | none => exact si_ok (fun _ q => ⟨l10, _, rfl, q⟩) l10 (Nat.le_of_ble_eq_true rfl) (f1)
    | some a => exact si_ok (fun _ q => ⟨l10, _, rfl, q⟩) l10 (Nat.le_of_ble_eq_true rfl) (f2)
  refine brJ ?_ ?_
  · exact si_ok (fun _ q => ⟨l10, _, rfl, q⟩) l10 (Nat.le_of_ble_eq_true rfl) (fin _ (ch_value hr))
  refine brJ ?_ ?_
  · exact si_ok (fun _ q => ⟨l10, _, rfl, ⟨Nat.le_trans hr.data (by decide), by decide⟩, q⟩) l10 (Nat.le_of_ble_eq_true rfl) (fin _ (ch_data hr))
  refine brJ ?_ ?_
  · exact si_ok (fun _ q => ⟨l10, _, rfl, q⟩) l10 (Nat.le_of_ble_eq_true rfl) (fin _ (ch_chain hr))
  have same := fin r hr.ok
  refine brK (fun h7 => ?_) ?_
  · have n8 : ¬ way = 8 := by rw [show way = 7 from h7]; decide
    refine ⟨l10, _, rfl, brK (fun hk => ?_) <| brF (c := way = 8) n8 same⟩
    have f := fin _ (ch_acc hr hk)
    unfold rowL accV at f
    dsimp only at f
    rw [List.map_append] at f
    exact si_ok (fun _ q => ⟨l10, _, rfl, ⟨by rw [List.length_map]; exact Nat.le_trans hr.accN (by decide), by decide⟩, q⟩) l10 (Nat.le_of_ble_eq_true rfl) (f)
  refine brJ ?_ same
  refine ⟨l10, _, rfl, (acc_nil r.access).1, brE (acc_nil r.access).2 (brK (fun ha => ?_) same)⟩
  refine ⟨l10, _, rfl, l10, _, rfl, brK (fun hc => ?_) same⟩
  exact si_ok (u := .int ((r.kind + 1).fmod 3)) (fun _ q => ⟨l10, _, rfl, modI (by decide) fun v e _ _ => by rw [e]; exact q⟩) l10 (Nat.le_of_ble_eq_true rfl) (fin _ (ch_kind hr (Int.fmod_nonneg_of_pos _ (by decide)) (Int.fmod_lt_of_pos _ (by decide)) ha hc))
end
theorem rps_of_ints {imm : Led} : ∀ {vs : List Value} {ns : List Int}, IntsAre vs ns → Rps imm vs (ns.map .int)
  | _, _, .nil => .nil
  | _, _, .cons n t h => .cons (.int n t) (rps_of_ints h)
section
variable {c : FC} {m : Str → Option Value} {ρ : List V} {a : Po}
/-- x[:n] of a list that stands below the frame -/
theorem slt_ext {i n : Nat} {e : Expr} {sl : Addr} {vs : List Value} {ns : List Int} {Q : V → Mu → Prop} (h0 : chk c.cs c.ns (.slt (.var i) n) true e = true) (cx : Cx c m ρ a) (hv : lget ρ i = .raw (.ref sl)) (hL : c.h₀.IsList sl vs.toArray) (hI : IntsAre vs ns) (hl : vs.length ≤ 1000) (hq : Q (.list ((ns.take n).map .int)) a.μ) :
    Ev Rp c m a (eval e c.env) Q := by
  intro Q' E' post
  obtain ⟨⟨l, ix, p⟩, hu, hc⟩ := any_ex h0
  obtain rfl := uSub_eq hu; clear h0 hu
  obtain ⟨⟨lo, up, st⟩, hu, hc⟩ := any_ex hc
  obtain ⟨sp, hix⟩ := uSl_eq hu
  replace hix : ix = .Slice lo up st sp := hix
  subst hix; clear hu
  obtain ⟨h1, hc⟩ := and_ex hc
  obtain ⟨h2, hc⟩ := and_ex hc
  obtain ⟨h3, hc⟩ := and_ex hc
  obtain ⟨h4, hc⟩ := and_ex hc
  obtain ⟨h6, h5⟩ := and_ex hc
  obtain ⟨lit, rfl, h2⟩ := any_ex h2
  obtain ⟨k, lp, rfl⟩ := uConst_eq (eq_of_beq h2)
  obtain rfl : lo = none := Option.isNone_iff_eq_none.mp h1
  obtain rfl : st = none := Option.isNone_iff_eq_none.mp h3
  obtain ⟨x, hx, h5⟩ := any_ex (show ((uName l).any fun x => c.ns[i]? == some x) = true from h5)
  obtain ⟨xp, hxe⟩ := uName_eq hx
  replace hxe : l = .Name x xp := hxe
  subst hxe
  refine Subscript_ (varR_snd cx (eq_of_beq h5) hv ?_)
  obtain ⟨ml, N⟩ := cx.nx.N
  refine wpAny_Slice (wpAny_pure (wpAny_Constant_int (k := k) (pos := lp) (wpAny_pure ?_)))
  refine kms_slice_lit (s := { a.s with toks := a.s.toks + 1 }) (lo := none) (hi := some (n : Int)) (zs := vs.take n) cx.nx.F N.n (hL.at fun o e => cx.nx.F.keep _ _ e) (by constructor) (by constructor) ?_ (fun D h' F' N' hD => ?_) (by with_unfolding_all rfl) (fun r => rfl) (by rw [List.size_toArray, sizeLine_eq]; exact Nat.le_trans hl (by decide))
  · have e : kms_hi (some (n : Int)) vs.length = min n vs.length := by
      unfold kms_hi
      dsimp only
      rw [if_neg (by (first | lia | omega)), Int.toNat_natCast]
    show (vs.drop 0).take (kms_hi (some (n : Int)) vs.length - 0) = _
    rw [e, List.drop_zero, Nat.sub_zero]
    by_cases h : n ≤ vs.length
    · rw [Nat.min_eq_left h]
    · rw [Nat.min_eq_right (by (first | lia | omega)), List.take_length, List.take_of_length_le (by (first | lia | omega))]
  · refine post _ _ (a.new D _ h' (a.s.toks + 1)) hq (.list (.head _) ?_) (Nx.grow N.r N.ap hD F' N')
    have := (rps_take n (rps_of_ints (imm := a.imm) hI)).mono (n' := (D, listOf (vs.take n).toArray 0) :: a.imm) fun _ h => .tail _ h
    rw [← List.map_take] at this
    exact this
end
section
variable {c : FC} {m : Str → Option Value} {ρ : List V} {a : Po}
/-- list(x[:n]) of a list that stands below the frame -/
theorem list_ext {i n : Nat} {e : Expr} {sl : Addr} {vs : List Value} {ns : List Int} {Q : V → Mu → Prop} (h0 : chk c.cs c.ns (.call 56 (.cons (.slt (.var i) n) .nil)) true e = true) (cx : Cx c m ρ a) (hv : lget ρ i = .raw (.ref sl)) (hL : c.h₀.IsList sl vs.toArray) (hI : IntsAre vs ns) (hl : vs.length ≤ 1000)
    (hq : Q (.list ((ns.take n).map .int)) a.μ) : Ev Rp c m a (eval e c.env) Q := by
  intro Q' E' post
  obtain ⟨⟨f, args, ks, p⟩, hu, hc⟩ := any_ex h0
  obtain rfl := uCall_eq hu; clear h0 hu
  obtain ⟨h1, hc⟩ := and_ex hc
  obtain ⟨h2, hc⟩ := and_ex hc
  obtain ⟨h3, h4⟩ := and_ex hc
  obtain rfl : ks = [] := List.isEmpty_iff.mp h1
  obtain ⟨x, hx, hg⟩ := any_ex h2
  obtain ⟨xp, rfl⟩ := uName_eq hx
  refine Call_ (glb_snd cx hg fun v hv' => ?_)
  obtain rfl : v = .type "list" := eq_of_beq (show (v == Value.type "list") = true from hv')
  refine callW_snd (.inr rfl) (spl_star h4 _ _) ?_
  obtain ⟨⟨e1, es'⟩, hu, hd⟩ := any_ex (show ((unc args).any fun z => notStar z.1 && (chk c.cs c.ns (.slt (.var i) n) true z.1 && chk c.cs c.ns .nil false (.Tuple z.2 0 p))) = true from h4)
  clear h4 hc h1 h2 h3
  obtain rfl := unc_eq hu; clear hu
  obtain ⟨c2, he⟩ := and_ex hd
  obtain ⟨c1, c5⟩ := and_ex he
  obtain rfl : es' = [] := List.isEmpty_iff.mp c5
  have hll : (ns.take n).length ≤ 100000 := by
    have := rps_of_ints (imm := []) hI
    have h9 := this.length
    rw [List.length_map] at h9
    rw [List.length_take]; (first | lia | omega)
  refine args_cons (slt_ext (Q := fun v μ' => v = .list ((ns.take n).map .int) ∧ μ' = a.μ) c1 cx hv hL hI hl ⟨rfl, rfl⟩ _ _ fun v1 d1 b1 q1 r1 n1 => args_nil ⟨cx.ok.X.keeps n1.F.keep, ?_⟩) (star_no c2)
  obtain ⟨rfl, e2⟩ := q1
  exact (listF_ok (w := c.w) (k := c.k) (Q := Q) (by rw [List.length_map]; exact hll) (e2 ▸ hq)).go c m b1 [v1] rfl cx.ok rfl n1.here (.cons r1 .nil) _ _ fun v d b q r n => post v d b q r (n1.trans n)
noncomputable abbrev X0 : X := .own (.cons (.call 56 (.cons (.slt (.var 0) 40) .nil)) (.cons (.cint 0) (.cons (.cint 5) .nil)))
theorem own_ext {e : Expr} {sl : Addr} {vs : List Value} {ns : List Int} {Q : V → Mu → Prop} (h0 : chk c.cs c.ns X0 true e = true) (cx : Cx c m ρ a) (hv : lget ρ 0 = .raw (.ref sl)) (hL : c.h₀.IsList sl vs.toArray) (hI : IntsAre vs ns) (hl : vs.length ≤ 1000)
    (hq : ∀ wa, Q (.raw (.ref wa)) (.lst wa [.list ((ns.take 40).map .int), .int 0, .int 5] :: a.μ)) : Ev Rp c m a (eval e c.env) Q := by
  intro Q' E' post
  obtain ⟨es, p, rfl, c1, c2⟩ := lst_view h0; clear h0
  obtain ⟨⟨e1, es'⟩, hu, hc⟩ := any_ex (show ((unc es).any fun z => notStar z.1 && (chk c.cs c.ns (.call 56 (.cons (.slt (.var 0) 40) .nil)) true z.1 && chk c.cs c.ns (.cons (.cint 0) (.cons (.cint 5) .nil)) false (.Tuple z.2 0 ⟨0, 0, 0, 0⟩))) = true from c2)
  obtain rfl := unc_eq hu; clear hu
  obtain ⟨c3, hc⟩ := and_ex hc
  obtain ⟨c4, c5⟩ := and_ex hc
  refine List_ (args_cons (list_ext (Q := fun v μ' => v = .list ((ns.take 40).map .int) ∧ μ' = a.μ) c4 cx hv hL hI hl ⟨rfl, rfl⟩ _ _ fun v1 d1 b1 q1 r1 n1 => ?_) (star_no c3))
  obtain ⟨rfl, e2⟩ := q1
  refine (sound (.cons (.cint 0) (.cons (.cint 5) .nil))).2.2 c m ρ b1 (fun vs μ' => vs = .tup [.int 0, .int 5] ∧ μ' = a.μ) es' ⟨0, 0, 0, 0⟩ _ c5 (cx.next n1) ⟨rfl, e2⟩ _ _ fun v2 d2 b2 q2 r2 n2 => ?_
  obtain ⟨rfl, e3⟩ := q2
  obtain ⟨ds, hds, rr, hl2⟩ := r2
  cases hds
  obtain ⟨ml, N⟩ := n2.N
  refine newList_N n2.F N.n (fun h' F' N' => ?_) (by rw [sizeLine_eq, List.length_cons, hl2]; exact Nat.le_trans c1 (by decide))
  refine post _ _ ⟨.lst b2.s.heap.objs.size [.list ((ns.take 40).map .int), .int 0, .int 5] :: b2.μ, b2.imm, { b2.s with heap := h', toks := b2.s.toks }⟩ ?_ (.raw _) ((n1.trans n2).trans (Nx.owned N.r N.ap (fun p hp => Heap.lt_size (N.n p hp).1) F' N' ⟨_, 0, rfl, .cons (r1.mono n2.hs) rr⟩))
  rw [e3]; exact hq _
noncomputable abbrev X2 : X := .cons (.call 42 .nil) (.cons (.call 41 (.cons (.cint 79) .nil)) .nil)
theorem tup_ext {e : Expr} {sl : Addr} {vs : List Value} {ns : List Int} {Q : V → Mu → Prop} (h0 : chk c.cs c.ns (.tup (.cons X0 X2)) true e = true) (cx : Cx c m ρ a) (hv : lget ρ 0 = .raw (.ref sl)) (hL : c.h₀.IsList sl vs.toArray) (hI : IntsAre vs ns) (hl : vs.length ≤ 1000)
    (hq : ∀ wa, wE c.w c.k X2 ρ (.lst wa [.list ((ns.take 40).map .int), .int 0, .int 5] :: a.μ) fun vs μ' => tupQ vs fun l => Q (.tup (.raw (.ref wa) :: l)) μ') : Ev Rp c m a (eval e c.env) Q := by
  intro Q' E' post
  obtain ⟨⟨es, p⟩, hu, hc⟩ := any_ex h0
  obtain ⟨k, rfl⟩ := uTup_eq hu; clear h0 hu
  obtain ⟨c1, c2⟩ := and_ex hc
  obtain ⟨⟨e1, es'⟩, hu, hd⟩ := any_ex (show ((unc es).any fun z => notStar z.1 && (chk c.cs c.ns X0 true z.1 && chk c.cs c.ns X2 false (.Tuple z.2 0 p))) = true from c2)
  clear hc c2
  obtain rfl := unc_eq hu; clear hu
  obtain ⟨c3, he⟩ := and_ex hd
  obtain ⟨c4, c5⟩ := and_ex he
  refine Tuple_ (args_cons (own_ext (Q := fun v μ' => ∃ wa, v = .raw (.ref wa) ∧ μ' = .lst wa [.list ((ns.take 40).map .int), .int 0, .int 5] :: a.μ) c4 cx hv hL hI hl (fun wa => ⟨wa, rfl, rfl⟩) _ _ fun v1 d1 b1 q1 r1 n1 => ?_) (star_no c3))
  obtain ⟨wa, rfl, e2⟩ := q1
  refine (sound X2).2.2 c m ρ b1 (fun vs μ' => tupQ vs fun l => Q (.tup (.raw (.ref wa) :: l)) μ') es' p _ c5 (cx.next n1) (e2 ▸ hq wa) _ _ fun v2 d2 b2 q2 r2 n2 => ?_
  obtain ⟨ds, rfl, rr, hl2⟩ := r2
  obtain ⟨ml, N⟩ := n2.N
  refine kup_newTuple n2.F N.n (fun D h' F' N' hD => ?_) (by rw [sizeLine_eq, List.length_cons, hl2]; exact Nat.le_trans (of_decide_eq_true c1) (by decide))
  exact post _ _ (b2.new D _ h' b2.s.toks) q2 (.tup (.head _) ((Rps.cons (r1.mono n2.hs) rr).mono fun _ h => .tail _ h)) ((n1.trans n2).trans (Nx.grow N.r N.ap hD F' N'))
end
set_option tactic.hygienic true
noncomputable def restT : T := nxT c453
theorem c453_eq : c453 = .asgT true [1, 2, 3] (.tup (.cons X0 X2)) restT := rfl
noncomputable abbrev lawR : PS := fun r _ _ => r = .ret (.bool true)
noncomputable abbrev I79 : List V := (List.range 79).map fun i => .int (invN 79 i : Nat)
theorem law_run {c : FC} {m : Str → Option Value} {a : Po} {sl : Addr} {vs : List Value} {ns : List Int} {body : List Stmt} {Q' : Flow → Shared → Prop} {E' : Value → Shared → Prop} (hc : chkS c.cs c.ns c453 body = true) (cx : Cx c m (.raw (.ref sl) :: List.replicate 20 .un) a) (hμ : a.μ = []) (hk : c.k = 60)
    (hL : c.h₀.IsList sl vs.toArray) (hI : IntsAre vs ns) (hl : vs.length ≤ 1000)
    (hq : ∀ wa, wS c.w 60 restT (.raw (.ref sl) :: .raw (.ref wa) :: .list tblV :: .list I79 :: List.replicate 17 .un) [.lst wa [.list ((ns.take 40).map .int), .int 0, .int 5]] lawR)
    (post : ∀ s' m', Fr c.h₀ c.L s'.heap m' → s' = { a.s with heap := s'.heap, toks := s'.toks } → Q' (.ret (.bool true)) s') : wpAny c.M c.A (execs body c.env) Q' E' a.s := by
  rw [c453_eq] at hc
  obtain ⟨st, r, rfl, hz⟩ := one_stmt hc; clear hc
  obtain ⟨⟨ts0, v, vp⟩, hu, hy⟩ := any_ex hz
  obtain rfl := vAsg_eq hu; clear hu hz
  obtain ⟨g, hg, hx⟩ := any_ex hy; clear hy
  obtain rfl : ts0 = [g] := one_eq hg
  clear hg
  obtain ⟨⟨ts, tp⟩, hg, hw⟩ := any_ex hx; clear hx
  obtain ⟨kd, rfl⟩ := uTup_eq hg; clear hg
  obtain ⟨c1, hw⟩ := and_ex hw
  obtain ⟨c2, hw⟩ := and_ex hw
  obtain ⟨c3, hw⟩ := and_ex hw
  obtain ⟨c4, c5⟩ := and_ex hw
  clear hw
  dsimp only at c1 c2 c3 c4 c5 ⊢
  have hsw : swapsWithSole [.Tuple ts kd tp] v vp.line c.env = pure false := (show swapsWith v (some (.Tuple ts kd tp)) vp.line c.env = pure false from notComp_swaps c3)
  unfold swOK at c2
  have he : Ev Rp c m a (eval v c.env) fun v μ' => ∃ wa, v = .tup [.raw (.ref wa), .list tblV, .list I79] ∧ μ' = [.lst wa [.list ((ns.take 40).map .int), .int 0, .int 5]] := by
    refine tup_ext c4 cx rfl hL hI hl fun wa => ?_
    rw [hk, hμ]
    exact CallOK.mono (k := 2) (k' := 60) (mult_ok (CallOK.mono (k := 1) (k' := 60) (inv_ok inv79 ⟨wa, rfl, rfl⟩) (by decide))) (by decide)
  cases hw : swM c.cs ts v with
  | none => rw [hw] at c2; cases c2
  | some o =>
    rw [hw] at c2
    have hss := swM_snd (kd := kd) (p := tp) (env := c.env) hw rfl cx.ok.kind
    cases o with
    | none => dsimp only at c2; cases c2
    | some names =>
      dsimp only at c2
      obtain ⟨-, c2⟩ := and_ex c2
      refine wpAny_execs_cons (Assign_Tuple_swapped (he _ _ fun v1 d1 b1 q1 r1 n1 => ?_) hsw hss)
      obtain ⟨wa, rfl, hμ1⟩ := q1
      cases r1 with
      | tup hm rr =>
        rename_i x us
        have hl := rr.length
        have hn := tgtN_len c2
        simp only [List.length_reverse] at hn
        obtain ⟨ml, N⟩ := n1.N
        refine unpackItemsN_ n1.F N.n (N.n.isTup (List.mem_append_right _ hm)) rfl (by rw [List.size_toArray, hl, ← hn]; rfl) fun h' F' N' => ?_
        have n : Nx c m b1 ⟨b1.μ, b1.imm, { b1.s with heap := h' }⟩ := ⟨fun _ h => h, F', ⟨ml, N.r, N', N.ap⟩, rfl⟩
        refine tgtN_snd (K := fun ρ' => wS c.w c.k restT ρ' b1.μ lawR) c2 ((cx.next n1).next n) (rps_rev (rr : Rps b1.imm us [.raw (.ref wa), .list tblV, .list I79])) (by rw [hk, hμ1]; exact hq wa) fun m' ρ' b hK cx' n' hμ' => ?_
        refine st_next (soundS restT) c5 cx' ((n1.trans n).trans n') ((hμ' : b.μ = b1.μ) ▸ hK) (fun f rr ρ m d hR hf _ nn => ?_) fun e ρ m d hR _ => absurd hR (fun q => by cases q)
        subst hR
        obtain ⟨v, rfl, hv⟩ := hf
        cases hv
        exact post d.s _ nn.F nn.e
set_option tactic.hygienic false
noncomputable def lawChk (cs : Scope) (body : List Stmt) : Bool := chkS cs n453 c453 body && (n453.all (fun x => cs.names.lookup x == some .local && !(x == ("__debug__" : Str))) && (decide n453.Nodup && cs.kind == .function))
theorem law_enter {w : World} {loose : List Str} {mean : ExcName → Option Value} {mg mb : Str → Option Value} {fa sl : Addr} {cd : Value} {H h₁ : Heap} {gens : Array GenState} {drawn : PySem.Drawn} {toks : Nat} {os : OsState} {cn : Str} {cs : Scope} {body : List Stmt} {m : Str → Option Value} {vs : List Value} {ns : List Int} {Q' : Flow → Shared → Prop} {E' : Value → Shared → Prop}
    (hc : lawChk cs body = true) (T : Top Mine.hd.view_1 loose mean mg mb H) (K0 : Below callerA H [] H) (KX : (Mine.hd.heap_1 w.params).In H) (F : Fr H H.objs.size h₁ m) (N0 : News H H.objs.size h₁ []) (hm : m (Str.ofString "script") = some (.ref sl)) (hL : H.IsList sl vs.toArray) (hI : IntsAre vs ns) (hl : ns.length ≤ 63)
    (hq : ∀ wa, wS w 60 restT (.raw (.ref sl) :: .raw (.ref wa) :: .list tblV :: .list I79 :: List.replicate 17 .un) [.lst wa [.list ((ns.take 40).map .int), .int 0, .int 5]] lawR)
    (post : ∀ s' m', Fr H H.objs.size s'.heap m' → s' = { (⟨h₁, gens, drawn, toks, os⟩ : Shared) with heap := s'.heap, toks := s'.toks } → Q' (.ret (.bool true)) s') :
    wpAny (model PR w) (callerA.deeper (envOf cn cs H.objs.size fa cd)) (execs body (envOf cn cs H.objs.size fa cd)) Q' E' ⟨h₁, gens, drawn, toks, os⟩ := by
  obtain ⟨h1, hc⟩ := and_ex hc
  obtain ⟨h2, hc⟩ := and_ex hc
  obtain ⟨h3, h4⟩ := and_ex hc
  have hk : cs.kind = .function := eq_of_beq h4
  have hvl := (rps_of_ints (imm := []) hI).length
  rw [List.length_map] at hvl
  have hloc : ∀ x ∈ n453, cs.names.lookup x = some .local ∧ (x == ("__debug__" : Str)) = false := fun x hx => by
    obtain ⟨p1, p2⟩ := and_ex (List.all_eq_true.mp h2 x hx)
    exact ⟨eq_of_beq p1, by simpa using p2⟩
  let c : FC := ⟨w, 60, n453, loose, mean, mg, mb, callerA.depth + 1, callerA.units + 3, callerA.guards, cn, cs, fa, cd, [], callerA, H, H, H.objs.size⟩
  have nx : Nx c m ⟨[], [], ⟨h₁, gens, drawn, toks, os⟩⟩ ⟨[], [], ⟨h₁, gens, drawn, toks, os⟩⟩ := ⟨fun _ h => h, F, ⟨[], .nil, N0, ⟨List.nodup_nil, fun _ h => nomatch h⟩⟩, rfl⟩
  have cx : Cx c m (.raw (.ref sl) :: List.replicate 20 .un) ⟨[], [], ⟨h₁, gens, drawn, toks, os⟩⟩ := by
    refine ⟨⟨fun x hx => (hloc x hx).1, of_decide_eq_true h3, fun x hx => (hloc x hx).2⟩, ⟨K0, KX, T, hk, by show callerA.depth + 1 + 2 * 60 < recursionLimit; decide, by show callerA.units + 3 + 40 * 60 + 40 < cLine; decide, fun _ => rfl⟩, fun i x hx => ?_, nx⟩
    cases i with
    | zero => cases hx; exact .inr ⟨.ref sl, hm, .raw _⟩
    | succ i => exact .inl (lget_un [.raw (.ref sl)] 20 (i + 1) (Nat.succ_le_succ (Nat.zero_le _)))
  exact law_run (c := c) (a := ⟨[], [], ⟨h₁, gens, drawn, toks, os⟩⟩) h1 cx rfl rfl hL hI (by omega) hq post
section
local macro_rules | `(tactic| k_qdec) => `(tactic| decide +kernel)
theorem law_top (hq : ∀ (w : World) (ns : List Int) (wa sl : Addr), ns.length ≤ 63 → wS w 60 restT (.raw (.ref sl) :: .raw (.ref wa) :: .list tblV :: .list I79 :: List.replicate 17 .un) [.lst wa [.list ((ns.take 40).map .int), .int 0, .int 5]] lawR) : sndOf hd := by
  delta sndOf
  k_go0
  rename Fr _ _ _ _ => F
  rename News _ _ _ _ => N0
  rename Top _ _ _ _ _ _ => T
  rename Below _ _ _ _ => K0
  rename Heap.IsList _ _ _ => hL
  rename IntsAre _ _ => hI
  rename Frag.In _ _ => KX
  rename ¬ _ => hlen
  rename (_ : Shared).gens = #[] => hg
  refine law_enter (by kernel_rfl) T K0 KX F N0 rfl hL hI (by omega) (fun wa => hq _ _ wa _ (by omega)) fun s' m' F' e => ?_
  refine goodW_bool F' (by rw [e]; exact hg) (fun _ => rfl) ?_ (by rw [e])
  first | kc_post | wrow_post
end
noncomputable def chkL (k : Nat) : Bool := match TB k with
  | none => false
  | some p => decide (0 < p.1 ∧ p.1 ≤ 66 ∧ 0 ≤ p.2 ∧ p.2 ≤ 66) && (decide (liftL p.1 0 = TB (if p.2.fmod 2 = 0 then k else 79 - k)) && (decide (liftL p.1 1 = TB (if p.2.fmod 2 = 1 then k else 79 - k)) && (decide (TB (79 - k) = some (p.1, 67 - p.2)) && decide (invN 79 p.1.toNat * p.1.toNat % 79 = 1))))
theorem chkL_all : (List.range 78).all (fun j => chkL (j + 1)) = true := by decide +kernel
theorem chkP_all : (List.range 79).all (fun i => decide (powI (i : Int) 77 79 = ((invN 79 i : Nat) : Int))) = true := by decide +kernel
theorem chkP67 : (List.range 67).all (fun i => decide (powI (i : Int) 65 67 = ((i ^ 65 % 67 : Nat) : Int))) = true := by decide +kernel
/-- a point as a figure: 0, or 1 + 67 x + y -/
noncomputable def dec : Nat → Option (Int × Int)
  | 0 => none
  | c + 1 => some ((c / 67 : Nat), (c % 67 : Nat))
noncomputable def enc : Option (Int × Int) → Nat
  | none => 0
  | some p => 67 * p.1.toNat + p.2.toNat + 1
noncomputable def tc (i : Nat) : Nat := (31676055476945749588946988781273195534864168307558882807432412215163152980562195700502603050642157523096924164920414379458735642860885678482496344530044841749903321298091350506173675915647251355889242413190013838712420641787539596419531753427634433034648336118471241959326005236844088217708298845201829699584 >>> (13 * i)) % 8192
theorem dec_all : (List.range 79).all (fun i => decide (dec (tc i) = TB i) && Nat.beq (enc (TB i)) (tc i)) = true := by decide +kernel
theorem dec_tc {i : Nat} (h : i < 79) : dec (tc i) = TB i := of_decide_eq_true (and_ex (List.all_eq_true.mp dec_all i (List.mem_range.mpr h))).1
theorem enc_tc {i : Nat} (h : i < 79) : enc (TB i) = tc i := Nat.eq_of_beq_eq_true (and_ex (List.all_eq_true.mp dec_all i (List.mem_range.mpr h))).2
noncomputable def subm (a b : Nat) : Nat := (a + 66 * b) % 67
theorem fm67 (a : Int) : a.fmod 67 = a % 67 := Int.fmod_eq_emod_of_nonneg _ (by decide)
/-- an int that agrees with a figure modulo 67 -/
def Eq67 (a : Int) (n : Nat) : Prop := a % 67 = (n : Int) % 67
section
variable {a b : Int} {m n : Nat}
theorem Eq67.of (n : Nat) : Eq67 (n : Int) n := rfl
theorem Eq67.mul (h : Eq67 a m) (g : Eq67 b n) : Eq67 (a * b) (m * n) := by
  show (a * b) % 67 = ((m * n : Nat) : Int) % 67
  rw [Int.mul_emod, show a % 67 = _ from h, show b % 67 = _ from g, ← Int.mul_emod, Int.natCast_mul]
theorem Eq67.core (h : Eq67 a m) (g : Eq67 b n) : (a - b) % 67 = ((subm m n : Nat) : Int) := by
  rw [Int.sub_emod, show a % 67 = _ from h, show b % 67 = _ from g, ← Int.sub_emod]
  show _ = ((m : Int) + 66 * (n : Int)) % 67
  rw [show (m : Int) + 66 * n = m - n + 67 * n by omega, Int.add_mul_emod_self_left]
theorem Eq67.sub (h : Eq67 a m) (g : Eq67 b n) : Eq67 (a - b) (subm m n) := by
  show (a - b) % 67 = _
  rw [← h.core g, Int.emod_emod]
theorem Eq67.fm (h : Eq67 a m) : a.fmod 67 = ((m % 67 : Nat) : Int) := (fm67 a).trans h
theorem Eq67.fs (h : Eq67 a m) (g : Eq67 b n) : (a - b).fmod 67 = ((subm m n : Nat) : Int) := (fm67 _).trans (h.core g)
theorem Eq67.c2 : Eq67 2 2 := rfl
theorem Eq67.c3 : Eq67 3 3 := rfl
theorem Eq67.c4 : Eq67 4 4 := rfl
theorem Eq67.c8 : Eq67 8 8 := rfl
theorem subm_lt : subm m n < 67 := Nat.mod_lt _ (by decide)
theorem Eq67.pow (h : Eq67 a n) : powI a 65 67 = ((n ^ 65 % 67 : Nat) : Int) := by
  have := of_decide_eq_true (List.all_eq_true.mp chkP67 (n % 67) (List.mem_range.mpr (Nat.mod_lt _ (by decide))))
  rw [← Nat.pow_mod] at this
  rw [← this]
  unfold powI
  rw [show a % ((Int.natAbs 67 : Nat) : Int) = ((n % 67 : Nat) : Int) % ((Int.natAbs 67 : Nat) : Int) from Eq.trans h (Int.emod_emod_of_dvd (n : Int) (Int.dvd_refl 67)).symm]
end
abbrev N3 := Nat × Nat × Nat
noncomputable def cast3 (q : N3) : Int × Int × Int := (q.1, q.2.1, q.2.2)
noncomputable def dblN (q : N3) : N3 :=
  if q.2.1 = 0 ∨ q.2.2 = 0 then (1, 1, 0) else
  let sq := q.2.1 * q.2.1 % 67
  let mid := 4 * q.1 * sq % 67
  let sl := 3 * q.1 * q.1 % 67
  let far := subm (sl * sl) (2 * mid)
  (far, subm (sl * subm mid far) (8 * sq * sq), 2 * q.2.1 * q.2.2 % 67)
theorem dbl_cast (x y z : Nat) : wDbl (cast3 (x, y, z)) = cast3 (dblN (x, y, z)) := by
  unfold wDbl dblN cast3
  dsimp only
  have c : ((y : Int) = 0 ∨ (z : Int) = 0) ↔ (y = 0 ∨ z = 0) := or_congr Int.natCast_eq_zero Int.natCast_eq_zero
  by_cases h : y = 0 ∨ z = 0
  · rw [if_pos (c.mpr h), if_pos h]; rfl
  · rw [if_neg fun q => h (c.mp q), if_neg h]
    have X := Eq67.of x; have Y := Eq67.of y; have Z := Eq67.of z
    rw [(Y.mul Y).fm, ((Eq67.c3.mul X).mul X).fm, ((Eq67.c2.mul Y).mul Z).fm]
    have S := Eq67.of (y * y % 67)
    have L := Eq67.of (3 * x * x % 67)
    generalize y * y % 67 = sq at *
    generalize 3 * x * x % 67 = sl at *
    rw [((Eq67.c4.mul X).mul S).fm]
    have M := Eq67.of (4 * x * sq % 67)
    generalize 4 * x * sq % 67 = mid at *
    rw [(L.mul L).fs (Eq67.c2.mul M)]
    have F := Eq67.of (subm (sl * sl) (2 * mid))
    generalize subm (sl * sl) (2 * mid) = far at *
    rw [(L.mul (M.sub F)).fs ((Eq67.c8.mul S).mul S)]
noncomputable def addN (q r : N3) : N3 :=
  if q.2.2 = 0 then r else if r.2.2 = 0 then q else
  let left := q.1 * r.2.2 * r.2.2 % 67
  let right := r.1 * q.2.2 * q.2.2 % 67
  let low := q.2.1 * r.2.2 * r.2.2 * r.2.2 % 67
  let high := r.2.1 * q.2.2 * q.2.2 * q.2.2 % 67
  if left = right then (if low = high then dblN q else (1, 1, 0)) else
  let step := subm right left
  let rise := subm high low
  let sq := step * step % 67
  let cube := step * sq % 67
  let mid := left * sq % 67
  let far := subm (subm (rise * rise) cube) (2 * mid)
  (far, subm (rise * subm mid far) (low * cube), step * q.2.2 * r.2.2 % 67)
theorem add_cast (x y z u v t : Nat) : wAdd (cast3 (x, y, z)) (cast3 (u, v, t)) = cast3 (addN (x, y, z) (u, v, t)) := by
  have dbl := dbl_cast x y z
  unfold wAdd addN
  unfold cast3 at *
  dsimp only at *
  by_cases h1 : z = 0
  · rw [if_pos (Int.natCast_eq_zero.mpr h1), if_pos h1]
  rw [if_neg fun e => h1 (Int.natCast_eq_zero.mp e), if_neg h1]
  by_cases h2 : t = 0
  · rw [if_pos (Int.natCast_eq_zero.mpr h2), if_pos h2]
  rw [if_neg fun e => h2 (Int.natCast_eq_zero.mp e), if_neg h2]
  clear h1 h2
  have X := Eq67.of x; have Y := Eq67.of y; have Z := Eq67.of z; have U := Eq67.of u; have V := Eq67.of v; have T := Eq67.of t
  rw [((X.mul T).mul T).fm, ((U.mul Z).mul Z).fm, (((Y.mul T).mul T).mul T).fm, (((V.mul Z).mul Z).mul Z).fm]
  have L := Eq67.of (x * t * t % 67)
  have R := Eq67.of (u * z * z % 67)
  have W := Eq67.of (y * t * t * t % 67)
  have H := Eq67.of (v * z * z * z % 67)
  generalize x * t * t % 67 = left at *
  generalize u * z * z % 67 = right at *
  generalize y * t * t * t % 67 = low at *
  generalize v * z * z * z % 67 = high at *
  by_cases h3 : left = right
  · rw [if_pos (congrArg _ h3), if_pos h3]
    by_cases h4 : low = high
    · rw [if_pos (congrArg _ h4), if_pos h4]; exact dbl
    · rw [if_neg fun q => h4 (Int.ofNat_inj.mp q), if_neg h4]; rfl
  · rw [if_neg fun q => h3 (Int.ofNat_inj.mp q), if_neg h3]
    clear dbl h3 X Y U V
    have S := R.sub L
    have D := H.sub W
    generalize subm right left = step at *
    generalize subm high low = rise at *
    generalize (right : Int) - left = stepI at *
    generalize (high : Int) - low = riseI at *
    rw [(S.mul S).fm]
    have Q := Eq67.of (step * step % 67)
    generalize step * step % 67 = sq at *
    rw [(S.mul Q).fm, (L.mul Q).fm, ((S.mul Z).mul T).fm]
    have C := Eq67.of (step * sq % 67)
    have M := Eq67.of (left * sq % 67)
    generalize step * sq % 67 = cube at *
    generalize left * sq % 67 = mid at *
    rw [((D.mul D).sub C).fs (Eq67.c2.mul M)]
    have F := Eq67.of (subm (subm (rise * rise) cube) (2 * mid))
    generalize subm (subm (rise * rise) cube) (2 * mid) = far at *
    rw [(D.mul (M.sub F)).fs (W.mul C)]
noncomputable def codeN (q : N3) : Nat := if q.2.2 = 0 then 0 else
  let back := q.2.2 ^ 65 % 67
  let sq := back * back % 67
  67 * (q.1 * sq % 67) + q.2.1 * sq * back % 67 + 1
theorem dec_of {x y : Nat} (h : y < 67) : some ((x : Int), (y : Int)) = dec (67 * x + y + 1) := by
  rw [dec, Nat.mul_add_div (by decide), Nat.mul_add_mod, Nat.div_eq_of_lt h, Nat.mod_eq_of_lt h, Nat.add_zero]
theorem narrow_cast (x y z : Nat) : narrow (cast3 (x, y, z)) = dec (codeN (x, y, z)) := by
  unfold narrow codeN cast3
  dsimp only
  by_cases h : z = 0
  · rw [if_pos (Int.natCast_eq_zero.mpr h), if_pos h]; rfl
  · rw [if_neg fun q => h (Int.natCast_eq_zero.mp q), if_neg h, ← dec_of (Nat.mod_lt _ (by decide)), show powI (z : Int) (67 - 2) 67 = _ from (Eq67.of z).pow]
    have B := Eq67.of (z ^ 65 % 67)
    generalize z ^ 65 % 67 = back at *
    rw [(B.mul B).fm]
    have S := Eq67.of (back * back % 67)
    generalize back * back % 67 = sq at *
    rw [((Eq67.of x).mul S).fm, (((Eq67.of y).mul S).mul B).fm]
noncomputable def tree (j : Nat) : Nat → Nat → Nat → N3 → N3 → Bool
  | 0, _, acc, q, _ => Nat.beq (codeN q) (tc (acc * j % 79))
  | d + 1, w, acc, q, r => tree j d (2 * w) acc q (dblN r) && (Nat.ble 79 (acc + w) || tree j d (2 * w) (acc + w) (addN q r) (dblN r))
theorem bit_k (k : Nat) : (k : Int).fdiv (2 ^ Int.toNat 1) = ((k / 2 : Nat) : Int) ∧ (Builtin.bitAnd (k : Int) 1 = 1 ↔ k % 2 = 1) := by
  refine ⟨by rw [Int.fdiv_eq_ediv_of_nonneg _ (by decide)]; rfl, ?_⟩
  rw [show Builtin.bitAnd (k : Int) 1 = ((k &&& 1 : Nat) : Int) from rfl, Nat.and_one_is_mod]
  omega
theorem tree_ok {j : Nat} : ∀ (d w acc k : Nat) (q r : N3), tree j d w acc q r = true → k < 2 ^ d → acc + w * k < 79 → narrow (tLoop d (k : Int) (cast3 q) (cast3 r)) = TB ((acc + w * k) * j % 79)
  | 0, w, acc, k, q, r, h, hk, _ => by
    cases Nat.lt_one_iff.mp hk
    rw [Nat.mul_zero, Nat.add_zero, ← dec_tc (Nat.mod_lt _ (by decide)), ← Nat.eq_of_beq_eq_true h]
    exact narrow_cast _ _ _
  | d + 1, w, acc, k, q, r, h, hk, hw => by
    obtain ⟨h1, h2⟩ := and_ex h
    have L := fun k' => tree_ok d (2 * w) acc k' q (dblN r) h1
    unfold tLoop
    have e2 : 2 * w * (k / 2) = w * (2 * (k / 2)) := by rw [Nat.mul_comm 2 w, Nat.mul_assoc]
    by_cases h0 : k = 0
    · subst h0
      rw [if_neg (by decide)]
      have := L 0 (Nat.two_pow_pos d) hw
      cases d with
      | zero => exact this
      | succ d => unfold tLoop at this; rw [if_neg (by decide)] at this; exact this
    · have h0 := Nat.pos_of_ne_zero h0
      have hk : k / 2 < 2 ^ d := Nat.div_lt_of_lt_mul (by rwa [Nat.pow_succ, Nat.mul_comm] at hk)
      rw [if_pos (Int.natCast_pos.mpr h0), (bit_k k).1, dbl_cast]
      by_cases hb : k % 2 = 1
      · rw [if_pos ((bit_k k).2.mpr hb), add_cast]
        have e : acc + w + 2 * w * (k / 2) = acc + w * k := by
          rw [e2, Nat.add_assoc, show w + w * (2 * (k / 2)) = w * (1 + 2 * (k / 2)) by rw [Nat.mul_add, Nat.mul_one], Nat.add_comm 1, show 2 * (k / 2) + 1 = k from hb ▸ Nat.div_add_mod k 2]
        rcases (Bool.or_eq_true _ _).mp h2 with h3 | h3
        · exact absurd (Nat.le_trans (Nat.le_of_ble_eq_true h3) (Nat.add_le_add_left (Nat.le_mul_of_pos_right w h0) acc)) (Nat.not_le_of_lt hw)
        · rw [← e] at hw ⊢
          exact tree_ok d (2 * w) (acc + w) (k / 2) _ _ h3 hk hw
      · rw [if_neg fun x => hb ((bit_k k).2.mp x)]
        have e : acc + 2 * w * (k / 2) = acc + w * k := by rw [e2, show 2 * (k / 2) = k from Nat.mul_div_cancel' (Nat.dvd_of_mod_eq_zero (Nat.mod_two_ne_one.mp hb))]
        rw [← e] at hw ⊢
        exact L (k / 2) hk hw
noncomputable def chkT (j : Nat) : Bool := match tc j with
  | 0 => false
  | c + 1 => tree j 7 1 0 (1, 1, 0) (c / 67, c % 67, 1)
theorem chkT_all : (List.range 78).all (fun j => chkT (j + 1)) = true := by decide +kernel
theorem chkT_ok {j : Nat} {p : Int × Int} (hj : j < 78) (ht : TB (j + 1) = some p) {n : Nat} (hn : n < 79) : narrow (tLoop 7 (n : Int) (1, 1, 0) (p.1, p.2, 1)) = TB (n * (j + 1) % 79) := by
  have hc := List.all_eq_true.mp chkT_all j (List.mem_range.mpr hj)
  rw [← dec_tc (Nat.succ_lt_succ hj)] at ht
  unfold chkT at hc
  cases e : tc (j + 1) with
  | zero => rw [e] at hc; cases hc
  | succ c =>
    rw [e] at hc ht
    cases ht
    have := tree_ok 7 1 0 n _ _ hc (Nat.lt_trans hn (by decide)) (by rwa [Nat.zero_add, Nat.one_mul])
    rwa [Nat.zero_add, Nat.one_mul] at this
noncomputable def addC : Nat → Nat → Nat
  | 0, d => d
  | c + 1, 0 => c + 1
  | c + 1, d + 1 =>
    let x := c / 67
    let y := c % 67
    let a := d / 67
    let b := d % 67
    if x = a then 0 else
    let slope := subm b y * (subm a x ^ 65 % 67)
    let far := subm (subm (slope * slope) x) a
    67 * far + subm (slope * subm x far) y + 1
theorem addC_ok {c d : Nat} (h : c ≠ d) : aAdd (dec c) (dec d) = dec (addC c d) := match c, d with
  | 0, _ => rfl
  | _ + 1, 0 => rfl
  | c + 1, d + 1 => by
    have e : ¬(c / 67 = d / 67 ∧ c % 67 = d % 67) := fun q => h (by rw [← Nat.div_add_mod c 67, q.1, q.2, Nat.div_add_mod])
    rw [addC, dec, dec, aAdd]
    dsimp only
    generalize c / 67 = x at *
    generalize c % 67 = y at *
    generalize d / 67 = a at *
    generalize d % 67 = b at *
    by_cases h3 : x = a
    · rw [if_pos (congrArg _ h3), if_pos h3, if_neg fun q => e ⟨h3, Int.ofNat_inj.mp q⟩]; rfl
    · rw [if_neg fun q => h3 (Int.ofNat_inj.mp q), if_neg h3]
      show _ = dec _
      rw [← dec_of subm_lt]
      clear e h h3
      have X := Eq67.of x; have Y := Eq67.of y; have A := Eq67.of a
      have S := (Eq67.of b).sub Y
      rw [show powI ((a : Int) - x) (67 - 2) 67 = _ from (A.sub X).pow]
      have S := S.mul (Eq67.of (subm a x ^ 65 % 67))
      generalize subm b y * (subm a x ^ 65 % 67) = slope at *
      generalize ((b : Int) - y) * ((subm a x ^ 65 % 67 : Nat) : Int) = slopeI at *
      rw [((S.mul S).sub X).fs A]
      have F := Eq67.of (subm (subm (slope * slope) x) a)
      generalize subm (subm (slope * slope) x) a = far at *
      rw [(S.mul (X.sub F)).fs Y]
noncomputable def chkAd (i : Nat) : Bool := (List.range 79).all fun j => Nat.beq i j || (!Nat.beq (tc i) (tc j) && Nat.beq (addC (tc i) (tc j)) (tc ((i + j) % 79)))
theorem chkA_all : (List.range 79).all chkAd = true := by decide +kernel
theorem chkD_all : (List.range 79).all (fun i => decide (aAdd (TB i) (TB i) = TB ((i + i) % 79))) = true := by decide +kernel
theorem add_TB {i j : Nat} (hi : i < 79) (hj : j < 79) : aAdd (TB i) (TB j) = TB ((i + j) % 79) := by
  by_cases e : i = j
  · subst e; exact of_decide_eq_true (List.all_eq_true.mp chkD_all i (List.mem_range.mpr hi))
  · have hc := List.all_eq_true.mp (List.all_eq_true.mp chkA_all i (List.mem_range.mpr hi)) j (List.mem_range.mpr hj)
    rcases (Bool.or_eq_true _ _).mp hc with h | h
    · exact absurd (Nat.eq_of_beq_eq_true h) e
    · obtain ⟨h1, h2⟩ := and_ex h
      rw [← dec_tc hi, ← dec_tc hj, ← dec_tc (Nat.mod_lt _ (by decide)), ← Nat.eq_of_beq_eq_true h2]
      exact addC_ok (Nat.ne_of_beq_eq_false ((Bool.not_eq_true' _).mp h1))
theorem tb_inj {i j : Nat} (hi : i < 79) (hj : j < 79) (h : TB i = TB j) : i = j := by
  have hc := List.all_eq_true.mp (List.all_eq_true.mp chkA_all i (List.mem_range.mpr hi)) j (List.mem_range.mpr hj)
  rcases (Bool.or_eq_true _ _).mp hc with q | q
  · exact Nat.eq_of_beq_eq_true q
  · exact absurd ((enc_tc hi).symm.trans ((congrArg enc h).trans (enc_tc hj))) (Nat.ne_of_beq_eq_false ((Bool.not_eq_true' _).mp (and_ex q).1))
theorem e_mul {a b c d : Int} (h1 : a % 79 = b % 79) (h2 : c % 79 = d % 79) : (a * c) % 79 = (b * d) % 79 := by rw [Int.mul_emod, h1, h2, ← Int.mul_emod]
theorem e_add {a b c d : Int} (h1 : a % 79 = b % 79) (h2 : c % 79 = d % 79) : (a + c) % 79 = (b + d) % 79 := by rw [Int.add_emod, h1, h2, ← Int.add_emod]
theorem e_sub {a b c d : Int} (h1 : a % 79 = b % 79) (h2 : c % 79 = d % 79) : (a - c) % 79 = (b - d) % 79 := by rw [Int.sub_emod, h1, h2, ← Int.sub_emod]
theorem e_em (a : Int) : (a % 79) % 79 = a % 79 := Int.emod_emod_of_dvd _ (Int.dvd_refl _)
theorem fm79 (a : Int) : a.fmod 79 = a % 79 := Int.fmod_eq_emod_of_nonneg _ (by decide)
structure Pt (k : Nat) (p : Int × Int) : Prop where
  tb : TB k = some p
  x : 0 < p.1 ∧ p.1 ≤ 66
  y : 0 ≤ p.2 ∧ p.2 ≤ 66
  l0 : liftL p.1 0 = TB (if p.2.fmod 2 = 0 then k else 79 - k)
  l1 : liftL p.1 1 = TB (if p.2.fmod 2 = 1 then k else 79 - k)
  opp : TB (79 - k) = some (p.1, 67 - p.2)
  inv : (powI p.1 77 79 * p.1) % 79 = 1
theorem powI79 {x : Int} (h0 : 0 ≤ x) (h1 : x < 79) : powI x 77 79 = ((invN 79 x.toNat : Nat) : Int) := by
  have := of_decide_eq_true (List.all_eq_true.mp chkP_all x.toNat (List.mem_range.mpr (by omega)))
  rwa [Int.toNat_of_nonneg h0] at this
theorem pt_ex {k : Nat} (h : 1 ≤ k ∧ k ≤ 78) : ∃ p, Pt k p := by
  have hc := List.all_eq_true.mp chkL_all (k - 1) (List.mem_range.mpr (by omega))
  rw [show k - 1 + 1 = k by omega] at hc
  unfold chkL at hc
  cases ht : TB k with
  | none => rw [ht] at hc; cases hc
  | some p =>
    rw [ht] at hc
    obtain ⟨a, hc⟩ := and_ex hc
    obtain ⟨b, hc⟩ := and_ex hc
    obtain ⟨c, hc⟩ := and_ex hc
    obtain ⟨d, e⟩ := and_ex hc
    have a := of_decide_eq_true a
    have e := of_decide_eq_true e
    refine ⟨p, ht, ⟨a.1, a.2.1⟩, ⟨a.2.2.1, a.2.2.2⟩, of_decide_eq_true b, of_decide_eq_true c, of_decide_eq_true d, ?_⟩
    rw [powI79 (by omega) (by omega)]
    have e2 : ((invN 79 p.1.toNat * p.1.toNat % 79 : Nat) : Int) = 1 := by rw [e]; rfl
    rw [Int.natCast_emod, Int.natCast_mul, Int.toNat_of_nonneg (by omega)] at e2
    exact e2
theorem times_TB {j : Nat} {p : Int × Int} (hj : 1 ≤ j ∧ j ≤ 78) (ht : TB j = some p) (n : Int) : timesL n p = TB ((n % 79).toNat * j % 79) := by
  obtain ⟨j, rfl⟩ := Nat.exists_eq_add_of_le' hj.1
  have h0 : 0 ≤ n % 79 := Int.emod_nonneg _ (by decide)
  rw [← chkT_ok hj.2 ht (n := (n % 79).toNat) (by have : n % 79 < 79 := Int.emod_lt_of_pos _ (by decide); omega), Int.toNat_of_nonneg h0, ← fm79]
  rfl
/-- which point is found again -/
theorem rec_TB {kp : Nat} {word rx s : Int} {l : Int × Int} (hk : 1 ≤ kp ∧ kp ≤ 78) (hl : TB kp = some l) : ∃ J : Nat, J < 79 ∧ (J : Int) = ((s * kp - word) * powI rx 77 79) % 79 ∧ recL word rx s l.1 l.2 = TB J := by
  unfold recL
  rw [show powI rx (79 - 2) 79 = powI rx 77 79 from rfl]
  generalize powI rx 77 79 = R
  have g1 : TB 1 = some (2, 22) := rfl
  rw [times_TB hk hl, times_TB (by decide) g1, add_TB (Nat.mod_lt _ (by decide)) (Nat.mod_lt _ (by decide))]
  refine ⟨_, Nat.mod_lt _ (by decide), ?_, rfl⟩
  rw [Int.natCast_emod, Int.natCast_add, Int.natCast_emod, Int.natCast_emod, Int.natCast_mul, Int.natCast_mul, Int.toNat_of_nonneg (Int.emod_nonneg _ (by decide)), Int.toNat_of_nonneg (Int.emod_nonneg _ (by decide))]
  show ((s * R % 79 * kp % 79 + -word * R % 79 * 1 % 79) % 79 : Int) = _
  have h1 : (s * R % 79 * kp % 79) % 79 = (s * kp * R) % 79 := by
    rw [e_em, e_mul (e_em (s * R)) rfl]
    congr 1
    rw [Int.mul_assoc, Int.mul_comm R, ← Int.mul_assoc]
  have h2 : (-word * R % 79 * 1 % 79) % 79 = (-(word * R)) % 79 := by
    rw [e_em, Int.mul_one, e_em, Int.neg_mul]
  rw [e_add h1 h2, Int.sub_mul, Int.sub_eq_add_neg]
/-- what a signing gives, by the figure C = (word + r secret) modulo 79 -/
noncomputable def sgI (C k : Nat) (p : Int × Int) : Option (Int × Int × Int) :=
  let s := C * invN 79 k % 79
  if s = 0 then none else if 39 < s then some (1 - p.2.fmod 2, p.1, 79 - (s : Int)) else some (p.2.fmod 2, p.1, (s : Int))
noncomputable def kpI (k : Nat) (p : Int × Int) (par : Int) : Nat := if p.2.fmod 2 = par then k else 79 - k
theorem chkV_all : (List.range 78).all (fun k => Nat.beq (invN 79 (k + 1) * (k + 1) % 79) 1 && Nat.beq (invN 79 (k + 1) + invN 79 (78 - k)) 79) = true := by decide +kernel
theorem chkV {k : Nat} (h : 1 ≤ k ∧ k ≤ 78) : invN 79 k * k % 79 = 1 ∧ invN 79 k + invN 79 (79 - k) = 79 := by
  obtain ⟨k, rfl⟩ := Nat.exists_eq_add_of_le' h.1
  have := and_ex (List.all_eq_true.mp chkV_all k (List.mem_range.mpr h.2))
  rw [Nat.succ_sub_succ 78 k]
  exact ⟨Nat.eq_of_beq_eq_true this.1, Nat.eq_of_beq_eq_true this.2⟩
theorem back79 {C i k : Nat} (h : i * k % 79 = 1) : C * i % 79 * k % 79 = C % 79 := by
  rw [Nat.mul_mod, Nat.mod_mod, ← Nat.mul_mod, Nat.mul_assoc, Nat.mul_mod, h, Nat.mul_one, Nat.mod_mod]
theorem mir79 {c a a' : Nat} (h : a + a' = 79) : (c * a % 79 + c * a' % 79) % 79 = 0 := by rw [← Nat.add_mod, ← Nat.mul_add, h, Nat.mul_mod_left]
theorem neg79 {u v i : Nat} (h : (u + v) % 79 = 0) : (u * i % 79 + v * i % 79) % 79 = 0 := by rw [← Nat.add_mod, ← Nat.add_mul, Nat.mul_mod, h, Nat.zero_mul]
theorem mm79 {a b : Nat} (ha : a ≤ 79) (hb : b ≤ 79) : (79 - a) * (79 - b) % 79 = a * b % 79 := by
  have e1 : a * (79 - b) + (79 - a) * (79 - b) = 79 * (79 - b) := by rw [← Nat.add_mul, Nat.add_sub_of_le ha]
  have e2 : a * b + a * (79 - b) = 79 * a := by rw [← Nat.mul_add, Nat.add_sub_of_le hb, Nat.mul_comm]
  rw [← Nat.add_mul_mod_self_left _ 79 a, ← e2, ← Nat.add_mul_mod_self_left (a * b) 79 (79 - b), ← e1, Nat.add_comm, Nat.add_assoc]
noncomputable def sgS (s : Nat) (e x : Int) : Option (Int × Int × Int) := if s = 0 then none else if 39 < s then some (1 - e, x, 79 - (s : Int)) else some (e, x, (s : Int))
theorem u8_inj {a b : Nat} (ha : a < 256) (hb : b < 256) (h : a.toUInt8 = b.toUInt8) : a = b := by
  have e := congrArg UInt8.toNat h
  rwa [show a.toUInt8.toNat = a from UInt8.toNat_ofNat_of_lt' ha, show b.toUInt8.toNat = b from UInt8.toNat_ofNat_of_lt' hb] at e
theorem nOct_pos {n : Nat} (h : 55 < n) : 1 ≤ (nOct (n : Int)).length := by
  unfold nOct; rw [beB_length, Int.toNat_natCast]
  unfold blen bitsN
  rw [if_neg (by (first | lia | omega))]
  (first | lia | omega)
theorem hd_inj {low n m : Nat} {a b x y : List UInt8} (hl : low ≤ 192) (hn : n ≤ 100000) (hm : m ≤ 100000) (ea : a.length = n) (eb : b.length = m) (h : (hdL low n ++ a) ++ x = (hdL low m ++ b) ++ y) : a = b ∧ x = y := by
  have s1 := nOct_short hn
  have s2 := nOct_short hm
  have fin : n = m → a ++ x = b ++ y → a = b ∧ x = y := fun e h => List.append_inj h (by rw [ea, eb, e])
  unfold hdL at h
  by_cases h1 : n ≤ 55
  · by_cases h2 : m ≤ 55
    · rw [if_pos h1, if_pos h2] at h
      obtain ⟨e1, e2⟩ := List.cons.inj h
      exact fin (by have := u8_inj (by (first | lia | omega)) (by (first | lia | omega)) e1; (first | lia | omega)) e2
    · have p2 := nOct_pos (n := m) (by (first | lia | omega))
      rw [if_pos h1, if_neg h2] at h
      obtain ⟨e1, e2⟩ := List.cons.inj h
      have := u8_inj (by (first | lia | omega)) (by (first | lia | omega)) e1
      (first | lia | omega)
  · have p1 := nOct_pos (n := n) (by (first | lia | omega))
    by_cases h2 : m ≤ 55
    · rw [if_neg h1, if_pos h2] at h
      obtain ⟨e1, e2⟩ := List.cons.inj h
      have := u8_inj (by (first | lia | omega)) (by (first | lia | omega)) e1
      (first | lia | omega)
    · have p2 := nOct_pos (n := m) (by (first | lia | omega))
      rw [if_neg h1, if_neg h2] at h
      obtain ⟨e1, e2⟩ := List.cons.inj h
      have e3 := u8_inj (by (first | lia | omega)) (by (first | lia | omega)) e1
      have e2 : nOct (n : Int) ++ (a ++ x) = nOct (m : Int) ++ (b ++ y) := by rw [← List.append_assoc, ← List.append_assoc]; exact e2
      obtain ⟨e4, e5⟩ := List.append_inj e2 (by (first | lia | omega))
      have e6 := nOct_inj (Int.natCast_nonneg n) (Int.natCast_nonneg m) e4
      exact fin (by (first | lia | omega)) e5
theorem hdL_first {low n : Nat} (hl : low ≤ 192) (hn : n ≤ 100000) : ∃ f t, hdL low n = f :: t ∧ low ≤ f.toNat ∧ f.toNat ≤ low + 58 := by
  have s1 := nOct_short hn
  unfold hdL
  split
  · exact ⟨_, _, rfl, by rw [show (low + n).toUInt8.toNat = low + n from UInt8.toNat_ofNat_of_lt' (by show low + n < 256; (first | lia | omega))]; (first | lia | omega)⟩
  · exact ⟨_, _, rfl, by rw [show (low + 55 + (nOct (n : Int)).length).toUInt8.toNat = low + 55 + (nOct (n : Int)).length from UInt8.toNat_ofNat_of_lt' (by show _ < 256; (first | lia | omega))]; (first | lia | omega)⟩
theorem encB_first {b : List UInt8} (hb : b.length ≤ 100000) : ∃ f t, encB b = f :: t ∧ f.toNat ≤ 186 ∧ ((b.length = 1 ∧ (b.getD 0 0).toNat < 128) ∨ 128 ≤ f.toNat) := by
  unfold encB
  split
  · rename_i h
    obtain ⟨x, rfl⟩ := List.length_eq_one_iff.mp h.1
    have h2 : x.toNat < 128 := h.2
    exact ⟨x, [], rfl, by (first | lia | omega), .inl h⟩
  · obtain ⟨f, t, e, h1, h2⟩ := hdL_first (low := 128) (by decide) hb
    exact ⟨f, t ++ b, by rw [e]; rfl, by (first | lia | omega), .inr h1⟩
theorem encB_inj {a b x y : List UInt8} (ha : a.length ≤ 100000) (hb : b.length ≤ 100000) (h : encB a ++ x = encB b ++ y) : a = b ∧ x = y := by
  by_cases h1 : a.length = 1 ∧ (a.getD 0 0).toNat < 128
  · by_cases h2 : b.length = 1 ∧ (b.getD 0 0).toNat < 128
    · rw [encB, if_pos h1, encB, if_pos h2] at h
      exact List.append_inj h (by rw [h1.1, h2.1])
    · exfalso
      obtain ⟨f, t, e, _, q⟩ := encB_first hb
      have q := q.resolve_left h2
      rw [e, encB, if_pos h1] at h
      obtain ⟨z, rfl⟩ := List.length_eq_one_iff.mp h1.1
      have h3 : z.toNat < 128 := h1.2
      have e1 := (List.cons.inj h).1
      rw [e1] at h3
      (first | lia | omega)
  · by_cases h2 : b.length = 1 ∧ (b.getD 0 0).toNat < 128
    · exfalso
      obtain ⟨f, t, e, _, q⟩ := encB_first ha
      have q := q.resolve_left h1
      rw [e, encB, if_pos h2] at h
      obtain ⟨z, rfl⟩ := List.length_eq_one_iff.mp h2.1
      have h3 : z.toNat < 128 := h2.2
      have e1 := (List.cons.inj h).1
      rw [← e1] at h3
      (first | lia | omega)
    · rw [encB, if_neg h1, encB, if_neg h2] at h
      exact hd_inj (by decide) ha hb rfl rfl h
theorem encV_ne {n : Nat} {v : V} (h : okV n v) (hl : (encV v).length ≤ 100000) : encV v ≠ [] := by
  cases v with
  | bytes b =>
    obtain ⟨f, t, e, _⟩ := encB_first (Nat.le_trans (encB_ge b) hl)
    intro q; rw [show encV (.bytes b) = encB b from rfl, e] at q; cases q
  | list l =>
    have hl2 : (encVs l).length ≤ 100000 := by
      have : (encV (.list l)).length = (hdL 192 (encVs l).length ++ encVs l).length := rfl
      rw [List.length_append] at this; (first | lia | omega)
    obtain ⟨f, t, e, _⟩ := hdL_first (low := 192) (by decide) hl2
    intro q; rw [show encV (.list l) = hdL 192 (encVs l).length ++ encVs l from rfl, e] at q; cases q
  | _ => cases n <;> exact h.elim
theorem encV_inj : ∀ (n : Nat) {a b : V} {x y : List UInt8}, okV n a → okV n b → (encV a).length ≤ 100000 → (encV b).length ≤ 100000 → encV a ++ x = encV b ++ y → a = b ∧ x = y := by
  have lb : ∀ {l : List V} {b x y : List UInt8}, (encV (.list l)).length ≤ 100000 → b.length ≤ 100000 → encV (.list l) ++ x = encB b ++ y → False := by
    intro l b x y hl hb h
    have hl2 : (encVs l).length ≤ 100000 := by
      have : (encV (.list l)).length = (hdL 192 (encVs l).length ++ encVs l).length := rfl
      rw [List.length_append] at this; (first | lia | omega)
    obtain ⟨f, t, e, h1, _⟩ := hdL_first (low := 192) (by decide) hl2
    obtain ⟨g, t2, e2, h2, _⟩ := encB_first hb
    rw [show encV (.list l) = hdL 192 (encVs l).length ++ encVs l from rfl, e, e2] at h
    have e1 := (List.cons.inj h).1
    rw [e1] at h1
    (first | lia | omega)
  intro n
  induction n with
  | zero =>
    intro a b x y ha hb la lb h
    cases a with
    | bytes a => cases b with
      | bytes b => obtain ⟨rfl, e⟩ := encB_inj (Nat.le_trans (encB_ge a) la) (Nat.le_trans (encB_ge b) lb) h; exact ⟨rfl, e⟩
      | _ => exact hb.elim
    | _ => exact ha.elim
  | succ n ih =>
    intro a b x y ha hb la lb' h
    cases a with
    | bytes a => cases b with
      | bytes b => obtain ⟨rfl, e⟩ := encB_inj (Nat.le_trans (encB_ge a) la) (Nat.le_trans (encB_ge b) lb') h; exact ⟨rfl, e⟩
      | list l => exact (lb lb' (Nat.le_trans (encB_ge a) la) h.symm).elim
      | _ => first | exact no_some hb | exact no_ft hb | cases hb
    | list l => cases b with
      | bytes b => exact (lb la (Nat.le_trans (encB_ge b) lb') h).elim
      | list l2 =>
        have k1 : (encVs l).length ≤ 100000 := by
          have : (encV (.list l)).length = (hdL 192 (encVs l).length ++ encVs l).length := rfl
          rw [List.length_append] at this; (first | lia | omega)
        have k2 : (encVs l2).length ≤ 100000 := by
          have : (encV (.list l2)).length = (hdL 192 (encVs l2).length ++ encVs l2).length := rfl
          rw [List.length_append] at this; (first | lia | omega)
        obtain ⟨e, e2⟩ := hd_inj (low := 192) (by decide) k1 k2 rfl rfl h
        have all : ∀ (l l2 : List V), (∀ v ∈ l, okV n v) → (∀ v ∈ l2, okV n v) → (encVs l).length ≤ 100000 → (encVs l2).length ≤ 100000 → encVs l = encVs l2 → l = l2 := by
          intro l
          induction l with
          | nil =>
            intro l2 _ h2 _ k2 e
            cases l2 with
            | nil => rfl
            | cons v l2 =>
              exfalso
              exact encV_ne (h2 v (.head _)) (Nat.le_trans (encVs_ge (.head _)) k2) (List.append_eq_nil_iff.mp e.symm).1
          | cons v l ihl =>
            intro l2 h1 h2 k1 k2 e
            cases l2 with
            | nil => exact absurd (List.append_eq_nil_iff.mp e).1 (encV_ne (h1 v (.head _)) (Nat.le_trans (encVs_ge (.head _)) k1))
            | cons u l2 =>
              obtain ⟨rfl, e3⟩ := ih (h1 v (.head _)) (h2 u (.head _)) (Nat.le_trans (encVs_ge (.head _)) k1) (Nat.le_trans (encVs_ge (.head _)) k2) e
              have c1 : (encVs (v :: l)).length = (encV v ++ encVs l).length := rfl
              have c2 : (encVs (v :: l2)).length = (encV v ++ encVs l2).length := rfl
              rw [List.length_append] at c1 c2
              rw [ihl l2 (fun q hq => h1 q (.tail _ hq)) (fun q hq => h2 q (.tail _ hq)) (by (first | lia | omega)) (by (first | lia | omega)) e3]
        rw [all l l2 ha hb k1 k2 e]
        exact ⟨rfl, e2⟩
      | _ => first | exact no_some hb | exact no_ft hb | cases hb
    | _ => first | exact no_some ha | exact no_ft ha | cases ha
noncomputable def byV : V → List UInt8
  | .bytes b => b
  | _ => []
noncomputable def liV : V → List V
  | .list l => l
  | _ => []
theorem bytesI {a b : List UInt8} : V.bytes a = V.bytes b ↔ a = b := ⟨fun h => congrArg byV h, fun h => by rw [h]⟩
theorem listI {a b : List V} : V.list a = V.list b ↔ a = b := ⟨fun h => congrArg liV h, fun h => by rw [h]⟩
theorem beB_inj {k n m : Nat} (hn : n < 256 ^ k) (hm : m < 256 ^ k) (h : beB k n = beB k m) : n = m := by
  rw [← ofBE_beB k n hn, ← ofBE_beB k m hm, h]
theorem AO_inj {a b : Int} (ha : 0 ≤ a ∧ a < MOSTA) (hb : 0 ≤ b ∧ b < MOSTA) (h : AO a = AO b) : a = b := by
  have e : (256 : Nat) ^ 20 = 1461501637330902918203684832716283019655932542976 := rfl
  have := beB_inj (k := 20) (by rw [e]; unfold MOSTA at ha; (first | lia | omega)) (by rw [e]; unfold MOSTA at hb; (first | lia | omega)) h
  (first | lia | omega)
theorem WO_inj {a b : Int} (ha : 0 ≤ a ∧ a < WB) (hb : 0 ≤ b ∧ b < WB) (h : WO a = WO b) : a = b := by
  rw [WO_eq ha.1 ha.2, WO_eq hb.1 hb.2] at h
  have e : (256 : Nat) ^ 32 = 115792089237316195423570985008687907853269984665640564039457584007913129639936 := rfl
  have := beB_inj (k := 32) (by rw [e]; unfold WB at ha; (first | lia | omega)) (by rw [e]; unfold WB at hb; (first | lia | omega)) h
  (first | lia | omega)
theorem tgtB_inj {o p : Option Int} (ho : ∀ a, o = some a → 0 ≤ a ∧ a < MOSTA) (hp : ∀ a, p = some a → 0 ≤ a ∧ a < MOSTA) (h : tgtB o = tgtB p) : o = p := by
  cases o with
  | none => cases p with
    | none => rfl
    | some b => have := congrArg List.length h; rw [show (tgtB (some b)).length = 20 from AO_length b] at this; cases this
  | some a => cases p with
    | none => have := congrArg List.length h; rw [show (tgtB (some a)).length = 20 from AO_length a] at this; cases this
    | some b => rw [AO_inj (ho a rfl) (hp b rfl) h]
theorem map_WO : ∀ {l m : List Int}, (∀ s ∈ l, 0 ≤ s ∧ s < WB) → (∀ s ∈ m, 0 ≤ s ∧ s < WB) → (l.map fun s => V.bytes (WO s)) = (m.map fun s => V.bytes (WO s)) → l = m
  | [], [], _, _, _ => rfl
  | [], _ :: _, _, _, h => by cases h
  | _ :: _, [], _, _, h => by cases h
  | a :: l, b :: m, h1, h2, h => by
    rw [List.map_cons, List.map_cons] at h
    obtain ⟨e1, e2⟩ := List.cons.inj h
    rw [WO_inj (h1 a (.head _)) (h2 b (.head _)) (bytesI.mp e1), map_WO (fun s hs => h1 s (.tail _ hs)) (fun s hs => h2 s (.tail _ hs)) e2]
theorem map_row : ∀ {l m : List (Int × List Int)}, (∀ p ∈ l, AccOK p) → (∀ p ∈ m, AccOK p) → l.map rowV = m.map rowV → l = m
  | [], [], _, _, _ => rfl
  | [], _ :: _, _, _, h => by cases h
  | _ :: _, [], _, _, h => by cases h
  | p :: l, q :: m, h1, h2, h => by
    rw [List.map_cons, List.map_cons] at h
    obtain ⟨e1, e2⟩ := List.cons.inj h
    have e3 := listI.mp e1
    obtain ⟨e4, e5⟩ := List.cons.inj e3
    obtain ⟨e6, _⟩ := List.cons.inj e5
    have a1 := h1 p (.head _)
    have a2 := h2 q (.head _)
    have e7 := AO_inj a1.adr a2.adr (bytesI.mp e4)
    have e8 := map_WO a1.slot a2.slot (listI.mp e6)
    rw [map_row (fun s hs => h1 s (.tail _ hs)) (fun s hs => h2 s (.tail _ hs)) e2, show p = q from Prod.ext e7 e8]
theorem kind_enc {x y : List UInt8} {v : V} {l : List V} (h : x ++ encV v = y) (hv : v = .list l) (hl : (encV v).length ≤ 100000) : ∃ f t, encV v = f :: t ∧ 192 ≤ f.toNat := by
  subst hv
  have hl2 : (encVs l).length ≤ 100000 := by
    have : (encV (.list l)).length = (hdL 192 (encVs l).length ++ encVs l).length := rfl
    rw [List.length_append] at this; (first | lia | omega)
  obtain ⟨f, t, e, h1, _⟩ := hdL_first (low := 192) (by decide) hl2
  exact ⟨f, t ++ encVs l, by rw [show encV (.list l) = hdL 192 (encVs l).length ++ encVs l from rfl, e]; rfl, h1⟩
theorem sigB_first {r : Row} (ok : RowOK r) : ∃ f t, sigB r = f :: t ∧ ((r.kind = 0 ∧ 192 ≤ f.toNat) ∨ (r.kind = 1 ∧ f.toNat = 1) ∨ (r.kind = 2 ∧ f.toNat = 2)) := by
  obtain ⟨f, t, e, h1⟩ := kind_enc (x := []) rfl rfl (Nat.le_trans (sig_len ok) (by decide))
  unfold sigB kindB
  rcases ok.kind with h | h | h
  · rw [if_pos h]; exact ⟨f, t, e, .inl ⟨h, h1⟩⟩
  · rw [if_neg (by (first | lia | omega)), h]; exact ⟨_, _, rfl, .inr (.inl ⟨rfl, rfl⟩)⟩
  · rw [if_neg (by (first | lia | omega)), h]; exact ⟨_, _, rfl, .inr (.inr ⟨rfl, rfl⟩)⟩
theorem row_eq {r q : Row} (h0 : r.kind = q.kind) (h1 : r.chain = q.chain) (h2 : r.nonce = q.nonce) (h3 : r.prio = q.prio) (h4 : r.cap = q.cap) (h5 : r.limit = q.limit) (h6 : r.target = q.target) (h7 : r.value = q.value) (h8 : r.data = q.data) (h9 : r.access = q.access) : r = q := by
  show Row.mk r.kind r.chain r.nonce r.prio r.cap r.limit r.target r.value r.data r.access = q
  rw [h0, h1, h2, h3, h4, h5, h6, h7, h8, h9]
noncomputable def fB (i : Nat) (l : List V) : List UInt8 := byV (l.getD i .un)
noncomputable def fL (i : Nat) (l : List V) : List V := liV (l.getD i .un)
section
variable {r q : Row}
theorem row_of (ok : RowOK r) (oq : RowOK q) (hk : r.kind = q.kind) (hc : r.chain = q.chain) (hp : r.prio = q.prio) (ha : r.access = q.access) {l m : List V} {i : Nat} (h : l = m)
    (e : fB i l = nOct r.nonce ∧ fB (i + 1) l = nOct r.cap ∧ fB (i + 2) l = nOct r.limit ∧ fB (i + 3) l = tgtB r.target ∧ fB (i + 4) l = nOct r.value ∧ fB (i + 5) l = r.data)
    (g : fB i m = nOct q.nonce ∧ fB (i + 1) m = nOct q.cap ∧ fB (i + 2) m = nOct q.limit ∧ fB (i + 3) m = tgtB q.target ∧ fB (i + 4) m = nOct q.value ∧ fB (i + 5) m = q.data) : r = q := by
  subst h
  exact row_eq hk hc (nOct_inj ok.nonce.1 oq.nonce.1 (e.1.symm.trans g.1)) hp (nOct_inj ok.cap.1 oq.cap.1 (e.2.1.symm.trans g.2.1)) (nOct_inj ok.limit.1 oq.limit.1 (e.2.2.1.symm.trans g.2.2.1)) (tgtB_inj ok.target oq.target (e.2.2.2.1.symm.trans g.2.2.2.1)) (nOct_inj ok.value.1 oq.value.1 (e.2.2.2.2.1.symm.trans g.2.2.2.2.1)) (e.2.2.2.2.2.symm.trans g.2.2.2.2.2) ha
theorem it0 (h : r.kind = 0) : itemV r ++ tailV r = .bytes (nOct r.nonce) :: .bytes (nOct r.cap) :: .bytes (nOct r.limit) :: .bytes (tgtB r.target) :: .bytes (nOct r.value) :: .bytes r.data :: tailV r := by
  unfold itemV aheadL; rw [if_pos h, if_neg (by rw [h]; decide), if_pos h]; rfl
theorem it1 (h : r.kind = 1) : itemV r ++ tailV r = [.bytes (nOct r.chain), .bytes (nOct r.nonce), .bytes (nOct r.cap), .bytes (nOct r.limit), .bytes (tgtB r.target), .bytes (nOct r.value), .bytes r.data, .list (r.access.map rowV)] := by
  unfold itemV aheadL tailV; rw [if_neg (by rw [h]; decide), if_neg (by rw [h]; decide), if_neg (by rw [h]; decide), if_neg fun x => absurd (h.symm.trans x.1) (by decide)]; rfl
theorem it2 (h : r.kind = 2) : itemV r ++ tailV r = [.bytes (nOct r.chain), .bytes (nOct r.nonce), .bytes (nOct r.prio), .bytes (nOct r.cap), .bytes (nOct r.limit), .bytes (tgtB r.target), .bytes (nOct r.value), .bytes r.data, .list (r.access.map rowV)] := by
  unfold itemV aheadL tailV; rw [if_neg (by rw [h]; decide), if_pos h, if_neg (by rw [h]; decide), if_neg fun x => absurd (h.symm.trans x.1) (by decide)]; rfl
theorem tail_inj (ok : RowOK r) (oq : RowOK q) (h : r.kind = 0) (g : q.kind = 0) (e : tailV r = tailV q) : r.chain = q.chain := by
  unfold tailV at e
  by_cases c1 : r.chain = 0
  · by_cases c2 : q.chain = 0
    · rw [c1, c2]
    · rw [if_neg (fun x => x.2 c1), if_pos ⟨g, c2⟩] at e; cases e
  · by_cases c2 : q.chain = 0
    · rw [if_pos ⟨h, c1⟩, if_neg (fun x => x.2 c2)] at e; cases e
    · rw [if_pos ⟨h, c1⟩, if_pos ⟨g, c2⟩] at e
      exact nOct_inj ok.chain.1 oq.chain.1 (congrArg (fB 0) e)
theorem sigB_inj (ok : RowOK r) (oq : RowOK q) (h : sigB r = sigB q) : r = q := by
  have hk : r.kind = q.kind := by
    obtain ⟨f, t, e, c⟩ := sigB_first ok
    obtain ⟨g, u, e2, c2⟩ := sigB_first oq
    rw [e, e2] at h
    have h := (List.cons.inj h).1
    clear e e2 ok oq
    subst h
    (first | lia | omega)
  have hV : itemV r ++ tailV r = itemV q ++ tailV q := by
    have e : kindB r = kindB q := by unfold kindB; rw [hk]
    unfold sigB at h
    rw [e] at h
    have h := List.append_cancel_left h
    have h2 := encV_inj 4 (x := []) (y := []) (sig_okV r) (sig_okV q) (Nat.le_trans (sig_len ok) (by decide)) (Nat.le_trans (sig_len oq) (by decide)) (by rw [List.append_nil, List.append_nil]; exact h)
    exact listI.mp h2.1
  clear h
  have acc : r.access.map rowV = q.access.map rowV → r.access = q.access := map_row ok.acc' oq.acc'
  rcases ok.kind with h | h | h
  · have g := hk ▸ h
    rw [it0 h, it0 g] at hV
    have n2 : ∀ {x : Int}, x = 0 → x ≠ 2 := fun h => by rw [h]; decide
    refine row_of ok oq hk (tail_inj ok oq h g (congrArg (List.drop 6) hV)) ?_ ((ok.none h).trans (oq.none g).symm) hV ⟨rfl, rfl, rfl, rfl, rfl, rfl⟩ ⟨rfl, rfl, rfl, rfl, rfl, rfl⟩ (i := 0)
    rw [ok.one (n2 h), oq.one (n2 g)]
    exact nOct_inj ok.cap.1 oq.cap.1 (congrArg (fB 1) hV)
  · have g := hk ▸ h
    rw [it1 h, it1 g] at hV
    have n2 : ∀ {x : Int}, x = 1 → x ≠ 2 := fun h => by rw [h]; decide
    refine row_of ok oq hk (nOct_inj ok.chain.1 oq.chain.1 (congrArg (fB 0) hV)) ?_ (acc (congrArg (fL 7) hV)) hV ⟨rfl, rfl, rfl, rfl, rfl, rfl⟩ ⟨rfl, rfl, rfl, rfl, rfl, rfl⟩ (i := 1)
    rw [ok.one (n2 h), oq.one (n2 g)]
    exact nOct_inj ok.cap.1 oq.cap.1 (congrArg (fB 2) hV)
  · have g := hk ▸ h
    rw [it2 h, it2 g] at hV
    have e := fun i => congrArg (fB i) hV
    exact row_eq hk (nOct_inj ok.chain.1 oq.chain.1 (e 0)) (nOct_inj ok.nonce.1 oq.nonce.1 (e 1)) (nOct_inj ok.prio.1 oq.prio.1 (e 2)) (nOct_inj ok.cap.1 oq.cap.1 (e 3)) (nOct_inj ok.limit.1 oq.limit.1 (e 4)) (tgtB_inj ok.target oq.target (e 5)) (nOct_inj ok.value.1 oq.value.1 (e 6)) (e 7) (acc (congrArg (fL 8) hV))
end
theorem fwd {x R r : Int} (h : (R * r) % 79 = 1) : (x * R * r) % 79 = x % 79 := by
  rw [Int.mul_assoc, Int.mul_emod, h, Int.mul_one, e_em]
theorem bwd {x R r : Int} (h : (R * r) % 79 = 1) : (x * r * R) % 79 = x % 79 := by
  rw [Int.mul_assoc, Int.mul_comm r, ← Int.mul_assoc]; exact fwd h
/-- found again: the signer, just where the figure is the signing's -/
theorem J_iff {J : Nat} {a w1 R r secret : Int} (hR : (R * r) % 79 = 1) (hJ : (J : Int) = ((a - w1) * R) % 79) (hs : 0 < secret ∧ secret < 79) : (J : Int) = secret ↔ a % 79 = (w1 + r * secret) % 79 := by
  constructor
  · intro h
    have h1 : ((a - w1) * R * r) % 79 = (secret * r) % 79 := e_mul (by rw [← hJ, h]; exact (Int.emod_eq_of_lt (by (first | lia | omega)) hs.2).symm) rfl
    rw [fwd hR] at h1
    have h2 := e_add (a := w1) (b := w1) rfl h1
    rw [show w1 + (a - w1) = a by (first | lia | omega), Int.mul_comm secret] at h2
    exact h2
  · intro h
    have h1 := e_sub h (rfl : w1 % 79 = w1 % 79)
    rw [show w1 + r * secret - w1 = secret * r by rw [Int.mul_comm r]; (first | lia | omega)] at h1
    have h2 := e_mul h1 (rfl : R % 79 = R % 79)
    rw [bwd hR] at h2
    rw [hJ, h2, Int.emod_eq_of_lt (by (first | lia | omega)) hs.2]
theorem heir_eq {J : Nat} {a w1 w2 R r secret : Int} (hR : (R * r) % 79 = 1) (ha : a % 79 = (w1 + r * secret) % 79) (hJ : (J : Int) = ((a - w2) * R) % 79) : (J : Int) = (secret + (w1 - w2) * R) % 79 := by
  rw [hJ, e_mul (e_sub ha (rfl : w2 % 79 = w2 % 79)) rfl, show w1 + r * secret - w2 = secret * r + (w1 - w2) by rw [Int.mul_comm r]; (first | lia | omega), Int.add_mul]
  exact e_add (bwd hR) rfl
theorem heir_iff {w1 w2 R r secret : Int} (hR : (R * r) % 79 = 1) (hs : 0 < secret ∧ secret < 79) : (secret + (w1 - w2) * R) % 79 = secret ↔ (w1 - w2) % 79 = 0 := by
  constructor
  · intro h
    have h1 : ((w1 - w2) * R) % 79 = 0 := by (first | lia | omega)
    have h2 : ((w1 - w2) * R * r) % 79 = (0 * r) % 79 := e_mul (by rw [h1]; rfl) rfl
    rw [fwd hR, Int.zero_mul] at h2
    exact h2
  · intro h
    have h1 : ((w1 - w2) * R) % 79 = (0 * R) % 79 := e_mul (by rw [h]; rfl) rfl
    rw [Int.zero_mul] at h1
    have h2 := e_add (rfl : secret % 79 = secret % 79) h1
    rw [h2, Int.add_zero, Int.emod_eq_of_lt (by (first | lia | omega)) hs.2]
theorem sig_I {secret word : Int} {k : Nat} {p : Int × Int} (hk : k < 79) : sigL secret word k p.1 p.2 = sgI ((word + p.1 * secret) % 79).toNat k p := by
  unfold sigL sgI
  have e : ((word + p.1 * secret) * powI (k : Int) (79 - 2) 79).fmod 79 = ((((word + p.1 * secret) % 79).toNat * invN 79 k % 79 : Nat) : Int) := by
    rw [fm79, Int.natCast_emod, Int.natCast_mul, Int.toNat_of_nonneg (Int.emod_nonneg _ (by decide)), show powI (k : Int) (79 - 2) 79 = powI (k : Int) 77 79 from rfl, powI79 (by (first | lia | omega)) (by (first | lia | omega)), Int.toNat_natCast]
    exact (e_mul (e_em _) rfl).symm
  rw [e]
  generalize ((word + p.1 * secret) % 79).toNat * invN 79 k % 79 = s
  have c0 : ((s : Int) = 0) ↔ s = 0 := by (first | lia | omega)
  have c1 : (Int.fdiv 79 2 < (s : Int)) ↔ 39 < s := by rw [show Int.fdiv 79 2 = 39 from rfl]; (first | lia | omega)
  by_cases h : s = 0
  · rw [if_pos (c0.mpr h), if_pos h]
  · rw [if_neg (fun q => h (c0.mp q)), if_neg h]
    by_cases h2 : 39 < s
    · rw [if_pos (c1.mpr h2), if_pos h2]
    · rw [if_neg (fun q => h2 (c1.mp q)), if_neg h2]
structure SG (k : Nat) (p : Int × Int) : Prop where
  twin : ∀ C, C < 79 → sgI C (79 - k) (p.1, 67 - p.2) = sgI C k p
  nil : ∀ C, C < 79 → sgI C k p = none → C = 0
  got : ∀ C q, C < 79 → sgI C k p = some q → C ≠ 0 ∧ (q.1 = 0 ∨ q.1 = 1) ∧ q.2.1 = p.1 ∧ 0 < q.2.2 ∧ q.2.2 ≤ 39 ∧ q.2.2.toNat * kpI k p q.1 % 79 = C
  only : ∀ par s : Int, (par = 0 ∨ par = 1) → 0 < s → s ≤ 39 → sgI (s.toNat * kpI k p par % 79) k p = some (par, p.1, s)
theorem sgS_hi {s : Nat} {e x : Int} (h : 39 < s) : sgS s e x = some (1 - e, x, 79 - (s : Int)) := by
  unfold sgS; rw [if_neg (Nat.ne_of_gt (Nat.lt_trans (by decide) h)), if_pos h]
theorem sgS_lo {s : Nat} {e x : Int} (h : 0 < s) (g : s ≤ 39) : sgS s e x = some (e, x, (s : Int)) := by
  unfold sgS; rw [if_neg (Nat.ne_of_gt h), if_neg (Nat.not_lt_of_le g)]
theorem opp_eq {s t : Nat} (h : s + t = 79) : (79 : Int) - s = t := by
  rw [show (79 : Int) = ((s + t : Nat) : Int) by rw [h]; rfl, Int.natCast_add, Int.add_comm, Int.add_sub_cancel]
theorem opp_ex {s t : Nat} (h : (s + t) % 79 = 0) (hs : s < 79) (ht : t < 79) : s = 0 ∧ t = 0 ∨ 0 < s ∧ 0 < t ∧ s + t = 79 := by
  rcases Nat.lt_or_ge (s + t) 79 with g | g
  · rw [Nat.mod_eq_of_lt g] at h; exact .inl (Nat.add_eq_zero_iff.mp h)
  · rw [Nat.mod_eq_sub_mod g, Nat.mod_eq_of_lt (Nat.sub_lt_left_of_lt_add g (Nat.add_lt_add hs ht))] at h
    have e := Nat.le_antisymm (Nat.le_of_sub_eq_zero h) g
    exact .inr ⟨Nat.pos_of_ne_zero fun z => Nat.ne_of_lt ht (by rwa [z, Nat.zero_add] at e), Nat.pos_of_ne_zero fun z => Nat.ne_of_lt hs (by rwa [z] at e), e⟩
theorem opp_lo {s t : Nat} (h : s + t = 79) : 39 < s ∧ t ≤ 39 ∨ s ≤ 39 ∧ 39 < t := by omega
theorem e_opp (e : Int) : 1 - (1 - e) = e := Int.sub_sub_self 1 e
theorem sgS_twin {s t : Nat} {e x : Int} (h : (s + t) % 79 = 0) (hs : s < 79) (ht : t < 79) : sgS t (1 - e) x = sgS s e x := by
  rcases opp_ex h hs ht with ⟨rfl, rfl⟩ | ⟨s0, t0, g⟩
  · rfl
  · rcases opp_lo g with ⟨a, b⟩ | ⟨a, b⟩
    · rw [sgS_hi a, sgS_lo t0 b, opp_eq g]
    · rw [sgS_hi b, sgS_lo s0 a, opp_eq ((Nat.add_comm t s).trans g), e_opp]
theorem e_ne {e : Int} (he : e = 0 ∨ e = 1) : ¬ e = 1 - e ∧ (1 - e = 0 ∨ 1 - e = 1) := by
  rcases he with h | h <;> rw [h] <;> decide
theorem e_two {e f : Int} (he : e = 0 ∨ e = 1) (hf : f = 0 ∨ f = 1) (h : ¬ e = f) : 1 - e = f := by
  rcases he with rfl | rfl <;> rcases hf with rfl | rfl <;> first | rfl | exact absurd rfl h
theorem sgS_got {s k : Nat} {e x : Int} {q : Int × Int × Int} (hk : k ≤ 79) (he : e = 0 ∨ e = 1) (hs : s < 79) (h : sgS s e x = some q) :
    s ≠ 0 ∧ (q.1 = 0 ∨ q.1 = 1) ∧ q.2.1 = x ∧ 0 < q.2.2 ∧ q.2.2 ≤ 39 ∧ q.2.2.toNat * (if e = q.1 then k else 79 - k) % 79 = s * k % 79 := by
  by_cases c : s = 0
  · rw [c] at h; cases h
  have c0 := Nat.pos_of_ne_zero c
  have a := Nat.add_sub_of_le (Nat.le_of_lt hs)
  rcases opp_lo a with ⟨g, l⟩ | ⟨g, _⟩
  · rw [sgS_hi g, opp_eq a] at h
    rw [← Option.some.inj h]
    refine ⟨c, (e_ne he).2, rfl, Int.natCast_pos.mpr (Nat.sub_pos_of_lt hs), Int.ofNat_le.mpr l, ?_⟩
    rw [if_neg (e_ne he).1]
    exact mm79 (Nat.le_of_lt hs) hk
  · rw [sgS_lo c0 g] at h
    rw [← Option.some.inj h]
    refine ⟨c, he, rfl, Int.natCast_pos.mpr c0, Int.ofNat_le.mpr g, ?_⟩
    rw [if_pos rfl]; rfl
theorem sgS_only {k i s : Nat} {e x par : Int} (h : i * k % 79 = 1) (hk : k ≤ 79) (he : e = 0 ∨ e = 1) (hp : par = 0 ∨ par = 1) (s0 : 0 < s) (s1 : s ≤ 39) :
    sgS (s * (if e = par then k else 79 - k) % 79 * i % 79) e x = some (par, x, (s : Int)) := by
  have b := back79 (C := s) ((Nat.mul_comm k i ▸ h : k * i % 79 = 1))
  have l := Nat.lt_of_le_of_lt s1 (by decide : 39 < 79)
  rw [Nat.mod_eq_of_lt l] at b
  by_cases q : e = par
  · rw [if_pos q, b, sgS_lo s0 s1, q]
  · rw [if_neg q]
    have m := neg79 (i := i) (mir79 (c := s) (Nat.add_sub_of_le hk))
    rw [b] at m
    rcases opp_ex m l (Nat.mod_lt _ (by decide)) with z | ⟨_, _, g⟩
    · exact absurd z.1 (Nat.ne_of_gt s0)
    · rcases opp_lo g with z | z
      · exact absurd z.1 (Nat.not_lt_of_le s1)
      · rw [sgS_hi z.2, opp_eq ((Nat.add_comm _ _).trans g), e_two he hp q]
theorem par_opp (y : Int) : (67 - y).fmod 2 = 1 - y.fmod 2 ∧ (y.fmod 2 = 0 ∨ y.fmod 2 = 1) := by
  rw [Int.fmod_eq_emod_of_nonneg _ (by decide), Int.fmod_eq_emod_of_nonneg _ (by decide), Int.sub_emod]
  rcases Int.emod_two_eq y with h | h <;> rw [h] <;> decide
theorem sg_ex {k : Nat} {p : Int × Int} (hk : 1 ≤ k ∧ k ≤ 78) (hp : Pt k p) : SG k p := by
  obtain ⟨hv, ho⟩ := chkV hk
  have hk := Nat.le_succ_of_le hk.2
  have hy := par_opp p.2
  have lt : ∀ n, n % 79 < 79 := fun n => Nat.mod_lt n (by decide)
  have e0 : ∀ {C}, C < 79 → C * invN 79 k % 79 = 0 → C = 0 := fun {C} hC z => by
    have b := back79 (C := C) hv
    rw [z, Nat.zero_mul, Nat.mod_eq_of_lt hC] at b
    exact b.symm
  refine ⟨fun C hC => ?_, fun C hC h => ?_, fun C q hC h => ?_, fun par s hpar h0 h1 => ?_⟩
  · show sgS _ ((67 - p.2).fmod 2) _ = sgS _ _ _
    rw [hy.1]
    exact sgS_twin (mir79 ho) (lt _) (lt _)
  · refine e0 hC (Decidable.byContradiction fun c => ?_)
    change sgS _ _ _ = none at h
    unfold sgS at h
    rw [if_neg c] at h
    split at h <;> cases h
  · obtain ⟨a, b⟩ := sgS_got hk hy.2 (lt _) h
    refine ⟨fun z => a (by rw [z, Nat.zero_mul]), ?_⟩
    rw [back79 hv, Nat.mod_eq_of_lt hC] at b
    exact b
  · obtain ⟨s, rfl⟩ := Int.eq_ofNat_of_zero_le (Int.le_of_lt h0)
    exact sgS_only hv hk hy.2 hpar (Int.ofNat_lt.mp h0) (Int.ofNat_le.mp h1)
theorem kp_in {k : Nat} {p : Int × Int} {par : Int} (hk : 1 ≤ k ∧ k ≤ 78) : 1 ≤ kpI k p par ∧ kpI k p par ≤ 78 := by
  unfold kpI; split
  · exact hk
  · exact ⟨Nat.sub_pos_of_lt (Nat.lt_succ_of_le hk.2), Nat.sub_le_sub_left hk.1 79⟩
theorem lift_kp {k : Nat} {p : Int × Int} {par : Int} (hp : Pt k p) (h : par = 0 ∨ par = 1) : liftL p.1 par = TB (kpI k p par) := by
  unfold kpI
  rcases h with rfl | rfl
  · exact hp.l0
  · exact hp.l1
set_option tactic.hygienic true
theorem Dg.add_f {D : Dg} {x : Int} : (D.add x).f x = some (D.num x) := by
  unfold Dg.add Dg.num
  cases h : D.f x with
  | some v => exact h
  | none => exact if_pos rfl
theorem Dg.add_keep {D : Dg} {x y v : Int} (h : D.f y = some v) : (D.add x).f y = some v := by
  unfold Dg.add
  cases h2 : D.f x with
  | some u => exact h
  | none =>
    have : y ≠ x := fun e => by rw [e, h2] at h; cases h
    exact (if_neg this).trans h
theorem Dg.num_of {D : Dg} {x v : Int} (h : D.f x = some v) : D.num x = v := by unfold Dg.num; rw [h]
theorem Dg.add_of {D : Dg} {x v : Int} (h : D.f x = some v) : D.add x = D := by unfold Dg.add; rw [h]
theorem keyOf_inj {a b : List UInt8} (h : keyOf a = keyOf b) : a = b := by
  have h : ofBE ([1] ++ a) = ofBE ([1] ++ b) := Int.ofNat.inj h
  rw [ofBE_app, ofBE_app, show ofBE [1] = 1 from rfl, Nat.one_mul, Nat.one_mul] at h
  have la := ofBE_lt a
  have lb := ofBE_lt b
  have key : ∀ {i j : Nat}, i < j → 2 * 256 ^ i ≤ 256 ^ j := fun {i j} hij => by
    have h1 : 256 ^ (i + 1) ≤ 256 ^ j := Nat.pow_le_pow_right (by decide) hij
    rw [Nat.pow_succ] at h1
    (first | lia | omega)
  have hl : a.length = b.length := by
    rcases Nat.lt_trichotomy a.length b.length with q | q | q
    · have := key q; (first | lia | omega)
    · exact q
    · have := key q; (first | lia | omega)
  rw [hl] at h
  exact ofBE_inj hl (by (first | lia | omega))
theorem wordN_inj {n m : Int} (hn : 0 ≤ n ∧ n ≤ 100000) (hm : 0 ≤ m ∧ m ≤ 100000) (h : wordN n = wordN m) : n = m := by
  have h : ofBE (digB n.toNat) = ofBE (digB m.toNat) := Int.ofNat.inj h
  have h2 := ofBE_inj (by rw [digB_length, digB_length]) h
  have h3 := congrArg (fun l => ofBE (l.drop 12)) h2
  rw [ofBE_tail (by (first | lia | omega)), ofBE_tail (by (first | lia | omega))] at h3
  rw [← Int.toNat_of_nonneg hn.1, Nat.add_left_cancel h3, Int.toNat_of_nonneg hm.1]
theorem PO_inj {x y u v : Int} (hx : 0 ≤ x ∧ x ≤ 66) (hy : 0 ≤ y ∧ y ≤ 66) (hu : 0 ≤ u ∧ u ≤ 66) (hv : 0 ≤ v ∧ v ≤ 66) (h : PO x y = PO u v) : x = u ∧ y = v := by
  unfold PO at h
  obtain ⟨h1, h2⟩ := List.append_inj h (by rw [beB_length, beB_length])
  have k : ∀ {a b : Int}, 0 ≤ a ∧ a ≤ 66 → 0 ≤ b ∧ b ≤ 66 → beB 32 a.toNat = beB 32 b.toNat → a = b := fun ha hb h => by
    have l : ∀ {a : Int}, a ≤ 66 → a.toNat < 256 ^ 32 := fun h => Nat.lt_of_le_of_lt (Int.toNat_le.mpr h) (by decide : 66 < 256 ^ 32)
    rw [← Int.toNat_of_nonneg ha.1, beB_inj (l ha.2) (l hb.2) h, Int.toNat_of_nonneg hb.1]
  exact ⟨k hx hu h1, k hy hv h2⟩
theorem veq_ints : ∀ (l m : List Int), all2 (veq 2) (l.map .int) (m.map .int) = true ↔ l = m
  | [], [] => ⟨fun _ => rfl, fun _ => rfl⟩
  | [], _ :: _ => ⟨fun h => (by cases h), fun h => (by cases h)⟩
  | _ :: _, [] => ⟨fun h => (by cases h), fun h => (by cases h)⟩
  | a :: l, b :: m => by
    show (decide (a = b) && all2 (veq 2) (l.map .int) (m.map .int)) = true ↔ _
    rw [Bool.and_eq_true, decide_eq_true_iff, veq_ints l m, List.cons.injEq]
theorem ok_ints : ∀ (l m : List Int), zipA (cmpOK 2) (l.map .int) (m.map .int) = true
  | [], [] => rfl
  | [], _ :: _ => rfl
  | _ :: _, [] => rfl
  | _ :: l, _ :: m => ok_ints l m
theorem veq_acc : ∀ (l m : List (Int × List Int)), all2 (veq 4) (l.map accR) (m.map accR) = true ↔ l = m
  | [], [] => ⟨fun _ => rfl, fun _ => rfl⟩
  | [], _ :: _ => ⟨fun h => (by cases h), fun h => (by cases h)⟩
  | _ :: _, [] => ⟨fun h => (by cases h), fun h => (by cases h)⟩
  | p :: l, q :: m => by
    show ((decide (p.1 = q.1) && (all2 (veq 2) (p.2.map .int) (q.2.map .int) && true)) && all2 (veq 4) (l.map accR) (m.map accR)) = true ↔ _
    rw [Bool.and_eq_true, Bool.and_true, Bool.and_eq_true, decide_eq_true_iff, veq_ints, veq_acc l m, List.cons.injEq, Prod.ext_iff]
theorem ok_acc : ∀ (l m : List (Int × List Int)), zipA (cmpOK 4) (l.map accR) (m.map accR) = true
  | [], [] => rfl
  | [], _ :: _ => rfl
  | _ :: _, [] => rfl
  | p :: l, q :: m => by
    show ((true && (zipA (cmpOK 2) (p.2.map .int) (q.2.map .int) && true)) && zipA (cmpOK 4) (l.map accR) (m.map accR)) = true
    rw [ok_ints, ok_acc l m]; rfl
theorem veq_opt (n : Nat) (o p : Option Int) : veq 5 (optV o) (optV p) = true ↔ o = p := by
  cases o <;> cases p
  · exact ⟨fun _ => rfl, fun _ => rfl⟩
  · exact ⟨fun h => (by cases h), fun h => (by cases h)⟩
  · exact ⟨fun h => (by cases h), fun h => (by cases h)⟩
  · rename_i a b
    show decide (a = b) = true ↔ _
    rw [decide_eq_true_iff, Option.some.injEq]
theorem row_veq (r q : Row) : veq 6 (.list (rowL r)) (.list (rowL q)) = true ↔ r = q := by
  obtain ⟨kind, chain, nonce, prio, cap, limit, target, value, data, access⟩ := r
  obtain ⟨kind2, chain2, nonce2, prio2, cap2, limit2, target2, value2, data2, access2⟩ := q
  show (decide (kind = kind2) && (decide (chain = chain2) && (decide (nonce = nonce2) && (decide (prio = prio2) && (decide (cap = cap2) && (decide (limit = limit2) && (veq 5 (optV target) (optV target2) && (decide (value = value2) && (decide (data = data2) && (all2 (veq 4) (access.map accR) (access2.map accR) && true)))))))))) = true ↔ _
  simp only [Bool.and_eq_true, decide_eq_true_iff, veq_opt 5, veq_acc, Row.mk.injEq, and_true]
theorem row_ok (r q : Row) : cmpOK 6 (.list (rowL r)) (.list (rowL q)) = true := by
  obtain ⟨kind, chain, nonce, prio, cap, limit, target, value, data, access⟩ := r
  obtain ⟨kind2, chain2, nonce2, prio2, cap2, limit2, target2, value2, data2, access2⟩ := q
  have e : cmpOK 5 (optV target) (optV target2) = true := by cases target <;> cases target2 <;> rfl
  show (true && (true && (true && (true && (true && (true && (cmpOK 5 (optV target) (optV target2) && (true && (true && (zipA (cmpOK 4) (access.map accR) (access2.map accR) && true)))))))))) = true
  rw [e, ok_acc]; rfl
set_option tactic.hygienic false
noncomputable def tN : Nat → T
  | 0 => restT
  | n + 1 => nxT (tN n)
/-- what is known of the law's figures once both texts have been asked of the digest -/
structure LC (r q : Row) (k secret : Nat) (p ps : Int × Int) : Prop where
  rok : RowOK r
  qok : RowOK q
  hk : 1 ≤ k ∧ k ≤ 78
  hs : 1 ≤ secret ∧ secret ≤ 78
  hp : Pt k p
  hps : Pt secret ps
/-- the digest, with the three texts that it knows -/
structure LD (w : World) (kd : Addr) (ko : Obj) (D : Dg) (r q : Row) (n1 n2 : Int) (m : Nat) : Prop where
  d : DK w kd ko D
  n : D.n ≤ m
  k1 : D.f (keyOf (sigB r)) = some n1
  k2 : D.f (keyOf (sigB q)) = some n2
theorem LD.add {w : World} {kd : Addr} {ko o' : Obj} {D : Dg} {r q : Row} {n1 n2 : Int} {m : Nat} {x : Int} (h : LD w kd ko D r q n1 n2 m) (hd : DK w kd o' (D.add x)) : LD w kd o' (D.add x) r q n1 n2 (m + 1) :=
  ⟨hd, Nat.le_trans Dg.add_n (Nat.succ_le_succ h.n), Dg.add_keep h.k1, Dg.add_keep h.k2⟩
theorem home_iff {D : Dg} {i j : Nat} {a b : Int × Int} {n m : Int} (wf : D.WF) (hi : Pt i a) (hj : Pt j b) (li : i < 79) (lj : j < 79) (h1 : D.f (keyOf (PO a.1 a.2)) = some n) (h2 : D.f (keyOf (PO b.1 b.2)) = some m) : homeN n = homeN m ↔ i = j := by
  constructor
  · intro h
    have e : n = m := by unfold homeN at h; (first | lia | omega)
    subst e
    have e2 := keyOf_inj (wf.inj _ _ _ h1 h2)
    obtain ⟨e3, e4⟩ := PO_inj ⟨by have := hi.x; (first | lia | omega), hi.x.2⟩ hi.y ⟨by have := hj.x; (first | lia | omega), hj.x.2⟩ hj.y e2
    exact tb_inj li lj (by rw [hi.tb, hj.tb, show a = b from Prod.ext e3 e4])
  · intro h
    subst h
    have : a = b := Option.some.inj (hi.tb.symm.trans hj.tb)
    subst this
    rw [h1] at h2
    rw [Option.some.inj h2]
theorem tb0 {J : Nat} (h : J < 79) : (J = 0 ∧ TB J = none) ∨ ∃ b, Pt J b := by
  rcases Nat.eq_zero_or_pos J with rfl | h0
  · exact .inl ⟨rfl, rfl⟩
  · exact .inr (pt_ex ⟨h0, by (first | lia | omega)⟩)
theorem idx_tbl {i : Nat} (h : i < 79) : idx tblV (i : Int) = some (T2V (TB i)) := by
  unfold idx
  rw [if_pos (Int.natCast_nonneg i), Int.toNat_natCast]
  exact tbl_get h
theorem idx_inv {x : Int} (h0 : 0 ≤ x) (h1 : x < 79) : idx I79 x = some (.int (powI x 77 79)) := by
  unfold idx
  rw [if_pos h0, List.getElem?_map, List.getElem?_range (by (first | lia | omega)), powI79 h0 h1]; rfl
theorem tbl_len : tblV.length ≤ 1000 := by decide
theorem i79_len : I79.length ≤ 1000 := by rw [List.length_map, List.length_range]; decide
section
variable {w : World} {kd wa sl : Addr} {ko : Obj} {D : Dg} {r q : Row} {k secret : Nat} {p ps : Int × Int} {n1 n2 nS : Int} {wl : List V} {tv : V} {s : Int × Int × Int}
/-- the law's locals from the signing on -/
noncomputable abbrev lρ (sl wa kd : Addr) (secret k : Nat) (tv : V) (r q : Row) (n1 n2 : Int) (p : Int × Int) (rf : Bool) (a b c d e f : V) : List V :=
  [.raw (.ref sl), .raw (.ref wa), .list tblV, .list I79, dgV kd, setV kd, .int (secret : Int), .int (k : Int), tv, .list (rowL r), .list (rowL q), .int (wordN n1), .int (wordN n2), .int p.1, .bool rf, a, b, c, d, e, f]
/-- what asking for the sender of a signature gives, in the law -/
theorem who_ask {word : Int} {rr : Row} {par ss : Int} {Q : V → Mu → Prop} (hp : Pt k p) (hk : 1 ≤ k ∧ k ≤ 78) (h : DK w kd ko D) (hn : D.n ≤ 998) (ok : RowOK rr) (hw : D.f (keyOf (sigB rr)) = some word) (hpa : par = 0 ∨ par = 1) (hs : 0 < ss ∧ ss ≤ 39)
    (hq : ∀ J : Nat, J < 79 → (J : Int) = ((ss * kpI k p par - wordN word) * powI p.1 77 79) % 79 → (J = 0 → ∀ o', DK w kd o' D → Q .none [.obj (kd, o'), .lst wa wl]) ∧ (∀ b, Pt J b → ∀ o' n, DK w kd o' (D.add (keyOf (PO b.1 b.2))) → (D.add (keyOf (PO b.1 b.2))).f (keyOf (PO b.1 b.2)) = some n → Q (.int (homeN n)) [.obj (kd, o'), .lst wa wl])) :
    CallOK w 60 (.ref 446) [txV rr (T3V (par, p.1, ss)), setV kd] [.obj (kd, ko), .lst wa wl] Q := by
  obtain ⟨l, hl⟩ := pt_ex (kp_in (p := p) (par := par) hk)
  refine lwho_ok (μ1 := []) h (by (first | lia | omega)) ok hpa ⟨hp.x.1, by have := hp.x.2; show p.1 < 79; (first | lia | omega)⟩ hs (lx := l.1) (ly := l.2) (by rw [lift_kp hp hpa, hl.tb]) ⟨by have := hl.x.1; (first | lia | omega), hl.x.2⟩ hl.y ?_
  rw [Dg.add_of hw, Dg.num_of hw]
  obtain ⟨J, hJ, eJ, e⟩ := rec_TB (word := wordN word) (rx := p.1) (s := ss) (kp_in (p := p) (par := par) hk) hl.tb
  rw [e]
  obtain ⟨q0, q1⟩ := hq J hJ eJ
  rcases tb0 hJ with ⟨rfl, e0⟩ | ⟨b, hb⟩
  · rw [e0]; exact q0 rfl
  · rw [hb.tb]
    exact fun o' hD => q1 b hb o' _ hD Dg.add_f
end
theorem dec_eq {A B : Prop} [Decidable A] [Decidable B] (h : A ↔ B) : (decide A == decide B) = true := by
  by_cases a : A
  · rw [decide_eq_true a, decide_eq_true (h.mp a)]; rfl
  · rw [decide_eq_false a, decide_eq_false fun b => a (h.mpr b)]; rfl
theorem done_thn {w : World} {k : Nat} {K : List V → Mu → Prop} {R : PS} {ρ : List V} {μ : Mu} (h : K ρ μ) : wS w k .done ρ μ (thn K R) := h
theorem ret_true {b : Bool} {ρ : List V} {μ : Mu} (h : b = true) : lawR (.ret (.bool b)) ρ μ := by rw [h]
section
variable {w : World} {kd wa sl : Addr} {ko : Obj} {D : Dg} {r q : Row} {k secret : Nat} {p ps : Int × Int} {n1 n2 nS : Int} {wl : List V} {tv : V} {par ss : Int} {rf : Bool} {b d e f : V}
theorem law_e (lc : LC r q k secret p ps) (ld : LD w kd ko D r q n1 n2 990) (hS : D.f (keyOf (PO ps.1 ps.2)) = some nS) (hpa : par = 0 ∨ par = 1) (hss : 0 < ss ∧ ss ≤ 39) (hC : (ss * kpI k p par) % 79 = (wordN n1 + p.1 * secret) % 79) :
    wS w 60 (tN 18) (lρ sl wa kd secret k tv r q n1 n2 p rf (txV r (T3V (par, p.1, ss))) b (.int (homeN nS)) d e f) [.obj (kd, ko), .lst wa wl] lawR := by
  have hR := lc.hp.inv
  have hx := lc.hp.x
  have hsec : 0 < (secret : Int) ∧ (secret : Int) < 79 := by have := lc.hs; (first | lia | omega)
  have hR0 : 0 ≤ powI p.1 77 79 ∧ powI p.1 77 79 < 79 := powI_in (by decide)
  refine ⟨i79_len, _, idx_inv (by (first | lia | omega)) (by (first | lia | omega)), mulI (.inr ⟨by (first | lia | omega), by (first | lia | omega)⟩) (modI (by decide) fun h eh h0 h1 => ?_)⟩
  have eh : h = (secret + (wordN n1 - wordN n2) * powI p.1 77 79) % 79 := by rw [eh, fm79]
  refine CallOK.mono (k := 3) (k' := 60) (lawtx_ok (r := q) (sg2 := T3V (par, p.1, ss)) rfl (Nat.le_trans lc.qok.accN (by decide)) ?_) (by decide)
  refine who_ask lc.hp lc.hk ld.d (Nat.le_trans ld.n (by decide)) lc.qok ld.k2 hpa hss fun J hJ eJ => ?_
  have eJ : (J : Int) = h := by rw [eh]; exact heir_eq hR hC eJ
  have hi := heir_iff (w1 := wordN n1) (w2 := wordN n2) hR hsec
  rw [← eh] at hi
  have last : ∀ (who : V) (z : Bool) (ko' : Obj), (who = .none ∧ z = false) ∨ (∃ v, who = .int v ∧ z = decide (v = homeN nS)) → (z = true ↔ (wordN n1 - wordN n2) % 79 = 0) →
      wS w 60 (tN 21) (lρ sl wa kd secret k tv r q n1 n2 p rf (txV r (T3V (par, p.1, ss))) b (.int (homeN nS)) d who (.int h)) [.obj (kd, ko'), .lst wa wl] lawR := fun who z ko' hw hz => by
    have fin : ∀ x : Int, x = (wordN n1 - wordN n2).fmod 79 → (z == decide (x = 0)) = true := fun x ex => by
      rw [fm79] at ex
      by_cases c : x = 0
      · rw [decide_eq_true c, hz.mpr (by rw [← ex]; exact c)]; rfl
      · rw [decide_eq_false c]
        cases z with
        | false => rfl
        | true => exact absurd (by rw [ex]; exact hz.mp rfl) c
    rcases hw with ⟨rfl, rfl⟩ | ⟨v, rfl, rfl⟩
    · exact ⟨rfl, modI (by decide) fun x ex _ _ => ret_true (ρ := []) (μ := []) (fin x ex)⟩
    · exact modI (by decide) fun x ex _ _ => ret_true (ρ := []) (μ := []) (fin x ex)
  refine ⟨fun e0 o' hD => ?_, fun b' hb o' n hD hn => ?_⟩
  · have h0 : h = 0 := by rw [← eJ, e0]; rfl
    refine brT (c := h = 0) h0 ⟨rfl, last .none false o' (.inl ⟨rfl, rfl⟩) ⟨fun q => (by cases q), fun q => ?_⟩⟩
    exact absurd ((hi.mpr q).symm.trans h0) (Int.ne_of_gt hsec.1)
  · have h0 : ¬ h = 0 := by
      intro h0
      have : J = 0 := Int.natCast_eq_zero.mp (eJ.trans h0)
      subst this
      have := hb.tb
      cases this
    refine brF (c := h = 0) h0 ⟨tbl_len, T2V (some b'), by rw [← eJ, idx_tbl hJ, hb.tb], ?_⟩
    refine CallOK.mono (k := 6) (k' := 60) (home_ok (μ1 := []) hD (Nat.le_trans Dg.add_n (Nat.le_trans (Nat.succ_le_succ ld.n) (by decide))) ⟨Int.le_of_lt hb.x.1, hb.x.2⟩ hb.y fun o2 hD2 => ?_) (by decide)
    rw [Dg.num_of hn]
    have key : (decide (homeN n = homeN nS) = true ↔ (wordN n1 - wordN n2) % 79 = 0) := by
      rw [decide_eq_true_iff, home_iff hD.wf hb lc.hps hJ (Nat.lt_succ_of_le lc.hs.2) hn (Dg.add_keep hS), ← hi, ← eJ]
      exact Int.ofNat_inj.symm
    have last2 := fun v hv => last (.int v) _ o2 (.inr ⟨v, rfl, rfl⟩) hv
    clear last hi eJ eh hn hb hD hD2 hC
    generalize homeN n = v at key ⊢
    exact brnT (c := v = v) rfl (done_thn (last2 v key))
end
theorem T3_veq (a b : Int × Int × Int) : veq 6 (T3V a) (T3V b) = true ↔ a = b := by
  obtain ⟨a1, a2, a3⟩ := a
  obtain ⟨b1, b2, b3⟩ := b
  show (decide (a1 = b1) && (decide (a2 = b2) && (decide (a3 = b3) && true))) = true ↔ _
  simp only [Bool.and_eq_true, decide_eq_true_iff, Prod.mk.injEq, and_true]
theorem beq_no {a b : Bool} (h : a = true ↔ b = true) : (!(a == b)) = false := by
  cases a <;> cases b <;> first | rfl | exact absurd (h.mp rfl) Bool.false_ne_true | exact absurd (h.mpr rfl) Bool.false_ne_true
section
variable {w : World} {kd wa sl : Addr} {ko : Obj} {D : Dg} {r q : Row} {k secret : Nat} {p ps : Int × Int} {n1 n2 nS : Int} {wl : List V} {tv : V} {par ss : Int} {rf : Bool} {b d e f : V}
theorem law_c (lc : LC r q k secret p ps) (ld : LD w kd ko D r q n1 n2 990) (hS : D.f (keyOf (PO ps.1 ps.2)) = some nS) (hpa : par = 0 ∨ par = 1) (hss : 0 < ss ∧ ss ≤ 39) (hC : (ss * kpI k p par) % 79 = (wordN n1 + p.1 * secret) % 79)
    {who : V} {z : Bool} {par3 s3 : Int} (hw : (who = .none ∧ z = false) ∨ (∃ v, who = .int v ∧ z = decide (v = homeN nS))) (hbig : 39 < s3 → who = .none) (hz : z = true ↔ (par3, p.1, s3) = (par, p.1, ss)) :
    wS w 60 (tN 17) (lρ sl wa kd secret k tv r q n1 n2 p rf (txV r (T3V (par, p.1, ss))) b (.int (homeN nS)) (T3V (par3, p.1, s3)) who f) [.obj (kd, ko), .lst wa wl] lawR := by
  have fin := law_e (w := w) (kd := kd) (wa := wa) (sl := sl) (wl := wl) (tv := tv) (rf := rf) (b := b) (d := T3V (par3, p.1, s3)) (e := who) (f := f) lc ld hS hpa hss hC
  have key : (!(z == veq 6 (T3V (par3, p.1, s3)) (T3V (par, p.1, ss)))) = false := beq_no (hz.trans (T3_veq _ _).symm)
  have l3 : (3 : Nat) ≤ 1000 := by decide
  clear lc ld hS hpa hss hC hz
  rcases hw with ⟨rfl, rfl⟩ | ⟨v, rfl, rfl⟩
  · refine ⟨l3, .int s3, rfl, brI (fun _ => ?_) fun _ => ?_⟩
    · exact ⟨rfl, rfl, brQ key (done_thn fin)⟩
    · exact ⟨rfl, rfl, brQ key (done_thn fin)⟩
  · refine ⟨l3, .int s3, rfl, brF (c := 39 < s3) (fun h => by have := hbig h; cases this) ?_⟩
    exact ⟨rfl, brQ key (done_thn fin)⟩
theorem law_d (lc : LC r q k secret p ps) (ld : LD w kd ko D r q n1 n2 985) (hS : D.f (keyOf (PO ps.1 ps.2)) = some nS) (hpa : par = 0 ∨ par = 1) (hss : 0 < ss ∧ ss ≤ 39) (hC : (ss * kpI k p par) % 79 = (wordN n1 + p.1 * secret) % 79) (hw : WK wl) :
    wS w 60 (tN 15) (lρ sl wa kd secret k tv r q n1 n2 p rf (txV r (T3V (par, p.1, ss))) b (.int (homeN nS)) d e f) [.obj (kd, ko), .lst wa wl] lawR := by
  refine CallOK.mono (k := 1) (k' := 60) (draw_ok (μ1 := [.obj (kd, ko)]) (μ2 := []) hw (by decide) fun par3 wl1 p0 p1 hw1 => ?_) (by decide)
  refine CallOK.mono (k := 1) (k' := 60) (draw_ok (μ1 := [.obj (kd, ko)]) (μ2 := []) hw1 (by decide) fun v wl2 v0 v1 hw2 => ?_) (by decide)
  refine CallOK.mono (k := 3) (k' := 60) (wsig_ok (sg2 := T3V (par3, p.1, 1 + v)) rfl ?_) (by decide)
  have go := fun {ko' : Obj} {D' : Dg} {who : V} {z : Bool} (ld' : LD w kd ko' D' r q n1 n2 990) (hS' : D'.f (keyOf (PO ps.1 ps.2)) = some nS) (hw : (who = .none ∧ z = false) ∨ (∃ v, who = .int v ∧ z = decide (v = homeN nS))) (hbig : 39 < 1 + v → who = .none) (hz : z = true ↔ (par3, p.1, 1 + v) = (par, p.1, ss)) =>
    law_c (w := w) (sl := sl) (wa := wa) (wl := wl2) (tv := tv) (rf := rf) (b := b) (f := f) lc ld' hS' hpa hss hC hw hbig hz
  have ld2 : LD w kd ko D r q n1 n2 990 := ⟨ld.d, Nat.le_trans ld.n (by decide), ld.k1, ld.k2⟩
  by_cases hb : 39 < 1 + v
  · refine lwho_big (μ1 := []) hb ?_
    exact go ld2 hS (.inl ⟨rfl, rfl⟩) (fun _ => rfl) ⟨fun h => (by cases h), fun h => absurd (congrArg (fun x => x.2.2) h) (show ¬ (1 + v = ss) by (first | lia | omega))⟩
  · have hs3 : 0 < 1 + v ∧ 1 + v ≤ 39 := ⟨by (first | lia | omega), by (first | lia | omega)⟩
    have hp3 : par3 = 0 ∨ par3 = 1 := by (first | lia | omega)
    have sg := sg_ex lc.hk lc.hp
    refine who_ask lc.hp lc.hk ld.d (Nat.le_trans ld.n (by decide)) lc.rok ld.k1 hp3 hs3 fun J hJ eJ => ?_
    have hsec : 0 < (secret : Int) ∧ (secret : Int) < 79 := ⟨by have := lc.hs.1; (first | lia | omega), by have := lc.hs.2; (first | lia | omega)⟩
    have hi := J_iff lc.hp.inv eJ hsec
    have same : (J : Int) = secret ↔ (par3, p.1, 1 + v) = (par, p.1, ss) := by
      rw [hi, ← hC]
      constructor
      · intro h
        have e1 := sg.only par3 (1 + v) hp3 hs3.1 hs3.2
        have e2 := sg.only par ss hpa hss.1 hss.2
        have e3 : (1 + v).toNat * kpI k p par3 % 79 = ss.toNat * kpI k p par % 79 := by
          have a1 : (((1 + v).toNat * kpI k p par3 % 79 : Nat) : Int) = (1 + v) * kpI k p par3 % 79 := by rw [Int.natCast_emod, Int.natCast_mul, Int.toNat_of_nonneg (Int.le_of_lt hs3.1)]; rfl
          have a2 : ((ss.toNat * kpI k p par % 79 : Nat) : Int) = ss * kpI k p par % 79 := by rw [Int.natCast_emod, Int.natCast_mul, Int.toNat_of_nonneg (Int.le_of_lt hss.1)]; rfl
          exact Int.ofNat.inj (a1.trans (h.trans a2.symm))
        rw [e3, e2] at e1
        exact (Option.some.inj e1).symm
      · intro h
        obtain ⟨h1, h2⟩ := Prod.mk.inj h
        have h3 := (Prod.mk.inj h2).2
        rw [h1, h3]
    refine ⟨fun e0 o' hD => ?_, fun b' hb' o' n hD hn => ?_⟩
    · refine go (D' := D) ⟨hD, Nat.le_trans ld.n (by decide), ld.k1, ld.k2⟩ hS (.inl ⟨rfl, rfl⟩) (fun _ => rfl) ⟨fun h => (by cases h), fun h => ?_⟩
      have := same.mpr h
      rw [e0] at this
      exact absurd this (Int.ne_of_lt hsec.1)
    · refine go (D' := D.add (keyOf (PO b'.1 b'.2))) ⟨hD, Nat.le_trans Dg.add_n (Nat.le_trans (Nat.succ_le_succ ld.n) (by decide)), Dg.add_keep ld.k1, Dg.add_keep ld.k2⟩ (Dg.add_keep hS) (.inr ⟨_, rfl, rfl⟩) (fun h => absurd h hb) ?_
      rw [decide_eq_true_iff, home_iff hD.wf hb' lc.hps hJ (Nat.lt_succ_of_le lc.hs.2) hn (Dg.add_keep hS), ← same]
      exact Int.ofNat_inj.symm
end
theorem times_G {k : Nat} (hk : k < 79) : timesL (k : Int) (2, 22) = TB k := by
  rw [times_TB (j := 1) (by decide) rfl]
  rw [Int.emod_eq_of_lt (Int.natCast_nonneg k) (by (first | lia | omega)), Int.toNat_natCast, Nat.mul_one, Nat.mod_eq_of_lt hk]
section
variable {w : World} {kd wa sl : Addr} {ko : Obj} {D : Dg} {r q : Row} {k secret : Nat} {p ps : Int × Int} {n1 n2 nS : Int} {wl : List V} {tv : V} {par ss : Int} {rf : Bool} {b d e f : V}
theorem snd_ask {Q : V → Mu → Prop} (lc : LC r q k secret p ps) (ld : LD w kd ko D r q n1 n2 984) (hS : D.f (keyOf (PO ps.1 ps.2)) = some nS) (hpa : par = 0 ∨ par = 1) (hss : 0 < ss ∧ ss ≤ 39) (hC : (ss * kpI k p par) % 79 = (wordN n1 + p.1 * secret) % 79)
    (hq : ∀ o', LD w kd o' D r q n1 n2 984 → Q (.int (homeN nS)) [.obj (kd, o'), .lst wa wl]) : CallOK w 60 (.ref 341) [txV r (T3V (par, p.1, ss)), setV kd] [.obj (kd, ko), .lst wa wl] Q := by
  obtain ⟨l, hl⟩ := pt_ex (kp_in (p := p) (par := par) lc.hk)
  have hp := lc.hp
  refine CallOK.mono (k := 11) (k' := 60) (snd_ok (μ1 := []) ld.d (Nat.le_trans ld.n (by decide)) lc.rok hpa ⟨hp.x.1, by have := hp.x.2; show p.1 < 79; (first | lia | omega)⟩ hss (lx := l.1) (ly := l.2) (by rw [lift_kp hp hpa, hl.tb]) ⟨by have := hl.x.1; (first | lia | omega), hl.x.2⟩ hl.y ?_) (by decide)
  rw [Dg.add_of ld.k1, Dg.num_of ld.k1]
  obtain ⟨J, hJ, eJ, e⟩ := rec_TB (word := wordN n1) (rx := p.1) (s := ss) (kp_in (p := p) (par := par) lc.hk) hl.tb
  have hsec : 0 < (secret : Int) ∧ (secret : Int) < 79 := ⟨by have := lc.hs.1; (first | lia | omega), by have := lc.hs.2; (first | lia | omega)⟩
  have := (J_iff hp.inv eJ hsec).mpr hC
  have : J = secret := Int.ofNat.inj this
  rw [e, this, lc.hps.tb]
  intro o' hD
  have hD2 : DK w kd o' D := by have := hD; rwa [Dg.add_of hS] at this
  show Q (.int (homeN (D.num (keyOf (PO ps.1 ps.2))))) _
  rw [Dg.num_of hS]
  exact hq o' ⟨hD2, ld.n, ld.k1, ld.k2⟩
theorem law_b2 (lc : LC r q k secret p ps) (ld : LD w kd ko D r q n1 n2 983) (hpa : par = 0 ∨ par = 1) (hss : 0 < ss ∧ ss ≤ 39) (hC : (ss * kpI k p par) % 79 = (wordN n1 + p.1 * secret) % 79) (hw : WK wl) :
    wS w 60 (tN 12) (lρ sl wa kd secret k tv r q n1 n2 p false (txV r (T3V (par, p.1, ss))) (txV r (T3V (par, p.1, ss))) .un .un .un .un) [.obj (kd, ko), .lst wa wl] lawR := by
  have e1 : (!veq 6 (.list (rowL r)) (.list (rowL r))) = false := by rw [(row_veq r r).mpr rfl]; rfl
  have e2 : (!veq 6 (T3V (par, p.1, ss)) (T3V (par, p.1, ss))) = false := by rw [(T3_veq _ _).mpr rfl]; rfl
  have l3 : (3 : Nat) ≤ 1000 := by decide
  refine CallOK.mono (k := 1) (k' := 60) (flds_ok ⟨row_ok r r, brQ e1 ⟨rfl, brQ e2 (done_thn ?_)⟩⟩) (by decide)
  refine ⟨tbl_len, T2V (some ps), by rw [idx_tbl (Nat.lt_succ_of_le lc.hs.2), lc.hps.tb], ?_⟩
  refine CallOK.mono (k := 6) (k' := 60) (home_ok (μ1 := []) ld.d (Nat.le_trans ld.n (by decide)) ⟨Int.le_of_lt lc.hps.x.1, lc.hps.x.2⟩ lc.hps.y fun o' hD => ?_) (by decide)
  have ld2 := ld.add hD
  have hS := Dg.add_f (D := D) (x := keyOf (PO ps.1 ps.2))
  refine ⟨l3, .int p.1, rfl, brnT (c := p.1 = p.1) rfl ⟨l3, .int ss, rfl, brT (c := 0 < ss) hss.1 (brnT (c := ss < 40) (Int.lt_of_le_of_lt hss.2 (by decide)) ?_)⟩⟩
  refine snd_ask lc ld2 hS hpa hss hC fun o2 ld3 => ?_
  refine brnT (c := homeN (D.num (keyOf (PO ps.1 ps.2))) = homeN (D.num (keyOf (PO ps.1 ps.2)))) rfl (done_thn ?_)
  exact law_d lc ⟨ld3.d, Nat.le_trans ld3.n (by decide), ld3.k1, ld3.k2⟩ hS hpa hss hC hw
end
section
variable {w : World} {kd wa sl : Addr} {ko : Obj} {D : Dg} {r q : Row} {k secret : Nat} {p ps : Int × Int} {n1 n2 nS : Int} {wl : List V} {tv : V} {rf : Bool}
theorem t11_no {t a1 : T} {R : PS} {sg1 sg2 : V} {μ : Mu} (h : wS w 60 t (lρ sl wa kd secret k tv r q n1 n2 p rf (txV r sg1) (txV r sg2) .un .un .un .un) μ R) :
    wS w 60 (.ife (.bor (.cmp .Is (.var 15) .cnone) (.cmp .Is (.var 16) .cnone)) a1 .done t) (lρ sl wa kd secret k tv r q n1 n2 p rf (txV r sg1) (txV r sg2) .un .un .un .un) μ R := h
theorem law_b (lc : LC r q k secret p ps) (ld : LD w kd ko D r q n1 n2 983) (hrf : rf = true ↔ (wordN n1 + p.1 * secret) % 79 = 0) (hw : WK wl) :
    wS w 60 (tN 10) (lρ sl wa kd secret k tv r q n1 n2 p rf .un .un .un .un .un .un) [.obj (kd, ko), .lst wa wl] lawR := by
  have hp := lc.hp
  have sg := sg_ex lc.hk hp
  have hk := lc.hk
  have hsec : 0 < (secret : Int) ∧ (secret : Int) < 79 := ⟨by have := lc.hs.1; omega, by have := lc.hs.2; omega⟩
  have hC0 : 0 ≤ (wordN n1 + p.1 * secret) % 79 ∧ (wordN n1 + p.1 * secret) % 79 < 79 := ⟨Int.emod_nonneg _ (by decide), Int.emod_lt_of_pos _ (by decide)⟩
  have hC79 : ((wordN n1 + p.1 * secret) % 79).toNat < 79 := (Int.toNat_lt hC0.1).mpr hC0.2
  have ek : (79 : Int) - (k : Int) = ((79 - k : Nat) : Int) := by omega
  have s1 := sig_I (secret := secret) (word := wordN n1) (p := p) (Nat.lt_succ_of_le hk.2)
  have s2 := sig_I (secret := secret) (word := wordN n1) (k := 79 - k) (p := (p.1, 67 - p.2)) (by omega)
  dsimp only at s2
  rw [sg.twin _ hC79] at s2
  have t1 : timesL (k : Int) (2, 22) = some (p.1, p.2) := (times_G (Nat.lt_succ_of_le hk.2)).trans hp.tb
  have t2 : timesL ((79 : Int) - (k : Int)) (2, 22) = some (p.1, 67 - p.2) := by rw [ek, times_G (by omega), hp.opp]
  rw [← ek] at s2
  refine lsgn_ok (μ1 := []) ld.d (Nat.le_trans ld.n (by decide)) lc.rok hsec hp.x hp.y t1 fun o' hD => ?_
  rw [Dg.add_of ld.k1] at hD
  rw [Dg.num_of ld.k1, s1]
  have second : ∀ {o : Obj} {Q : V → Mu → Prop}, DK w kd o D → (∀ o', DK w kd o' D → sgnQ (sgI ((wordN n1 + p.1 * secret) % 79).toNat k p) r Q (Q .none) [.obj (kd, o'), .lst wa wl]) → CallOK w 60 (.ref 439) [.list (rowL r), .int (secret : Int), .int ((79 : Int) - (k : Int)), setV kd] [.obj (kd, o), .lst wa wl] Q := fun {o Q} hD hq => by
    refine lsgn_ok (μ1 := []) hD (Nat.le_trans ld.n (by decide)) lc.rok hsec hp.x (py := 67 - p.2) ?_ t2 fun o' hD' => ?_
    · obtain ⟨p', hp'⟩ := pt_ex (k := 79 - k) (by omega)
      have e := Option.some.inj (hp'.tb.symm.trans hp.opp)
      have hy := hp'.y
      rw [e] at hy
      exact hy
    · rw [Dg.add_of ld.k1] at hD'
      rw [Dg.num_of ld.k1, s2]
      exact hq o' hD'
  have hnil := sg.nil _ hC79
  have hgot := sg.got ((wordN n1 + p.1 * secret) % 79).toNat
  revert second hnil hgot
  cases hs : sgI ((wordN n1 + p.1 * secret) % 79).toNat k p with
  | none =>
    intro second hnil _
    have h0 : rf = true := hrf.mpr (by rw [← Int.toNat_of_nonneg hC0.1, hnil rfl]; rfl)
    subst h0
    refine second hD fun o2 _ => ?_
    exact ret_true (ρ := []) (μ := []) rfl
  | some s =>
    intro second _ hgot
    obtain ⟨g1, g2, g3, g4, g5, g6⟩ := hgot s hC79 rfl
    obtain ⟨par, sx, ss⟩ := s
    dsimp only at g2 g3 g4 g5 g6
    subst g3
    have h0 : rf = false := by
      cases hr : rf with
      | false => rfl
      | true => exact absurd (by rw [hrf.mp hr]; rfl) g1
    subst h0
    refine second hD fun o2 hD2 => ?_
    have hC : (ss * kpI k p par) % 79 = (wordN n1 + p.1 * secret) % 79 := by
      have g7 : ((ss.toNat * kpI k p par % 79 : Nat) : Int) = (((wordN n1 + p.1 * secret) % 79).toNat : Int) := congrArg _ g6
      rw [Int.natCast_emod, Int.natCast_mul, Int.toNat_of_nonneg (Int.le_of_lt g4), Int.toNat_of_nonneg hC0.1] at g7
      exact g7
    have k12 := law_b2 (tv := tv) (wa := wa) (sl := sl) lc ⟨hD2, ld.n, ld.k1, ld.k2⟩ g2 ⟨g4, g5⟩ hC hw
    have k11 : wS w 60 (tN 11) (lρ sl wa kd secret k tv r q n1 n2 p false (txV r (T3V (par, p.1, ss))) (txV r (T3V (par, p.1, ss))) .un .un .un .un) [.obj (kd, o2), .lst wa wl] lawR := t11_no k12
    exact k11
end
section
variable {w : World} {kd wa sl : Addr} {ko : Obj} {D : Dg} {r q : Row} {k secret : Nat} {n1 n2 : Int} {wl : List V} {tv : V}
/-- the law's locals ahead of the signing -/
noncomputable abbrev eρ (sl wa kd : Addr) (secret k : Nat) (tv a b c d : V) : List V :=
  [.raw (.ref sl), .raw (.ref wa), .list tblV, .list I79, dgV kd, setV kd, .int (secret : Int), .int (k : Int), tv, a, b, c, d, .un, .un, .un, .un, .un, .un, .un, .un]
theorem t8_no {t a1 : T} {R : PS} {μ : Mu} {x y : Int} (key : (!(decide (x = y) == veq 6 (.list (rowL r)) (.list (rowL q)))) = false) (h : wS w 60 t (eρ sl wa kd secret k tv (.list (rowL r)) (.list (rowL q)) (.int x) (.int y)) μ R) :
    wS w 60 (.ife (.cmp .NotEq (.cmp .Eq (.var 11) (.var 12)) (.cmp .Eq (.var 9) (.var 10))) a1 .done t) (eρ sl wa kd secret k tv (.list (rowL r)) (.list (rowL q)) (.int x) (.int y)) μ R := ⟨row_ok r q, brQ key h⟩
theorem word_iff (rok : RowOK r) (qok : RowOK q) (ld : LD w kd ko D r q n1 n2 983) : wordN n1 = wordN n2 ↔ r = q := by
  have wf := ld.d.wf
  have b1 := wf.range _ _ ld.k1
  have b2 := wf.range _ _ ld.k2
  have hn := ld.n
  constructor
  · intro h
    have e := wordN_inj ⟨by (first | lia | omega), by (first | lia | omega)⟩ ⟨by (first | lia | omega), by (first | lia | omega)⟩ h
    have h2 := ld.k2
    rw [← e] at h2
    exact sigB_inj rok qok (keyOf_inj (wf.inj _ _ _ ld.k1 h2))
  · rintro rfl
    have h2 := ld.k2
    rw [ld.k1] at h2
    rw [Option.some.inj h2]
theorem law_9 (rok : RowOK r) (qok : RowOK q) (hk : 1 ≤ k ∧ k ≤ 78) (hs : 1 ≤ secret ∧ secret ≤ 78) (ld : LD w kd ko D r q n1 n2 983) (hw : WK wl) :
    wS w 60 (tN 9) (eρ sl wa kd secret k tv (.list (rowL r)) (.list (rowL q)) (.int (wordN n1)) (.int (wordN n2))) [.obj (kd, ko), .lst wa wl] lawR := by
  obtain ⟨p, hp⟩ := pt_ex hk
  obtain ⟨ps, hps⟩ := pt_ex hs
  have l2 : (2 : Nat) ≤ 1000 := by decide
  have ix : idx tblV (k : Int) = some (T2V (some p)) := by rw [idx_tbl (Nat.lt_succ_of_le hk.2), hp.tb]
  have go := fun (rf : Bool) (hrf : rf = true ↔ (wordN n1 + p.1 * secret) % 79 = 0) => law_b (w := w) (sl := sl) (wa := wa) (tv := tv) ⟨rok, qok, hk, hs, hp, hps⟩ ld hrf hw
  have hx := hp.x
  clear ld hw hp hps rok qok
  refine ⟨tbl_len, _, ix, l2, .int p.1, rfl, ⟨tbl_len, _, ix, l2, .int p.1, rfl, mulI (.inl ⟨by (first | lia | omega), by (first | lia | omega)⟩) (modI (by decide) fun x ex _ _ => ?_)⟩⟩
  refine go (decide (x = 0)) ?_
  rw [decide_eq_true_iff, ex, fm79]
theorem law_8 (rok : RowOK r) (qok : RowOK q) (hk : 1 ≤ k ∧ k ≤ 78) (hs : 1 ≤ secret ∧ secret ≤ 78) (ld : LD w kd ko D r q n1 n2 983) (hw : WK wl) :
    wS w 60 (tN 8) (eρ sl wa kd secret k tv (.list (rowL r)) (.list (rowL q)) (.int (wordN n1)) (.int (wordN n2))) [.obj (kd, ko), .lst wa wl] lawR := by
  have key : (!(decide (wordN n1 = wordN n2) == veq 6 (.list (rowL r)) (.list (rowL q)))) = false := beq_no (by rw [decide_eq_true_iff, row_veq, word_iff rok qok ld])
  exact t8_no key (law_9 rok qok hk hs ld hw)
end
section
variable {w : World} {kd wa sl : Addr} {ko : Obj} {D : Dg} {r q : Row} {k secret : Nat} {n1 n2 : Int} {wl : List V} {tv : V}
theorem law_7 (rok : RowOK r) (qok : RowOK q) (hk : 1 ≤ k ∧ k ≤ 78) (hs : 1 ≤ secret ∧ secret ≤ 78) (hd : DK w kd ko D) (hn : D.n ≤ 900) (h1 : D.f (keyOf (sigB r)) = some n1) (hw : WK wl) :
    wS w 60 (tN 7) (eρ sl wa kd secret k tv (.list (rowL r)) (.list (rowL q)) (.int (wordN n1)) .un) [.obj (kd, ko), .lst wa wl] lawR := by
  refine CallOK.mono (k := 10) (k' := 60) (lword_ok (μ1 := []) (r := q) hd (Nat.le_trans hn (by decide)) qok fun o' hD => ?_) (by decide)
  exact law_8 rok qok hk hs ⟨hD, Nat.le_trans Dg.add_n (Nat.le_trans (Nat.succ_le_succ hn) (by decide)), Dg.add_keep h1, Dg.add_f⟩ hw
/-- digest.of(bytes([turn, u])) -/
noncomputable abbrev askT (u : Int) : T := .expr (.meth (.var 4) 21 (.cons (.call 55 (.cons (.lst (.cons (.var 8) (.cons (.cint u) .nil))) .nil)) .nil)) .done
theorem ask_ok {j : Nat} {u : Int} {a b c d : V} {μ : Mu} {R : PS} (hd : DK w kd ko D) (hn : D.n ≤ 900) (hj : j ≤ 100) (hu : 0 ≤ u ∧ u ≤ 9)
    (hq : ∀ o', DK w kd o' (D.add (keyOf [((0 : Nat) + (j : Nat) : Int).toNat.toUInt8, u.toNat.toUInt8])) → R .next (eρ sl wa kd secret k (.int ((0 : Nat) + (j : Nat) : Int)) a b c d) (.obj (kd, o') :: μ)) :
    wS w 60 (askT u) (eρ sl wa kd secret k (.int ((0 : Nat) + (j : Nat) : Int)) a b c d) (.obj (kd, ko) :: μ) R := by
  refine byI_ok (ns := [((0 : Nat) + (j : Nat) : Int), u]) (fun x hx => ?_) (Nat.le_of_ble_eq_true rfl) ?_
  · rcases List.mem_cons.mp hx with rfl | hx
    · (first | lia | omega)
    · rw [List.mem_singleton.mp hx]; (first | lia | omega)
  · exact CallOK.mono (k := 4) (k' := 60) (of_ok (μ1 := []) hd (Nat.le_trans hn (by decide)) (Nat.le_of_ble_eq_true rfl) fun o' hD => hq o' hD) (by decide)
theorem law_6 (rok : RowOK r) (qok : RowOK q) (hk : 1 ≤ k ∧ k ≤ 78) (hs : 1 ≤ secret ∧ secret ≤ 78) (hd : DK w kd ko D) (hn : D.n ≤ 100) (h1 : D.f (keyOf (sigB r)) = some n1) (hw : WK wl) :
    wS w 60 (tN 6) (eρ sl wa kd secret k tv (.list (rowL r)) (.list (rowL q)) (.int (wordN n1)) .un) [.obj (kd, ko), .lst wa wl] lawR := by
  refine CallOK.mono (k := 3) (k' := 60) (one3 (μ1 := [.obj (kd, ko)]) (μ2 := []) (IntP 0 78) hw (List.cons_ne_nil _ _) (Nat.le_of_ble_eq_true rfl) (fun v hv => mem4 hv ⟨_, rfl, by decide, by decide⟩ ⟨_, rfl, by decide, by decide⟩ ⟨_, rfl, by decide, by decide⟩ ⟨_, rfl, by decide, by decide⟩) ?_) (by decide)
  rintro _ wl1 ⟨x, rfl, x0, x1⟩ hw1
  refine ⟨⟨⟨x0, Int.le_trans x1 (by decide)⟩, by decide⟩, fun j ρ ν => ∃ tv o' D', ρ = eρ sl wa kd secret k tv (.list (rowL r)) (.list (rowL q)) (.int (wordN n1)) .un ∧ ν = [.obj (kd, o'), .lst wa wl1] ∧ DK w kd o' D' ∧ D'.n ≤ 100 + j ∧ D'.f (keyOf (sigB r)) = some n1, ⟨tv, ko, D, rfl, rfl, hd, hn, h1⟩, ?_, ?_⟩
  · rintro j _ _ hj ⟨tv', o', D', rfl, rfl, hd', hn', h1'⟩
    have hj : j < 78 := by (first | lia | omega)
    exact ask_ok (u := 2) hd' (by (first | lia | omega)) (by (first | lia | omega)) (by decide) fun o2 hD => ⟨rfl, _, o2, _, rfl, rfl, hD, Nat.le_trans Dg.add_n (Nat.succ_le_succ hn'), Dg.add_keep h1'⟩
  · rintro _ _ ⟨tv', o', D', rfl, rfl, hd', hn', h1'⟩
    have : (x - ((0 : Nat) : Int)).toNat ≤ 78 := by (first | lia | omega)
    exact law_7 rok qok hk hs hd' (by (first | lia | omega)) h1' hw1
theorem law_5 (hr : Drawn r) (hk : 1 ≤ k ∧ k ≤ 78) (hs : 1 ≤ secret ∧ secret ≤ 78) (hd : DK w kd ko D) (hn : D.n ≤ 50) (hw : WK wl) :
    wS w 60 (tN 5) (eρ sl wa kd secret k tv (.list (rowL r)) .un .un .un) [.obj (kd, ko), .lst wa wl] lawR := by
  refine CallOK.mono (k := 2) (k' := 60) (chg_ok (μ1 := [.obj (kd, ko)]) (μ2 := []) hw hr fun q wl1 qok hw1 => ?_) (by decide)
  refine CallOK.mono (k := 10) (k' := 60) (lword_ok (μ1 := []) (r := r) hd (Nat.le_trans hn (by decide)) hr.ok fun o' hD => ?_) (by decide)
  exact law_6 hr.ok qok hk hs hD (Nat.le_trans Dg.add_n (Nat.le_trans (Nat.succ_le_succ hn) (by decide))) Dg.add_f hw1
theorem law_4 (hk : 1 ≤ k ∧ k ≤ 78) (hs : 1 ≤ secret ∧ secret ≤ 78) (hd : DK w kd ko D) (hn : D.n ≤ 50) (hw : WK wl) :
    wS w 60 (tN 4) (eρ sl wa kd secret k tv .un .un .un .un) [.obj (kd, ko), .lst wa wl] lawR :=
  CallOK.mono (k := 4) (k' := 60) (drawn_ok (μ1 := [.obj (kd, ko)]) (μ2 := []) hw fun r wl1 hr hw1 => law_5 hr hk hs hd hn hw1) (by decide)
theorem law_3 (hk : 1 ≤ k ∧ k ≤ 78) (hs : 1 ≤ secret ∧ secret ≤ 78) (hd : DK w kd ko dg0) (hw : WK wl) :
    wS w 60 (tN 3) (eρ sl wa kd secret k .un .un .un .un .un) [.obj (kd, ko), .lst wa wl] lawR := by
  refine CallOK.mono (k := 1) (k' := 60) (draw_ok (μ1 := [.obj (kd, ko)]) (μ2 := []) hw (by decide) fun x wl1 x0 x1 hw1 => ?_) (by decide)
  refine ⟨⟨⟨x0, Int.le_trans (Int.le_of_lt x1) (by decide)⟩, by decide⟩, fun j ρ ν => ∃ tv o' D', ρ = eρ sl wa kd secret k tv .un .un .un .un ∧ ν = [.obj (kd, o'), .lst wa wl1] ∧ DK w kd o' D' ∧ D'.n ≤ j, ⟨.un, ko, dg0, rfl, rfl, hd, Nat.le_refl 0⟩, ?_, ?_⟩
  · rintro j _ _ hj ⟨tv', o', D', rfl, rfl, hd', hn'⟩
    have hj : j < 40 := by (first | lia | omega)
    exact ask_ok (u := 1) hd' (by (first | lia | omega)) (by (first | lia | omega)) (by decide) fun o2 hD => ⟨rfl, _, o2, _, rfl, rfl, hD, Nat.le_trans Dg.add_n (Nat.succ_le_succ hn')⟩
  · rintro _ _ ⟨tv', o', D', rfl, rfl, hd', hn'⟩
    have : (x - ((0 : Nat) : Int)).toNat ≤ 40 := by (first | lia | omega)
    exact law_4 hk hs hd' (by (first | lia | omega)) hw1
theorem law_0 (ns : List Int) (hns : ns.length ≤ 63) : wS w 60 restT (.raw (.ref sl) :: .raw (.ref wa) :: .list tblV :: .list I79 :: List.replicate 17 .un) [.lst wa [.list ((ns.take 40).map .int), .int 0, .int 5]] lawR := by
  have hw : WK [.list ((ns.take 40).map .int), .int 0, .int 5] := ⟨ns.take 40, 0, 5, rfl, by rw [List.length_take]; (first | lia | omega), by decide, by decide, by decide⟩
  refine CallOK.mono (k := 2) (k' := 60) (num_mk fun kd hd => ?_) (by decide)
  refine CallOK.mono (k := 3) (k' := 60) (crv_ok ?_) (by decide)
  refine CallOK.mono (k := 2) (k' := 60) (set_mk ?_) (by decide)
  refine CallOK.mono (k := 1) (k' := 60) (draw_ok (μ1 := [.obj (kd, dictOf [] 0)]) (μ2 := []) hw (by decide) fun v wl1 v0 v1 hw1 => ?_) (by decide)
  refine CallOK.mono (k := 1) (k' := 60) (draw_ok (μ1 := [.obj (kd, dictOf [] 0)]) (μ2 := []) hw1 (by decide) fun u wl2 u0 u1 hw2 => ?_) (by decide)
  obtain ⟨a, rfl⟩ := Int.eq_ofNat_of_zero_le v0
  obtain ⟨b, rfl⟩ := Int.eq_ofNat_of_zero_le u0
  exact law_3 (secret := 1 + a) (k := 1 + b) ⟨by (first | lia | omega), by (first | lia | omega)⟩ ⟨by (first | lia | omega), by (first | lia | omega)⟩ hd hw2
end
theorem law_walk : sndOf hd := law_top fun w ns wa sl h => law_0 ns h
set_option tactic.hygienic true
end
noncomputable def left.tw6860854114324739553 : Nat := 0
noncomputable def left.tw17615969120643129875 : Nat := 0
noncomputable def left.tw13346930428620180881 : Nat := 0
noncomputable def left.tw8803520099591800177 : Nat := 0
noncomputable def left.tw15692723794750608050 : Nat := 0
noncomputable def left.tw1129047881922804409 : Nat := 0
noncomputable def left.tw5471574347014984010 : Nat := 0
noncomputable def left.tw8207549455859064944 : Nat := 0
noncomputable def left.tw7831521669703977055 : Nat := 0
noncomputable def left.tw12490703189174989606 : Nat := 0
noncomputable def left.tw4347137292517815337 : Nat := 0
noncomputable def left.tw15552159793137356616 : Nat := 0
noncomputable def left.tw216158926086795790 : Nat := 0
noncomputable def left.tw12202779133320180830 : Nat := 0
noncomputable def left.tw15560919045853913050 : Nat := 0
noncomputable def left.tw9564812752456262200 : Nat := 0
noncomputable def left.tw2121887294260824502 : Nat := 0
noncomputable def left.tw6379534398832791831 : Nat := 0
noncomputable def left.tw16587011450207885310 : Nat := 0
noncomputable def left.tw15248823433397124647 : Nat := 0
noncomputable def left.tw11304041720320558971 : Nat := 0
noncomputable def left.tw11370268684683296699 : Nat := 0
noncomputable def left.tw10545244833756504468 : Nat := 0
noncomputable def left.tw9061202221313246690 : Nat := 0
noncomputable def left.tw9773181907768743272 : Nat := 0
noncomputable def left.tw4489462798095017414 : Nat := 0
noncomputable def left.tw14416966632179464223 : Nat := 0
noncomputable def left.tw17711621395969873754 : Nat := 0
noncomputable def left.tw12993552966330328315 : Nat := 0
noncomputable def left.tw15608853406663499416 : Nat := 0
noncomputable def left.tw17437390732388045990 : Nat := 0
noncomputable def left.tw13226833206374660533 : Nat := 0
noncomputable def left.tw4353597975115308037 : Nat := 0
noncomputable def left.tw1893376023881890633 : Nat := 0
noncomputable def left.tw10256386411441557798 : Nat := 0
noncomputable def left.tw11611224961057276595 : Nat := 0
noncomputable def left.tw8175617888867968475 : Nat := 0
noncomputable def left.tw7659320520700088669 : Nat := 0
noncomputable def left.tw18029117483783319497 : Nat := 0
noncomputable def left.tw17505251581537069923 : Nat := 0
noncomputable def left.tw1363686016858197808 : Nat := 0
noncomputable def left.tw11741918580612730762 : Nat := 0
noncomputable def left.tw11561834220207606538 : Nat := 0
noncomputable def left.tw7686691077478463266 : Nat := 0
noncomputable def left.tw14630117582143699747 : Nat := 0
noncomputable def left.tw17231592701337169104 : Nat := 0
noncomputable def left.tw18311324124150051773 : Nat := 0
noncomputable def left.tw1985274675474967393 : Nat := 0
noncomputable def left.tw7807978389932575557 : Nat := 0
noncomputable def left.tw5230269776742887072 : Nat := 0
noncomputable def left.tw9175227809439305611 : Nat := 0
noncomputable def left.tw13924660416797587419 : Nat := 0
noncomputable def left.tw3789901954800668339 : Nat := 0
noncomputable def left.tw4601418690812010711 : Nat := 0
noncomputable def left.tw11116273132371693858 : Nat := 0
noncomputable def left.tw3691825728171306889 : Nat := 0
noncomputable def left.tw12356721104814363197 : Nat := 0
noncomputable def left.tw9040609685534379163 : Nat := 0
noncomputable def left.tw3207305721191766147 : Nat := 0
noncomputable def left.tw1223745742223699406 : Nat := 0
noncomputable def left.tw17014002307350867007 : Nat := 0
noncomputable def left.tw14452968524310018771 : Nat := 0
noncomputable def left.tw4542541825098672310 : Nat := 0
noncomputable def left.tw17697796369020777600 : Nat := 0
noncomputable def left.tw7857815985408435568 : Nat := 0
noncomputable def left.tw4727920720577402637 : Nat := 0
noncomputable def left.tw12734336549348356788 : Nat := 0
noncomputable def left.tw14007281954563547404 : Nat := 0
noncomputable def left.tw12015992243965489243 : Nat := 0
noncomputable def left.tw3884016433495722566 : Nat := 0
noncomputable def left.tw2341726862095274966 : Nat := 0
noncomputable def left.tw1745764893773006261 : Nat := 0
noncomputable def left.tw4395567243408122132 : Nat := 0
noncomputable def left.tw1046897063461232577 : Nat := 0
noncomputable def left.tw4787958415307381390 : Nat := 0
noncomputable def left.tw9142686910441887210 : Nat := 0
noncomputable def left.tw8121825820727831143 : Nat := 0
noncomputable def left.tw5636254567344182662 : Nat := 0
noncomputable def left.tw9974907699682404144 : Nat := 0
noncomputable def left.tw15630633530297786521 : Nat := 0
noncomputable def left.tw11742288132445340615 : Nat := 0
noncomputable def left.tw2687931651891054171 : Nat := 0
noncomputable def left.tw4730750878445362299 : Nat := 0
noncomputable def left.tw18336886721016090412 : Nat := 0
noncomputable def left.tw10497113061955055993 : Nat := 0
noncomputable def left.tw5345740813200158519 : Nat := 0
noncomputable def left.tw12782903245148790160 : Nat := 0
noncomputable def left.tw9014414747297604622 : Nat := 0
noncomputable def left.tw11267677684990646848 : Nat := 0
noncomputable def left.tw2626298145180874205 : Nat := 0
noncomputable def left.tw5015176778083012706 : Nat := 0
noncomputable def left.tw1988294207759718101 : Nat := 0
noncomputable def left.tw7843870615901454594 : Nat := 0
noncomputable def left.tw8525144318441121549 : Nat := 0
noncomputable def left.tw18046205338796328166 : Nat := 0
noncomputable def left.tw18289767875218844580 : Nat := 0
noncomputable def left.tw7184890641987405425 : Nat := 0
noncomputable def left.tw9241849893194190339 : Nat := 0
noncomputable def left.tw5979233295252247645 : Nat := 0
noncomputable def left.tw16718163421302513040 : Nat := 0
noncomputable def left.tw14904296272429108295 : Nat := 0
noncomputable def left.tw1254135645399619788 : Nat := 0
noncomputable def left.tw16491738809602619345 : Nat := 0
noncomputable def left.tw7004683451600049562 : Nat := 0
noncomputable def left.tw13218556168328081224 : Nat := 0
noncomputable def left.tw9786312453151405239 : Nat := 0
noncomputable def left.tw15309015439086172897 : Nat := 0
noncomputable def left.tw441177552857648786 : Nat := 0
noncomputable def left.tw15130306369687750693 : Nat := 0
noncomputable def left.tw5325378501857689255 : Nat := 0
noncomputable def left.tw16976186873979735403 : Nat := 0
noncomputable def left.tw13274080617647867042 : Nat := 0
noncomputable def left.tw2125306935990770624 : Nat := 0
noncomputable def left.tw11540845610898119186 : Nat := 0
noncomputable def left.tw6927017488852815647 : Nat := 0
noncomputable def left.tw15023046862821950193 : Nat := 0
noncomputable def left.tw14841474785589213233 : Nat := 0
noncomputable def left.tw7383145387226023249 : Nat := 0
noncomputable def left.tw5146028044943863504 : Nat := 0
noncomputable def left.tw1880143842471278353 : Nat := 0
noncomputable def left.tw6127282377307187143 : Nat := 0
noncomputable def left.tw13040489704264440535 : Nat := 0
noncomputable def left.tw15150298279212707257 : Nat := 0
noncomputable def left.tw5311710907527013995 : Nat := 0
noncomputable def left.tw4793887082149947597 : Nat := 0
noncomputable def left.tw12997541620905208745 : Nat := 0
noncomputable def left.tw1304717925136002927 : Nat := 0
noncomputable def left.tw5141494762143068309 : Nat := 0
noncomputable def left.tw12358095837965013926 : Nat := 0
noncomputable def left.tw12438852744482100789 : Nat := 0
noncomputable def left.tw13334989193672951795 : Nat := 0
noncomputable def left.tw12317226770626834579 : Nat := 0
noncomputable def left.tw9693087805405979517 : Nat := 0
noncomputable def left.tw17036744071539419096 : Nat := 0
noncomputable def left.tw5975778768647462407 : Nat := 0
noncomputable def left.tw3031371785057515284 : Nat := 0
noncomputable def left.tw8103928304910830274 : Nat := 0
noncomputable def left.tw12315566853318643478 : Nat := 0
noncomputable def left.tw13830276570113600298 : Nat := 0
noncomputable def left.tw9881974990498121512 : Nat := 0
noncomputable def left.tw3746811645459356943 : Nat := 0
noncomputable def left.tw12557426681644402182 : Nat := 0
noncomputable def left.tw3060770867945613701 : Nat := 0
noncomputable def left.tw2037518677745461029 : Nat := 0
noncomputable def left.tw12281449840040871347 : Nat := 0
noncomputable def left.tw14134255269658797662 : Nat := 0
noncomputable def left.tw2737744863713738095 : Nat := 0
noncomputable def left.tw12369461380471000539 : Nat := 0
noncomputable def left.tw7591003848623993179 : Nat := 0
noncomputable def left.tw9674671600702244242 : Nat := 0
noncomputable def left.tw8311542857614695682 : Nat := 0
noncomputable def left.tw6344129971342327896 : Nat := 0
noncomputable def left.tw9179613791492743470 : Nat := 0
noncomputable def left.tw14591101849549550829 : Nat := 0
noncomputable def left.tw3150591360373913280 : Nat := 0
noncomputable def left.tw15966324404689925951 : Nat := 0
noncomputable def left.tw13621995913637967754 : Nat := 0
noncomputable def left.tw1733358190782052672 : Nat := 0
noncomputable def left.tw197870795437958485 : Nat := 0
noncomputable def left.tw14106924175503427885 : Nat := 0
noncomputable def left.tw8724555940855826307 : Nat := 0
noncomputable def left.tw12950348844343933060 : Nat := 0
noncomputable def left.tw1544766528295230410 : Nat := 0
noncomputable def left.tw5982150389648779276 : Nat := 0
noncomputable def left.tw17843237756364363044 : Nat := 0
noncomputable def left.tw6181692410250106979 : Nat := 0
noncomputable def left.tw6430238957306911940 : Nat := 0
noncomputable def left.tw6340716366496903717 : Nat := 0
noncomputable def left.tw66489006102515110 : Nat := 0
noncomputable def left.tw10209169731344440265 : Nat := 0
noncomputable def left.tw6478600376628014097 : Nat := 0
noncomputable def left.tw6329537301614415141 : Nat := 0
noncomputable def left.tw8424847000148699239 : Nat := 0
noncomputable def left.tw5054362774269152462 : Nat := 0
noncomputable def left.tw600397798997955378 : Nat := 0
noncomputable def left.tw357486453476387696 : Nat := 0
noncomputable def left.tw9690073872827788543 : Nat := 0
noncomputable def left.tw8287925586298167565 : Nat := 0
noncomputable def left.tw12817532065343064706 : Nat := 0
noncomputable def left.tw3191848008515570394 : Nat := 0
noncomputable def left.tw13342650174906684284 : Nat := 0
noncomputable def left.tw12023544485869644428 : Nat := 0
noncomputable def left.tw12809254123221137293 : Nat := 0
noncomputable def left.tw14185209255420309271 : Nat := 0
noncomputable def left.tw13918691539872820915 : Nat := 0
noncomputable def left.tw11751496353377407122 : Nat := 0
noncomputable def left.tw9279506062988143674 : Nat := 0
noncomputable def left.tw3969496689101431527 : Nat := 0
noncomputable def left.tw6271022116355136546 : Nat := 0
noncomputable def left.tw13430007999514716315 : Nat := 0
noncomputable def left.tw10179673160384373534 : Nat := 0
noncomputable def left.tw18193594736174775243 : Nat := 0
noncomputable def left.tw16478796857054019708 : Nat := 0
noncomputable def left.tw12440826426070541043 : Nat := 0
noncomputable def left.tw5328464313782485826 : Nat := 0
noncomputable def left.tw11328717148215825293 : Nat := 0
noncomputable def left.tw1451710973134968933 : Nat := 0
noncomputable def left.tw11022495552240593828 : Nat := 0
noncomputable def left.tw18125934087633027436 : Nat := 0
noncomputable def left.tw5233231172979365235 : Nat := 0
noncomputable def left.tw13530390655042401008 : Nat := 0
noncomputable def left.tw11558512302602989142 : Nat := 0
noncomputable def left.tw4821453697003687529 : Nat := 0
noncomputable def left.tw13364247555786964156 : Nat := 0
noncomputable def left.tw6079531504047495687 : Nat := 0
noncomputable def left.tw9617616547176521384 : Nat := 0
noncomputable def left.tw15099661793649438041 : Nat := 0
noncomputable def left.tw7531498452757633594 : Nat := 0
noncomputable def left.tw13051862436137710327 : Nat := 0
noncomputable def left.tw1903068400676924581 : Nat := 0
noncomputable def left.tw14953899456640022055 : Nat := 0
noncomputable def left.tw7990518068206596757 : Nat := 0
noncomputable def left.tw13794604998122610100 : Nat := 0
noncomputable def left.tw293621963135360512 : Nat := 0
noncomputable def left.tw7761515536421617958 : Nat := 0
noncomputable def left.tw16527638823625220453 : Nat := 0
noncomputable def left.tw4229963709926515320 : Nat := 0
noncomputable def left.tw17579278438069799176 : Nat := 0
noncomputable def left.tw13238140433448828382 : Nat := 0
noncomputable def left.tw3219837590169047859 : Nat := 0
noncomputable def left.tw12161698191574608743 : Nat := 0
noncomputable def left.tw5777511573246548757 : Nat := 0
noncomputable def left.tw1187454000392326399 : Nat := 0
noncomputable def left.tw13600915141181971031 : Nat := 0
noncomputable def left.tw15651264263332840822 : Nat := 0
noncomputable def left.tw13917343715190758281 : Nat := 0
noncomputable def left.tw4927496761294116228 : Nat := 0
noncomputable def left.tw6891154057977917732 : Nat := 0
noncomputable def left.tw11476376700303643087 : Nat := 0
noncomputable def left.tw6484015392448588396 : Nat := 0
noncomputable def left.tw5840840180869434077 : Nat := 0
noncomputable def left.tw17347385210630387465 : Nat := 0
noncomputable def left.tw14730715848814321948 : Nat := 0
noncomputable def left.tw10033850479068168623 : Nat := 0
noncomputable def left.tw14262933350132513526 : Nat := 0
noncomputable def left.tw15798144084868576005 : Nat := 0
noncomputable def left.tw5758845068106442746 : Nat := 0
noncomputable def left.tw13409020890884816671 : Nat := 0
noncomputable def left.tw6253372995550657977 : Nat := 0
noncomputable def left.tw175867871583210349 : Nat := 0
noncomputable def left.tw14202437277625228298 : Nat := 0
noncomputable def left.tw3665202059434680709 : Nat := 0
noncomputable def left.tw18245542231536492863 : Nat := 0
noncomputable def left.tw8642940997837961351 : Nat := 0
noncomputable def left.tw11475916119603387521 : Nat := 0
noncomputable def left.tw9593448174364633727 : Nat := 0
noncomputable def left.tw5605696582311864651 : Nat := 0
noncomputable def left.tw17918731595228751264 : Nat := 0
noncomputable def left.tw8957087978856992030 : Nat := 0
noncomputable def left.tw7964662051644605411 : Nat := 0
noncomputable def left.tw13783982314861833715 : Nat := 0
noncomputable def left.tw10182510533951622544 : Nat := 0
noncomputable def left.tw3317105475318773247 : Nat := 0
noncomputable def left.tw713507697797212648 : Nat := 0
noncomputable def left.tw9368272003886206938 : Nat := 0
noncomputable def left.tw17754654384541446146 : Nat := 0
noncomputable def left.tw9442386859629638911 : Nat := 0
noncomputable def left.tw17957586997340028168 : Nat := 0
noncomputable def left.tw7351529114510660042 : Nat := 0
noncomputable def left.tw9980767789842257941 : Nat := 0
noncomputable def left.tw15568081794291975298 : Nat := 0
noncomputable def left.tw7986412331376227898 : Nat := 0
noncomputable def left.tw9590680949963610515 : Nat := 0
noncomputable def left.tw7792888156242153162 : Nat := 0
noncomputable def left.tw7856722289336767411 : Nat := 0
noncomputable def left.tw18333326744384333972 : Nat := 0
noncomputable def left.tw15692628875698285579 : Nat := 0
noncomputable def left.tw13588670805678591013 : Nat := 0
noncomputable def left.tw6956908445091105477 : Nat := 0
noncomputable def left.tw1072432864016260133 : Nat := 0
noncomputable def left.tw14102566695447932490 : Nat := 0
noncomputable def left.tw570634368378970182 : Nat := 0
noncomputable def left.tw15337256723296162247 : Nat := 0
noncomputable def left.tw5215604804788603086 : Nat := 0
noncomputable def left.tw18269732300434641140 : Nat := 0
noncomputable def left.tw17305294282995476296 : Nat := 0
noncomputable def left.tw10262166304483644372 : Nat := 0
noncomputable def left.tw4660476320827963798 : Nat := 0
noncomputable def left.tw15387189751188481776 : Nat := 0
noncomputable def left.tw13900878795584300207 : Nat := 0
noncomputable def left.tw10883313555387499708 : Nat := 0
noncomputable def left.tw17732492262327099572 : Nat := 0
noncomputable def left.tw16138783781342146796 : Nat := 0
noncomputable def left.tw6181344930624877610 : Nat := 0
noncomputable def left.tw11688981301955081313 : Nat := 0
noncomputable def left.tw1066925079118519654 : Nat := 0
noncomputable def left.tw11824326441471557311 : Nat := 0
noncomputable def left.tw11099424026905612073 : Nat := 0
noncomputable def left.tw4523142755951121244 : Nat := 0
noncomputable def left.tw1805036438167378005 : Nat := 0
noncomputable def left.tw12459664562214534592 : Nat := 0
noncomputable def left.tw6467780426542064644 : Nat := 0
noncomputable def left.tw15317189015397518194 : Nat := 0
noncomputable def left.tw6338702256602230877 : Nat := 0
noncomputable def left.tw9785781270522831250 : Nat := 0
noncomputable def left.tw12841511134183157074 : Nat := 0
noncomputable def left.tw10560650421270493612 : Nat := 0
noncomputable def left.tw16960728842414889776 : Nat := 0
noncomputable def left.tw14140284516111470953 : Nat := 0
noncomputable def left.tw18277220259959596465 : Nat := 0
noncomputable def left.tw1297496008851490162 : Nat := 0
noncomputable def left.tw17276252674101441275 : Nat := 0
noncomputable def left.tw6671322027841610769 : Nat := 0
noncomputable def left.tw4256641406850833979 : Nat := 0
noncomputable def left.tw5140497235983508331 : Nat := 0
noncomputable def left.tw913569938377557763 : Nat := 0
noncomputable def left.tw7962583583197499151 : Nat := 0
noncomputable def left.tw5026904603143193410 : Nat := 0
noncomputable def left.tw16557656335607025129 : Nat := 0
noncomputable def left.tw6172979098770301822 : Nat := 0
noncomputable def left.tw10143405938765005481 : Nat := 0
noncomputable def left.tw2576615309115021506 : Nat := 0
noncomputable def left.tw16743428827577892753 : Nat := 0
noncomputable def left.tw2550101192098192838 : Nat := 0
noncomputable def left.tw9937757902560833323 : Nat := 0
noncomputable def left.tw3391366902148080223 : Nat := 0
noncomputable def left.tw10609428843484158523 : Nat := 0
noncomputable def left.tw1210477050624216031 : Nat := 0
noncomputable def left.tw7809765691947034327 : Nat := 0
noncomputable def left.tw3777694670016643037 : Nat := 0
noncomputable def left.tw13986459623980930412 : Nat := 0
noncomputable def left.tw4722638684531431363 : Nat := 0
noncomputable def left.tw11609343907124731950 : Nat := 0
noncomputable def left.tw8224231849783353159 : Nat := 0
noncomputable def left.tw11661825415886592652 : Nat := 0
noncomputable def left.tw11958156957937890614 : Nat := 0
noncomputable def left.tw4177535187734046612 : Nat := 0
noncomputable def left.tw5887850209532510023 : Nat := 0
noncomputable def left.tw7575708160884200643 : Nat := 0
noncomputable def left.tw10087329720646860509 : Nat := 0
noncomputable def left.tw3541312328011835874 : Nat := 0
noncomputable def left.tw6201766966481036055 : Nat := 0
noncomputable def left.tw14498891537802568778 : Nat := 0
noncomputable def left.tw5810906224381282524 : Nat := 0
noncomputable def left.tw11645645356114842879 : Nat := 0
noncomputable def left.tw7203639259665647166 : Nat := 0
noncomputable def left.tw7234021835422384778 : Nat := 0
noncomputable def left.tw18237569625807129217 : Nat := 0
noncomputable def left.tw15500958973802345580 : Nat := 0
noncomputable def left.tw6579484601361349225 : Nat := 0
noncomputable def left.tw10870860360433079504 : Nat := 0
noncomputable def left.tw13886692527419010710 : Nat := 0
noncomputable def left.tw14936824573435359795 : Nat := 0
noncomputable def left.tw8217742398764144758 : Nat := 0
noncomputable def left.tw14418934472424868120 : Nat := 0
noncomputable def left.tw13833008023571501589 : Nat := 0
noncomputable def left.tw729597280060366536 : Nat := 0
noncomputable def left.tw9477364778139411913 : Nat := 0
noncomputable def left.tw15333888422682877658 : Nat := 0
noncomputable def left.tw8812064511318443822 : Nat := 0
noncomputable def left.tw15472741514179313805 : Nat := 0
noncomputable def left.tw13059306584284192189 : Nat := 0
noncomputable def left.tw13262983923050879016 : Nat := 0
noncomputable def left.tw12959562207316844193 : Nat := 0
noncomputable def left.tw2508255044705368994 : Nat := 0
noncomputable def left.tw6657759233358708473 : Nat := 0
noncomputable def left.tw7408491178043503734 : Nat := 0
noncomputable def left.tw1849890066055018212 : Nat := 0
noncomputable def left.tw2201375081795782523 : Nat := 0
noncomputable def left.tw14126844000526846292 : Nat := 0
noncomputable def left.tw16840920206810730313 : Nat := 0
noncomputable def left.tw465418630487083611 : Nat := 0
noncomputable def left.tw18260590464796327534 : Nat := 0
noncomputable def left.tw18413136178168696289 : Nat := 0
noncomputable def left.tw1925953502979190743 : Nat := 0
noncomputable def left.tw1399665183164206025 : Nat := 0
noncomputable def left.tw12535030932219989364 : Nat := 0
noncomputable def left.tw8070862196266509549 : Nat := 0
noncomputable def left.tw6316535871324987009 : Nat := 0
noncomputable def left.tw14667102317856833503 : Nat := 0
noncomputable def left.tw5971216192702116674 : Nat := 0
noncomputable def left.tw18107603315756180064 : Nat := 0
noncomputable def left.tw12297700991395419406 : Nat := 0
noncomputable def left.tw5091907591918971918 : Nat := 0
noncomputable def left.tw10868912989937390445 : Nat := 0
noncomputable def left.tw4232518973763252075 : Nat := 0
noncomputable def left.tw3707323365333952127 : Nat := 0
noncomputable def left.tw12791001641629359738 : Nat := 0
noncomputable def left.tw17455788676648917504 : Nat := 0
noncomputable def left.tw5205432766805872036 : Nat := 0
noncomputable def left.tw11658599626812424081 : Nat := 0
noncomputable def left.tw10187066271848162098 : Nat := 0
noncomputable def left.tw6344032613518549982 : Nat := 0
noncomputable def left.tw18214064924823687947 : Nat := 0
noncomputable def left.tw8445713607014714551 : Nat := 0
noncomputable def left.tw2933644757141575419 : Nat := 0
noncomputable def left.tw4811882328835170538 : Nat := 0
noncomputable def left.tw18311408142467001650 : Nat := 0
noncomputable def left.tw9687453282412708072 : Nat := 0
noncomputable def left.tw4884106663507342984 : Nat := 0
noncomputable def left.tw7708542350379002418 : Nat := 0
noncomputable def left.tw2527053822910969410 : Nat := 0
noncomputable def left.tw7284037488517642724 : Nat := 0
noncomputable def left.tw14768252079023202053 : Nat := 0
noncomputable def left.tw11194817466689469313 : Nat := 0
noncomputable def left.tw17318673317079457764 : Nat := 0
noncomputable def left.tw18158236158231261745 : Nat := 0
noncomputable def left.tw11747500417455761407 : Nat := 0
noncomputable def left.tw15153824073404313638 : Nat := 0
noncomputable def left.tw10601313874151556489 : Nat := 0
noncomputable def left.tw7246926081072957796 : Nat := 0
noncomputable def left.tw17146708102230651676 : Nat := 0
noncomputable def left.tw1508320659539494920 : Nat := 0
noncomputable def left.tw3930111360077716753 : Nat := 0
noncomputable def left.tw7805062997515121479 : Nat := 0
noncomputable def left.tw2804921168362233923 : Nat := 0
noncomputable def left.tw7336946248030305814 : Nat := 0
noncomputable def left.tw2595306304908868969 : Nat := 0
noncomputable def left.tw4350884512671353810 : Nat := 0
noncomputable def left.tw12565684408609080849 : Nat := 0
noncomputable def left.tw11310005001180010205 : Nat := 0
noncomputable def left.tw12924136601568335405 : Nat := 0
noncomputable def left.tw9347541995480993860 : Nat := 0
noncomputable def left.tw4996661729215439937 : Nat := 0
noncomputable def left.tw16069456915747030455 : Nat := 0
noncomputable def left.tw9086540958804509621 : Nat := 0
noncomputable def left.tw12935179443516416754 : Nat := 0
noncomputable def left.tw13283239134539099053 : Nat := 0
noncomputable def left.tw6060282504093114219 : Nat := 0
noncomputable def left.tw2829597849042729800 : Nat := 0
noncomputable def left.tw924503743653488148 : Nat := 0
noncomputable def left.tw7666210433114993222 : Nat := 0
noncomputable def left.tw17829125627131500314 : Nat := 0
noncomputable def left.tw16556937037787433617 : Nat := 0
noncomputable def left.tw14196573756848182512 : Nat := 0
noncomputable def left.tw8517501710897700842 : Nat := 0
noncomputable def left.tw1599709829766544441 : Nat := 0
noncomputable def left.tw3625201574081574099 : Nat := 0
noncomputable def left.tw17798269026850736146 : Nat := 0

section
local macro_rules
  | `(tactic| refine $f:ident (q := $q) (loose := $l) (Xt := $x) (XP := $xp) (Yf := $yf) (Ya := $ya) (YP := $yp) (N := $n) $hl $a1 $a2 $a3 $a4 $a5 $a6 $a7 $a8 $a9 $b1 $b2 $b3 $hw $hc) =>
    `(tactic| contradiction)
set_option Elab.async true in
theorem left : (False → (PySem.Challenge.rw_sa0314_01).row.Holds) ∧ fstOf hd := by
  delta fstOf
  refine ⟨fun hF => ?d, ?hl⟩
  o_head (Hook.none)
end
end Mine
theorem PySem.Challenge.cw_sa0314_01_holds : PySem.Challenge.rw_sa0314_01.Holds :=
  Mine.hd ⟨Mine.left.2, Mine.law_walk⟩
